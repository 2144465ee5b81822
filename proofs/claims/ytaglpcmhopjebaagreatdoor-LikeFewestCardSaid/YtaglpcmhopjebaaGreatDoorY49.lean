import Derived.Test.YtaglpcmhopjebaaGreatDoorY48
set_option linter.all false
set_option maxRecDepth 100000
set_option maxHeartbeats 20000000
namespace Go.Tm
open Go.Proofs Go.RowKit Go.Conc
def LR.steps{Q n fr fr' cs cs' w w'}(h:LR Q n fr cs w fr' cs' w'):Steps Q (lone fr cs w) (lone fr' cs' w'):=⟨n,h⟩
section
variable {Q:Program}
def QO(b:Q.funcs[74]? =some g74)(v x V cs w w')(a:(Builtin.append_ #[62,62] 62 #[.slice none 0 0,x]).run Q w=.ok V w'):
 ∃fr,LR Q 4 ((gC v).finish x) cs w fr cs w'/\fr.fn=74/\fr.leaving Q w' (.returned V):=by
 refine⟨{(base 74).at ⟨gT v V (.bool true) (.bool true) undef x V,[]⟩ (.code .ret::[])with mode:=.returning},?_,rfl,?_⟩
 ·unfold gC
  rw[Frame.finish_at];show LR Q _ ((base 74).at ⟨gT v undef (.bool true) (.bool true) undef x undef,[]⟩ [.inRegion nj [1,2],.code .ret]) cs w _ _ _;refine .step (stepG_value (v:=V) (w':=w') rfl rfl (dR 74) ?_) ?_
  ·show(execOp (Act.eval ⟨gT v undef (.bool true) (.bool true) undef x undef,[]⟩) {dst:=some 7,op:=.call {callee:=.builtin .append,args:=#[.const (.slice none 0 0),.tmp 6],argTypes:=#[62,62]},type:=62,pos:= "",after:=#[],guard:=none}).run Q w=_
   simp[execOp,resolve,invoke,builtin,Act.eval,gT,a]
  show LR Q _ ((base 74).at ⟨gT v undef (.bool true) (.bool true) undef x V,[]⟩ [.inRegion nj [2],.code .ret]) cs w' _ _ _;refine .step (stepG_value (v:=V) (w':=w') rfl rfl (dR 74) rfl) ?_;show LR Q _ ((base 74).at ⟨gT v V (.bool true) (.bool true) undef x V,[]⟩ [.inRegion nj [],.code .ret]) cs w' _ _ _;refine .step stepG_region_end ?_;refine .step stepG_ret' ?_;exact .refl
 ·exact⟨rfl,rfl,rfl,g74,b,results_tmp (t:=2) rfl _ _ _⟩
def OV(v cs w){d}(c:Q.underlying 125=some d)(e:∀x,d≠ .interface x)(h:w.tape w.drawn (.order 74 1)%2=1):
 oW Q ((base 74).at ⟨gT v undef (.bool false) undef undef undef undef,[]⟩ [.code (.region 1 pC true),.code tX]) cs w λa b w1=>b=cs/\w1=w.drew/\a.mode=.panicking (jo v)/\a.defers=[]/\a.fn=74:=by
 refine .step qk ?_;rw[show(base 74).fn=74 from rfl,FL,Ro (by omega)];refine .step (stepG_value (v:=.bool false) (w':=w.drew) rfl rfl (dR 74) rfl) ?_;refine .step (stepG_value (v:=.bool true) (w':=w.drew) rfl rfl (dR 74) rfl) ?_;refine .step stepG_region_end ?_;show oW Q ((base 74).at ⟨gT v undef (.bool true) (.bool false) undef undef undef,[]⟩ [.code tX]) cs w.drew _;refine .step stepG_seq ?_;refine .step (stepG_cond (t:=false) rfl) ?_;refine .step (iX (l:=[0,1,2]) rfl) ?_;refine .step (stepG_value (v:=.iface 125 v) (w':=w.drew) rfl rfl (dR 74) ?_) ?_
 ·show(do pure (.value (<-Instr.makeInterface 125 v)):Sem Next).run Q w.drew=_
  simp only[Instr.makeInterface,underlying];cases d with
  |interface x=>exact absurd rfl (e x)
  |_=>simp[c]
 show oW Q ((base 74).at ⟨gT v undef (.bool true) (.bool false) (.iface 125 v) undef undef,[]⟩ (.inRegion Dz [1,2]::[.code (.seq (.region 3 nj false) .ret)])) cs w.drew _;refine .jh (rJ (d:=⟨.builtin .panic #[0] 0 #[false],#[.iface 125 v]⟩) rfl rfl (dR 74) ?_) ?_
 ·show(do pure (.defer (<-resolve (Act.eval ⟨gT v undef (.bool true) (.bool false) (.iface 125 v) undef undef,[]⟩) {callee:=.builtin .panic,args:=#[.tmp 5],argTypes:=#[0]} 0)):Sem Next).run Q w.drew=_
  simp[resolve,Act.eval,gT]
 show oW Q ((base 74).at ⟨gT v undef (.bool true) (.bool false) (.iface 125 v) undef undef,[⟨.builtin .panic #[0] 0 #[false],#[.iface 125 v]⟩]⟩ (.inRegion Dz [2]::[.code (.seq (.region 3 nj false) .ret)])) cs w.drew _;refine .jh (rK (x:=.iface 125 v) rfl rfl (dR 74) rfl) ?_;refine .jh (kz (ds:=[]) (ts:=#[0]) (t:=0) (bs:=#[false]) (x:=.iface 125 v) (ch:=[{v:=.iface 125 v,recovered:=false}]) rfl rfl ⟨_,_,rfl⟩) ?_;exact .done ⟨rfl,rfl,rfl,rfl,rfl⟩
def Jf(a:Q.funcs[74]? =some g74){fn}(m:Q.funcs[77]? =some fn)(b:(fn.name== "runtime.NumGoroutine")=false)(o:fn.body.isNone=false)
 {d} (p:Q.underlying 125=some d) (q:∀x,d≠ .interface x) {v} {w} {R}
 (f:R (.panicked (jo v)) w.drew) (i:Calls Q 77 #[v] w.drew λe w'=>∃x V w2,e=.returned x/\(Builtin.append_ #[62,62] 62 #[.slice none 0 0,x]).run Q w'=.ok V w2/\R (.returned V) w2):Calls Q 74 #[v] w R:=by
 intro cs;rw[FO (Q:=Q) a];have a1:=(K8 (Q:=Q) v cs w).steps;obtain h|h:=V5 (w.tape w.drawn (.order 74 1))
 ·have r:=(NZ (Q:=Q) v cs w m b o h).steps
  obtain⟨e,w',fr,⟨x,V,w2,rfl,g,s⟩,t,_,u⟩:=i (gC v::cs);have y:Steps Q _ _:=t;have z:=step_leave_returned (c:=gC v) (cs:=cs) u;obtain⟨j,b1,b2,k⟩:=QO a v x V cs w' w2 g;exact⟨_,w2,j,s,Steps.trans a1 (Steps.trans r (Steps.trans y (Steps.head z b1.steps))),b2,k⟩
 ·obtain⟨n,fr',cs',w',b1,rfl,rfl,b2,k,l⟩:=OV (Q:=Q) v cs w p q h
  refine⟨_,w.drew,fr',f,Steps.trans a1 b1.steps,l,b2,k,g74,by rw[l];exact a⟩
end
end Go.Tm
namespace Go.Proofs
open Go.Tm Go.RowKit
def LB:(Qs (fM g74)).funcs[74]? =some g74:=(wY _ _).trans (rM g74)
def zG:∃d,(Qs (fM g74)).underlying 125=some d/\∀x,d≠ .interface x:=by refine⟨_,(aH _ _ _).trans (Tryz.underlying125),?_⟩;intro x h;cases h
def Rl{sc c}(w)(E:bl (λ_=>True) w sc c)(s:OkC c)(l:∀r∈c.rules,r.kind<=3)(t:jD w):
 Calls (Qs (fM g74)) 74 #[.agg sc] w λe w'=>(∃v,e=.returned v/\fZ w.heap.size w' v (bX c)/\Below w.heap.size w w')\/∃v L,e=.panicked (jo v)/\dN w' v L:=by
 obtain⟨d,p,G⟩:=zG;have x:ae w w.drew:=λ_ _ _ _ h=>h;refine Jf LB (n77 iP) (by kernel_rfl) (by kernel_rfl) p G (.inr ⟨_,_,rfl,sc,c,rfl,E.stays x,s,l,t.stays x (Rq _),rfl⟩) ?_;refine(vA iP w.drew (E.stays x) s).mono λe w' ⟨v,y,H,l⟩=>?_;obtain⟨_,_,I⟩:=zF H l;have q:Below w.heap.size w w':=⟨l.os,l.tape,l.output,l.size,l.block⟩
 have f:(gP (bX c)).length=(bX c).length:=by unfold gP;rw[SJ]
 have S:=ox s;obtain⟨i,m,z,A,B⟩:=Go.Tm.mH;obtain⟨C,rfl⟩|⟨C,a,cp,rfl,j⟩:=I
 ·have F:bX c=[]:=by rw[C]at f;exact Ss f.symm
  exact⟨_,_,w',y,oh ((aH _ _ _).trans underlying62) ((si _ _ _).trans m) _,.inl ⟨_,rfl,⟨⟨by rw[F];rfl,.inl ⟨rfl,by rw[F];rfl⟩⟩,λ_=>rfl⟩,q⟩⟩
 ·have b:0<(gP (bX c)).length:=SY.2 C
  rw[f]at y b;obtain⟨V,w2,J,K,o,T⟩:=ni (P:=Qs (fM g74)) w' w'.heap.size 62 62 66 i (eQ 0 0 0) jR 24 ((aH _ _ _).trans underlying62) ((si _ _ _).trans m) z (by rw[A];rfl) B rfl (by decide)
   (.slice none 0 0) 0 [] ⟨by simp,.inl ⟨rfl,rfl⟩⟩ a (bX c).length cp (bt (gP (bX c))) (by rw[gQ,hU];rfl) j (λu p=>by rw[gQ]at p;obtain⟨n,rfl⟩:=sK _ _ p;rfl) (by simp only[maxLen];omega) (by omega) (Rq _) b
  ·refine⟨_,V,w2,y,J,.inl ⟨V,rfl,⟨?_,λe=>?_⟩,?_⟩⟩
   ·have h:=K.owns
    rw[RB,Tc,gQ]at h;obtain⟨M,N⟩:=h;refine⟨M,N.imp id ?_⟩;rintro⟨g,cap,D,e1,O,e3⟩;exact⟨g,cap,D,e1,Rr q.size O,e3⟩
   ·rw[e]at b
    cases b
   ·exact q.trans ⟨o.os,o.tape,o.output,o.size,λk R=>o.block k (Ru R q.size) (λe=>by cases e)⟩
end Go.Proofs
namespace Go.Tm
open Go.Proofs Go.Conc Go.ConcN Go.RowKit
def df.mono{P A B m t}(h:df P A m t)(k:∀v w,A v w->B v w):df P B m t:=by obtain⟨N,last,o,w',a,b,c,d,v,e,f,g⟩:=h;exact⟨N,last,o,w',a,b,c,d,v,e,k _ _ f,g⟩
def xk(es:Array MapEntry):Prop:=∀e∈es.toList,(∃k n,e.key=.int k n)/\∃k n,e.val=.int k n
def A6{n}{π:Ren n}{es}(h:xk es):aU (iv π) es es:=by refine⟨rfl,λi x y a b=>?_⟩;rw[a]at b;cases b;obtain⟨⟨k,m,c⟩,e,f,d⟩:=h x (by rw[<-Sv]at a;exact SN a);exact⟨by rw[c];exact .int _ _,by rw[d];exact .int _ _,rfl⟩
def A7{n}{π:Ren n}{es c}(h:xk es)(r:aU (iv π) es c):c=es:=by refine(Uy r.1 λi j l=>?_).symm;have d:=r.2 i _ _ (RV j) (RV l);obtain⟨⟨k,m,e⟩,o,p,f⟩:=h es[i] (by rw[UB];exact Uz j);have e1:=d.key;have g:=d.val;have e3:=d.born;rw[e]at e1;rw[f]at g;generalize es[i]=a at*;generalize c[i]=b at*;cases a;cases b;simp only at e f e1 g e3;cases e1;cases g;rw[e,f,e3]
section
variable {W:World} {B:Nat->Prop}
noncomputable abbrev gN:Nat:=Tryz.prog.globals.size
def Jg{n f F}(h:G5 n f F)(k:Fle f F):F=f:=by
 obtain h|⟨b,c,d⟩:=h
 ·exact h
 ·obtain k|⟨k1,a|⟨a,e⟩⟩:=k
  ·exact k
  ·omega
  ·exact Prod.ext (by omega) (by omega)
def LC{f:FuncId}(Q:jC.ent f=true){args}
 (R:∀b,B b->∃o,W.heap[b]? =some o/\((∃c e F,o=.cells c e F)\/∃es a,o=.map es a/\xk es))
 (T:gN<=W.heap.size) (U:∀g,g<5->B g) (X:∀x∈args,az (idR gN B) x x)
 (p:∀(Pr) (w),w.heap=(bZ (idR gN B) Pr W).heap->Calls (Qs (fM g74)) f args w λe w'=>(e=.returned (.bool true)/\Below W.heap.size w w')\/∃v L,e=.panicked (jo v)/\dN w' v L):
 df Tryz.prog (λV i=>V=.bool true/\i.os=W.os/\i.output=W.output/\W.heap.size<=i.heap.size/\∀b,b<W.heap.size->i.heap[b]? =W.heap[b]?) (crowd #[G (Frame.enter Tryz.prog f args .normal) []] W none) #[]:=by
 obtain⟨d,hu,I⟩:=zG;have A:Tryz.prog.underlying 125=some d:=(aH _ _ _).symm.trans hu;have C:∀b,B b->∃o,W.heap[b]? =some o/\((∃c e F,o=.cells c e F)\/(∀c e F,o≠ .cells c e F)/\fA jC (idR gN B) o o):=λb j=>by obtain⟨o,D,E⟩:=R b j;refine⟨o,D,E.imp id ?_⟩;rintro⟨es,a,rfl,y⟩;exact⟨λc e F h=>(by cases h),.map a (A6 y)⟩
 let q:Nat->Prop:=λb=>B b/\∃c e F,W.heap[b]? =some (.cells c e F);let Post:(Nat->Prop)->Value->World->Prop:=λPr v w'=>v=.bool true/\∀b,b<W.heap.size->w'.heap[b]? =(bZ (idR gN B) Pr W).heap[b]?;have calls:∀Pr,∀w:World,w.heap=(bZ (idR gN B) Pr W).heap->Calls (ah Tryz.prog (fM g74)) f args w λe w'=>(∃v,e=.returned v/\Post Pr v w')\/∃v L,e=.panicked (jo v)/\dN w' v L:=λPr w Y=>(p Pr w Y).mono λe w' h=>h.imp (λ⟨D,E⟩=>⟨_,D,rfl,λb j=>by rw[E.block b j,Y]⟩) id
 have hA:=law_ends (S:=jC) (fs:=(fM g74)) (Post:=Post q) (dN:=dN) (PostR:=λV i=>V=.bool true/\i.os=W.os/\i.output=W.output/\W.heap.size<=i.heap.size/\(∀b,b<W.heap.size->¬B b->i.heap[b]? =W.heap[b]?)/\
  (∀b,B b->∀c e F,W.heap[b]? =some (.cells c e F)->∃J,i.heap[b]? =some (.cells c e J))/\∀b,B b->∀es a,W.heap[b]? =some (.map es a)->xk es->i.heap[b]? =some (.map es a))
  DO zz xa tY (rM g74) A I ql D4 xi (Pr:=q) (f:=f) Q (args:=args) (W:=W) (B:=B) C (λb h=>h) (λv V w' i s K Z M l=>by
   obtain⟨rfl,N⟩:=K;refine⟨by cases Z;rfl,l.os,l.output,l.size,λb j hn=>l.keep b j λ⟨r,hr⟩=>hn (hr.1▸hr.2),λb j c e F z=>l.nu b ⟨j,c,e,F,z⟩ c e F z,λb j es a y I=>?_⟩;obtain⟨o,O,m,t,u⟩:=M.obj b b (l.le b b ⟨rfl,j⟩);rw[N b (Rx.1 y).1,fG,y]at m;cases m;have u:fA jC s (.map es a) O:=u;cases u with
   |map n r=>rw[t,A7 I r]) T (λg h=>U g (Su h)) X (calls q)
 have P:=law_ends (S:=jC) (fs:=(fM g74)) (Post:=Post λ_=>False) (dN:=dN) (PostR:=λV i=>∀b,B b->∀c e F,W.heap[b]? =some (.cells c e F)->∃c' e',i.heap[b]? =some (.cells c' e' F))
  DO zz xa tY (rM g74) A I ql D4 xi (Pr:=λ_=>False) (f:=f) Q (args:=args) (W:=W) (B:=B) C (λb h=>h.elim) (λv V w' i s K Z M l=>by
   obtain⟨rfl,N⟩:=K;intro b j c e F z;obtain⟨o,O,m,t,u⟩:=M.obj b b (l.le b b ⟨rfl,j⟩);rw[N b (Rx.1 z).1,fG,z]at m;cases m;obtain⟨c',J,k1,k2⟩:=l.fz b c e F z;rw[k1]at t;cases t;have u:fA jC s (.cells (c.map (mask (idR gN B))) e F) (.cells c' e J):=by
    have e0:jS (idR gN B) False (.cells c e F)=.cells (c.map (mask (idR gN B))) e F:=by unfold jS;simp
    rw[<-e0];exact u
   cases u with
   |cells _ _ r=>exact⟨c',e,by rw[k1,Jg r k2]⟩) T (λg h=>U g (Su h)) X (calls λ_=>False)
 refine(hA.and P).mono λV i ⟨⟨D,E,h3,h4,h5,h6,h7⟩,h8⟩=>⟨D,E,h3,h4,λb j=>?_⟩
 by_cases k:B b
 ·obtain⟨o,H,⟨c,e,F,rfl⟩|⟨es,a,rfl,y⟩⟩:=R b k
  ·obtain⟨J,m⟩:=h6 b k c e F H
   obtain⟨c',e',t⟩:=h8 b k c e F H;rw[m]at t;cases t;rw[m,H]
  ·rw[h7 b k es a H y,H]
 ·exact h5 b j k
end
end Go.Tm
namespace Go.Proofs
open Go.Tm Go.RowKit Go.ChangeShapes Go.WideShapes Go.ChangeAt Go.WideElems Go.Conc
theorem A8{a:Type}{Q:Nat->a->Prop}:∀(n),(∀i,i<n->∃x,Q i x)->∃l:List a,l.length=n/\∀i (h:i<l.length),Q i l[i]
 |0,_=>⟨[],rfl,λi h=>absurd h (RZ _)⟩
 |n+1,h=>by
  obtain⟨l,c,d⟩:=A8 n λi b=>h i (by omega);obtain⟨x,e⟩:=h n (by omega);refine⟨l++[x],by simp[c],λi b=>?_⟩;rw[List.getElem_append];split
  ·exact d i _
  ·have:i=n:=by simp at b;omega
   subst this;simpa using e
def dS(v:Value)(b:Nat):Prop:=∃o n c,v=.slice (some ⟨b,o,none⟩) n c
def Nv:Tryz.prog.cellsOf 96=3:=by kernel_rfl
def Nw:Tryz.prog.cellsOf 3=1:=by kernel_rfl
def Ny:Tryz.prog.cellsOf 94=1:=by kernel_rfl
def OW:Tryz.prog.cellsOf 5=1:=by kernel_rfl
section
variable {H:Type} {enc:TypeId×Value->H} {W:World}
def Jh{v d p J}(K:Value.okWide Tryz.prog W .any J 53 v)(U:DataW.Trod enc Tryz.prog W 0 (λ_=>true) true 53 v d p):
 ∃l:List (Int×Int×Int),aB (dS v) 3 (dI .u8) W v l:=by
 obtain⟨fuel,V⟩:=U;obtain⟨X,len,cap,rfl⟩:=okWide_slice Tryz.underlying53 K;have o:Cell.ok Tryz.prog W .any J 53 (.slice X len cap):=by have h:=K;simp only[Value.okWide,Tryz.underlying53,Cell.okWide]at h;exact h
 obtain⟨g,_⟩|⟨a,L,M,B,rest,n,rfl,g,hx,_,Y,Z,N,C,_,_⟩:=DataW.trod_slice Tryz.underlying53 V
 ·simp[Value.cells]at g
  obtain⟨rfl,rfl,rfl⟩:=g;exact⟨[],none,0,rfl,Rq _,by decide,λa h=>(by cases h),λk D=>absurd D (RZ _)⟩
 ·simp[Value.cells]at g
  obtain⟨rfl,rfl,rfl⟩:=g;unfold Cell.ok at o;rw[Tryz.underlying53]at o;obtain⟨_,_,_,f,row,cells,q,_⟩:=o;obtain⟨b,j,w⟩:=a;have f:w=none:=f;subst f;have y:∃c e F,W.heap[b]? =some (.cells c e F):=by
   unfold World.shape? at q;split at q
   ·rename_i c e F h
    exact⟨c,e,F,h⟩
   ·cases q
  have z:∀i,i<len->∃x:Int×Int×Int,dI .u8 (dS (.slice (some ⟨b,j,none⟩) len cap)) W b (j+i*3) x:=λi hi=>by
   have h:=C i hi;rw[Nv,R5 (by omega),Tl]at h;obtain⟨cs,O,h2⟩:=h;rw[dD]at O;obtain⟨_,E,G⟩:=World.cells?_some O;obtain⟨xs,m,rfl,_,_,I,r⟩:=DataW.trod_struct Tryz.underlying96 h2;obtain⟨s,t,u,rfl⟩:∃s t u,cs=[s,t,u]:=by
    match cs,E with
    | [s,t,u],_=>exact⟨s,t,u,rfl⟩
   obtain⟨x0,x1,x2,rfl⟩:∃x0 x1 x2,xs=[x0,x1,x2]:=by
    match xs,I with
    | [x0,x1,x2],_=>exact⟨x0,x1,x2,rfl⟩
   have P:DataW.trod enc Tryz.prog W 0 (λ_=>true) true m 3 (([s,t,u].drop 0).take (Tryz.prog.cellsOf 3))=some x0:=r 0 _ rfl;have Q:DataW.trod enc Tryz.prog W 0 (λ_=>true) true m 94 (([s,t,u].drop 1).take (Tryz.prog.cellsOf 94))=some x1:=r 1 _ rfl;have R:DataW.trod enc Tryz.prog W 0 (λ_=>true) true m 5 (([s,t,u].drop 2).take (Tryz.prog.cellsOf 5))=some x2:=r 2 _ rfl;rw[Nw]at P;rw[Ny]at Q;rw[OW]at R;obtain⟨z0,e0,_,_⟩:=DataW.trod_int Tryz.underlying3 P;obtain⟨z1,e1,_,_⟩:=DataW.trod_int F9 Q;obtain⟨z2,e2,_,_⟩:=DataW.trod_int Tryz.underlying5 R;cases e0;cases e1;cases e2;have g0:=G 0 (by decide);have S:=G 1 (by decide);have T:=G 2 (by decide);rw[dD]at g0 S T;exact⟨(z0,z1,z2),g0,S,T⟩
  obtain⟨l,A,hq⟩:=A8 len z;refine⟨l,some ⟨b,j,none⟩,cap,by rw[A],by rw[A];exact Y,by unfold maxLen at Z;omega,λa h=>?_,λk D=>⟨b,j,rfl,hq k D⟩⟩;cases h;exact⟨rfl,⟨j,len,cap,rfl⟩,y⟩
end
def dI.mask{G B fz K w kd b o x}(h:dI kd K w b o x):dI kd K (bZ (idR G B) fz w) b o x:=⟨fH h.1 (.int _ _),fH h.2.1 (.int _ _),fH h.2.2 (.int _ _)⟩
def aB.LD{G B fz K w kd v l}(h:aB K 3 (dI kd) w v l):aB K 3 (dI kd) (bZ (idR G B) fz w) v l:=by
 obtain⟨ao,c,rfl,f,i,j,m⟩:=h;refine⟨ao,c,rfl,f,i,λa n=>?_,λk o=>?_⟩
 ·obtain⟨p,q,c',e,F,r⟩:=j a n
  obtain⟨t,s⟩:=fu (G:=G) (B:=B) (fz:=fz) r;exact⟨p,q,_,_,_,s⟩
 ·obtain⟨b,d,e,g⟩:=m k o
  exact⟨b,d,e,g.mask⟩
def dz.ints{W b}(h:dz W b):∃es a,W.heap[b]? =some (.map es a)/\xk es:=by obtain⟨es,a,c,d,_⟩:=h;refine⟨es,a,c,λe f=>?_⟩;obtain⟨k,g,i,_⟩:=d e f;exact⟨⟨_,_,g⟩,_,_,i⟩
def dz.mask{G B fz W b}(h:dz W b):dz (bZ (idR G B) fz W) b:=by obtain⟨es,a,c,d⟩:=h;exact⟨es,a,by rw[fG,c];rfl,d⟩
def gi.mask{G B fz W a}(b:W.cell? ⟨1,0,none⟩=some (.map (some a)))(c:dz W a)(d:B a):gi (bZ (idR G B) fz W):=⟨a,fH b (.map ⟨rfl,d⟩),c.mask⟩
def D5{G B K f g E w v}{l:List g}(h:aB K f E w v l)(i:∀b,K b->B b):az (idR G B) v v:=by
 obtain⟨ao,c,rfl,_,_,j,_⟩:=h;cases ao with
 |none=>exact .js _ _
 |some a=>obtain⟨e,k,_⟩:=j a rfl;obtain⟨b,m,d⟩:=a;have e:d=none:=e;subst e;exact .slice _ _ (.mk ⟨rfl,i b k⟩)
def xm(W:World)(V:Value)(a:World):Prop:=V=.bool true/\a.os=W.os/\a.output=W.output/\W.heap.size<=a.heap.size/\∀b,b<W.heap.size->a.heap[b]? =W.heap[b]?
def xm.below{W a V}(h:xm W V a):Below W.heap.size W {a with os:=W.os,tape:=W.tape,output:=W.output}:=⟨rfl,rfl,rfl,h.2.2.2.1,h.2.2.2.2⟩
def laidOut:laidOutB Tryz.prog=true:=by kernel_rfl
def xm.kept{W a V}(h:xm W V a)(may):W.keptBut a may:=by refine⟨h.2.1,h.2.2.1,λi b=>?_⟩;rw[h.2.2.2.2 i b];split<;>simp_all
def xm.trod{H enc W c V}(h:xm W V c){t}(f:Tryz.prog.readableRec t=true)(a:t<Tryz.prog.types.size){v}{d:DataW H}{ps}
 (g:DataW.Trod enc Tryz.prog W 0 (λ_=>true) true t v d ps) (e:∀x∈ps,x.block<W.heap.size):DataW.Trod enc Tryz.prog c 0 (λb=>decide (b<W.heap.size)) true t v d ps:=
 DataW.Trod.of_heap (w:={c with os:=W.os,tape:=W.tape,output:=W.output}) (w':=c) (by rfl) (Below.trod laidOut f a g h.below e)
end Go.Proofs
namespace Go.Proofs
open Go.Tm Go.RowKit
noncomputable abbrev FM:Array Func:=fM g74
def er{P fn R a w ch}(b:a.defers=[])(h:R (.panicked ch) w):bodyPost P fn R (.panic ch) a w:=⟨b,h⟩
def fZ.lower{b c w v l}(h:fZ b w v l)(d:c<=b):fZ c w v l:=by obtain⟨⟨e,f⟩,i⟩:=h;refine⟨⟨e,f.imp id ?_⟩,i⟩;rintro⟨g,cap,a,e1,j,e3⟩;exact⟨g,cap,a,e1,Rr d j,e3⟩
def e74(a w):(callFunc 74 a).run (Qs FM) w=.ok (.enter 74 a) w:=enters_of LB (by kernel_rfl) rfl a w
def LJ{sc c}(w)(n:bl (λ_=>True) w sc c)(y:OkC c)(z:∀r∈c.rules,r.kind<=3)(A:o7 c=0)(g:jD w):
 Calls (Qs FM) 31 #[.agg sc] w λe w'=>(∃v,e=.returned (.tuple #[v,.int .i64 0])/\fZ w.heap.size w' v (bX c)/\Below w.heap.size w w')\/∃v L,e=.panicked (jo v)/\dN w' v L:=by
 have L:=iP;have e37:=e37 L;have e74:=e74;obtain⟨v0,v1,v2,B,C,D,E,F,G,H,j,rfl⟩:=n.boxed;obtain⟨w1,b⟩:=ex (w.alloc (.cells #[v0,v1,v2,B,C,D,E,F,G,H,j] 60));have o:ae w w1:=by rw[b];exact ae.alloc _ _
 have p:Below w.heap.size w w1:=by rw[b];exact aF _ _
 have ct:∀i v,(#[v0,v1,v2,B,C,D,E,F,G,H,j]:Array Value)[i]? =some v->w1.cell? ⟨w.heap.size,i,none⟩=some v:=λi v h=>by rw[b];exact aw w _ 60 i v h
 have f:=uc L w1 (n.stays o);rw[A]at f;have k:=λw3 (s:Below w1.heap.size w1 w3)=>Rl w3 (n.stays (o.trans (ae.below s))) y z (g.stays (o.trans (ae.below s)) (Rr p.size s.size));obtain⟨N,t⟩:=ex (w.heap.size);rw[<-t]at ct;have I:=ct 0 _ rfl;have J:=ct 1 _ rfl;have K:=ct 2 _ rfl;have M:=ct 3 _ rfl;have O:=ct 4 _ rfl;have P:=ct 5 _ rfl;have Q:=ct 6 _ rfl;have R:=ct 7 _ rfl;have S:=ct 8 _ rfl;have T:=ct 9 _ rfl;have l:=ct 10 _ rfl;have U:Hid _:=p;clear n y z A g o p ct;go_enter (n31 L),Tryz.ntmps31;go_upto_region 1 with fail;rw[<-b,<-t];clear b t;go_upto_region 4 with(first|(go_at_call 37;refine f.mono ?_;rintro e w3 ⟨rfl,d⟩))
 have a:=ae.below d;have I:=a.cell I;have J:=a.cell J;have K:=a.cell K;have M:=a.cell M;have O:=a.cell O;have P:=a.cell P;have Q:=a.cell Q;have R:=a.cell R;have S:=a.cell S;have T:=a.cell T;have l:=a.cell l;have q:=k w3 d;have u:Hid _:=d;clear k f a d;go_wp2_with fail
 refine q.mono ?_;rintro e w4 (⟨v,rfl,V,m⟩|⟨v,X,rfl,W⟩)
 ·have Y:Hid _:=V
  have Z:Hid _:=m;clear V m;go_wp2
  go_ret2
  have x:=U.out.trans (u.out.mono U.out.size);exact .inl ⟨v,rfl,fZ.lower Y.out x.size,x.trans (Z.out.mono x.size)⟩
 ·have HP:Hid _:=W
  clear W;exact er rfl (.inr ⟨v,X,rfl,HP.out⟩)
theorem GY{c:Type}(F:c->List Value)(a:∀x,(F x).length=3):∀(l:List c) (k i) (b:k<l.length),i<3->(l.flatMap F)[k*3+i]? =(F l[k])[i]?
 | [],k,i,b,_=>absurd b (RZ _)
 |x::l,0,i,_,d=>by rw[Tr,T7 (by rw[a];omega)];simp
 |x::l,k+1,i,b,d=>by rw[Tr,UM (by rw[a];omega),a,show(k+1)*3+i-3=k*3+i by omega];exact GY F a l k i (by simpa using b) d
def kV{w B ty v}{p:Type}{kd}(F T)(e:∀x,F x=[.int .i64 (T x).1,.int .i64 (T x).2.1,.int kd (T x).2.2]){l:List p}
 (h:w.ownsRow B ty 3 v l.length (l.flatMap F)):aB (λ_=>True) 3 (dI kd) w v (l.map T):=by
 have q:∀x,(F x).length=3:=λx=>by rw[e];rfl
 obtain⟨rfl,f⟩|⟨g,cap,j,rfl,z,n,f,r,A,s⟩:=h.2
 ·have:l=[]:=Tb.1 f
  subst this;exact⟨none,0,rfl,Rq _,by decide,λa m=>(by cases m),λk d=>absurd d (RZ _)⟩
 ·have b:∀k (d:k<l.length) i,i<3->∀u,(F l[k])[i]? =some u->w.cell? ⟨g,0+k*3+i,none⟩=some u:=λk d i t u y=>by refine cell_of_heap n _ _ ?_;have o:=GY F q l k i d t;rw[y,<-s,UC,Rp (by omega),Sv]at o;rw[RB];exact o
  refine⟨some ⟨g,0,none⟩,cap,by rw[SJ],by rw[SJ];exact f,r,λa m=>?_,λk d=>⟨g,0,rfl,?_⟩⟩
  ·cases m
   exact⟨rfl,trivial,j,ty,(0,0),n⟩
  ·have c:k<l.length:=by simpa using d
   rw[Uc];refine⟨?_,?_,?_⟩
   ·have:=b k c 0 (by decide) (.int .i64 (T l[k]).1) (by rw[e];rfl)
    exact this
   ·exact b k c 1 (by decide) _ (by rw[e];rfl)
   ·exact b k c 2 (by decide) _ (by rw[e];rfl)
def tz{w B v}{l:List Ed}(h:w.ownsRow B 96 3 v l.length (pH l)):aB (λ_=>True) 3 (dI .u8) w v l:=by have:=kV (kd:=.u8) (λe:Ed=>[.int .i64 e.1,.int .i64 e.2.1,.int .u8 e.2.2]) id (λ_=>rfl) h;rwa[List.map_id]at this
def GZ(x:Bl):Int×Int×Int:=(x.days,x.level,x.kin)
def QP(x:Hit):Int×Int×Int:=(x.mark,x.dZ,x.level)
def zH{w B v l}(h:w.ownsRow B 86 3 v l.length (xn l)):aB (λ_=>True) 3 (dI .i64) w v (l.map GZ):=kV (kd:=.i64) (λx:Bl=>[.int .i64 x.days,.int .i64 x.level,.int .i64 x.kin]) GZ (λ_=>rfl) h
def LM{w B v l}(h:fZ B w v l):aB (λ_=>True) 3 (dI .i64) w v (l.map QP):=kV (kd:=.i64) (λx:Hit=>[.int .i64 x.mark,.int .i64 x.dZ,.int .i64 x.level]) QP (λ_=>rfl) h.1
def oS{w:World}{ty kd}(l)(f:l.length<=1000)(c)(b:c.toList=l.flatMap λe=>[.int .i64 e.1,.int .i64 e.2.1,.int kd e.2.2]):
 aB (λ_=>True) 3 (dI kd) (w.alloc (.cells c ty)) (.slice (some ⟨w.heap.size,0,none⟩) l.length l.length) l:=by
 have a:∀m:List (Int×Int×Int),(m.flatMap λe=>[Value.int .i64 e.1,.int .i64 e.2.1,.int kd e.2.2]).length=m.length*3:=λm=>by
  induction m with
  |nil=>rfl
  |cons x m d=>rw[Tr,RM,d];simp;omega
 have h:(w.alloc (.cells c ty)).ownsRow w.heap.size ty 3 (.slice (some ⟨w.heap.size,0,none⟩) l.length l.length) l.length (l.flatMap λe=>[Value.int .i64 e.1,.int .i64 e.2.1,.int kd e.2.2]):=by
  refine⟨a l,.inr ⟨w.heap.size,l.length,c,rfl,Rq _,Sd,Rq _,by unfold maxLen;omega,?_,?_⟩⟩
  ·rw[<-Wl,b,a]
  ·rw[b,<-a l,Tp]
 have:=kV (kd:=kd) (λe:Int×Int×Int=>[.int .i64 e.1,.int .i64 e.2.1,.int kd e.2.2]) id (λ_=>rfl) h;rwa[List.map_id]at this
end Go.Proofs
namespace Go.Proofs
open Go.Tm Go.RowKit
abbrev TT:Nat->Prop:=λ_=>True
variable {fs:Array Func} (L:bQ fs)
include L
def O7{v0 v1 v2:Value}(w:World)(a:IsTable TT w v0 v1 v2 dx):
 Calls (Qs fs) 18 #[.agg #[v0,v1,v2],.string ⟨#[207,129,206,191,206,182,206,177]⟩] w λe w'=>e=.returned (.tuple #[.string ⟨#[114,111,122,97]⟩,.int .i64 0])/\Below w.heap.size w w':=by
 have h:=OY L ⟨#[207,129,206,191,206,182,206,177]⟩ w a tx.lets mj (by decide);rw[show((⟨#[207,129,206,191,206,182,206,177]⟩:ByteArray).data.toList:Bs)=[207,129,206,191,206,182,206,177]from rfl,Nu]at h;exact h
def NJ{v0 v1 v2:Value}(w:World)(a:IsTable TT w v0 v1 v2 dx)(b:gZ w):
 Calls (Qs fs) 22 #[.agg #[v0,v1,v2],.int .i64 0,.string ⟨#[114,104,111,115,97]⟩] w λe w'=>e=.returned (.tuple #[.string ⟨#[114,111,115,97]⟩,.int .i64 0])/\Below w.heap.size w w':=by
 have h:=NC L 0 ⟨#[114,104,111,115,97]⟩ w a tx mj (by decide) (by decide) b;rw[show((⟨#[114,104,111,115,97]⟩:ByteArray).data.toList:Bs)=[114,104,111,115,97]from rfl,Lz]at h;exact h
def LY(w:World):Calls (Qs fs) 29 #[.string ⟨#[114,111,122,97]⟩,.string ⟨#[114,111,115,101]⟩] w λe w'=>∃v,e=.returned (.tuple #[v,.int .i64 0])/\aB TT 3 (dI .u8) w' v [(2,2,115),(3,2,101)]/\Below w.heap.size w w':=by
 have h:=A4 L ⟨#[114,111,122,97]⟩ ⟨#[114,111,115,101]⟩ w (by decide) (by decide);have a:fT ⟨#[114,111,122,97]⟩ ⟨#[114,111,115,101]⟩=0:=by decide+kernel
 have b:gy ⟨#[114,111,122,97]⟩ ⟨#[114,111,115,101]⟩=[(2,2,115),(3,2,101)]:=(Rp a).trans LA;rw[a,b]at h;exact h.mono λe w' ⟨v,c,d,f⟩=>⟨v,c,tz d,f⟩
def LZ(w:World):Calls (Qs fs) 29 #[.string ⟨#[97,98]⟩,.string ⟨#[98,97]⟩] w λe w'=>∃v,e=.returned (.tuple #[v,.int .i64 0])/\aB TT 3 (dI .u8) w' v [(0,0,98),(1,1,0)]/\Below w.heap.size w w':=by
 have h:=A4 L ⟨#[97,98]⟩ ⟨#[98,97]⟩ w (by decide) (by decide);have a:fT ⟨#[97,98]⟩ ⟨#[98,97]⟩=0:=by decide+kernel
 have b:gy ⟨#[97,98]⟩ ⟨#[98,97]⟩=[(0,0,98),(1,1,0)]:=(Rp a).trans Jd;rw[a,b]at h;exact h.mono λe w' ⟨v,c,d,f⟩=>⟨v,c,tz d,f⟩
def L0{v0 v1 v2:Value}{m1 m2:Array Value}(w:World)(b:IsTable TT w v0 v1 v2 dx)(c:dg TT w m1 ua)(d:dg TT w m2 qp)(a:jD w):
 Calls (Qs fs) 25 #[.agg #[v0,v1,v2],.int .i64 0,.agg m1,.agg m2] w λe w'=>e=.returned (.tuple #[.int .i64 75,.int .i64 0])/\Below w.heap.size w w':=by
 have h:=Bd L 0 w (by decide) ((Ki L).at _ _) b tx mj c d ub.new (ub.marks qp (by simp[exC])) ml.2.2.1 ml.2.2.2.1 a.len a.kinds;rw[show((0:Nat):Int)=0 from rfl,I7]at h;exact h
def L1{v0 v1 v2:Value}{m1 m2:Array Value}(w:World)(b:IsTable TT w v0 v1 v2 dx)(c:dg TT w m1 ua)(d:dg TT w m2 oX)(a:jD w):
 Calls (Qs fs) 25 #[.agg #[v0,v1,v2],.int .i64 3,.agg m1,.agg m2] w λe w'=>e=.returned (.tuple #[.int .i64 75,.int .i64 0])/\Below w.heap.size w w':=by
 have h:=Bd L 3 w (by decide) ((Kj L).at _ _) b tx mj c d ub.new (ub.marks oX (by simp[exC])) ml.2.2.1 ml.2.2.2.2 a.len a.kinds;rw[show((3:Nat):Int)=3 from rfl,I8]at h;exact h
omit L in
def O8:OkM exA:=by constructor<;>simp[exA]<;>decide
omit L in
def O9:OkM exB:=by constructor<;>simp[exB]<;>decide
def L3{v0 v1 v2:Value}{m1 m2:Array Value}(w:World)(b:IsTable TT w v0 v1 v2 dx)(c:dg TT w m1 exA)(d:dg TT w m2 exB)(a:jD w):
 Calls (Qs fs) 25 #[.agg #[v0,v1,v2],.int .i64 5,.agg m1,.agg m2] w λe w'=>e=.returned (.tuple #[.int .i64 60,.int .i64 0])/\Below w.heap.size w w':=by
 have h:=Bd L 5 w (by decide) (O6 L (by simp[exA]) (by simp[exB])) b tx mj c d O8 O9 ml.1 ml.2.1 a.len a.kinds;rw[show((5:Nat):Int)=5 from rfl,I9]at h;exact h
omit L in
def Ee{fs}(L:bQ fs):uO fs exC:=D3 L ub (by decide)
def L4{sc:Array Value}(w:World)(b:bl TT w sc exC)(a:jD w):
 Calls (Qs fs) 38 #[.agg sc,.int .i64 2] w λe w'=>∃v,e=.returned (.tuple #[v,.int .i64 0])/\aB TT 3 (dI .i64) w' v [(0,90,0),(0,100,2),(0,0,3)]/\Below w.heap.size w w':=by
 have h:=GV L 2 w b ub xj (by decide) (by decide) (Ee L) a.len a.kinds;have c:jE exC exC.marks[2] exC.kin[2]=[⟨0,90,0⟩,⟨0,100,2⟩,⟨0,0,3⟩]:=Jb;rw[c,show((2:Nat):Int)=2 from rfl]at h;exact h.mono λe w' ⟨v,d,f,g⟩=>⟨v,d,zH f,g⟩
def L5{sc:Array Value}(w:World)(k:bl TT w sc exC)(d:jD w):
 Calls (Qs fs) 38 #[.agg sc,.int .i64 3] w λe w'=>∃b o c,e=.returned (.tuple #[.slice (some ⟨b,o,none⟩) 3 c,.int .i64 0])/\dI .i64 TT w' b o (1,0,0)/\Below w.heap.size w w':=by
 have h:=GV L 3 w k ub xj (by decide) (by decide) (Ee L) d.len d.kinds;rw[show((3:Nat):Int)=3 from rfl]at h;refine h.mono λe w' ⟨v,f,l,m⟩=>?_;have n:=zH l;obtain⟨ao,c,rfl,_,_,_,g⟩:=n;have a:((jE exC exC.marks[3] exC.kin[3]).map GZ).length=3:=by rw[SJ];exact(by decide+kernel:(jE exC exC.marks[3] exC.kin[3]).length=3)
 obtain⟨b,o,rfl,i⟩:=g 0 (by rw[a];decide);have p:((jE exC exC.marks[3] exC.kin[3]).map GZ)[0]'(by rw[a];decide)=(1,0,0):=by have:=Jc.2;rw[Uc];have j:(jE exC exC.marks[3] exC.kin[3])[0]? =some ⟨1,0,0⟩:=this;rw[R5 (by have:=a;rw[SJ]at this;omega)]at j;rw[RU j];rfl
 rw[p,Nat.zero_mul,SM]at i;rw[a]at f;exact⟨b,o,c,f,i,m⟩
def Ef{v0 v1:Value}{l:List (Int×Int×Int)}(w:World)(a:aB TT 3 (dI .u8) w v0 l)(b:aB TT 3 (dI .u8) w v1 l):Calls (Qs fs) 46 #[v0,v1] w λe w'=>e=.returned (.bool true)/\Below w.heap.size w w':=by have h:=Ck L w a b;rwa[RE rfl]at h
def L6{v0 v1:Value}{l:List (Int×Int×Int)}(w:World)(a:aB TT 3 (dI .i64) w v0 l)(b:aB TT 3 (dI .i64) w v1 l):Calls (Qs fs) 36 #[v0,v1] w λe w'=>e=.returned (.bool true)/\Below w.heap.size w w':=by have h:=EP L w a b;rwa[RE rfl]at h
def L8{v0 v1:Value}{l:List (Int×Int×Int)}(w:World)(a:aB TT 3 (dI .i64) w v0 l)(b:aB TT 3 (dI .i64) w v1 l):Calls (Qs fs) 40 #[v0,v1] w λe w'=>e=.returned (.bool true)/\Below w.heap.size w w':=by have h:=Cj L w a b;rwa[RE rfl]at h
omit L in
def L9{sc}(w)(a:bl TT w sc exC)(b:jD w):
 Calls (Qs FM) 31 #[.agg sc] w λe w'=>(∃v,e=.returned (.tuple #[v,.int .i64 0])/\aB TT 3 (dI .i64) w' v [(0,0,100),(1,1,100)]/\Below w.heap.size w w')\/∃v L,e=.panicked (jo v)/\dN w' v L:=by
 refine(LJ w a ub (by decide) xj b).mono λe w' h=>h.imp (λ⟨v,c,d,f⟩=>⟨v,c,?_,f⟩) id;have:=LM d;rw[Ja]at this;exact this
end Go.Proofs

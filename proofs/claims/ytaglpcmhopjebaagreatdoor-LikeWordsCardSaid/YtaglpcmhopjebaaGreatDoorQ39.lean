import Derived.Conc.LeavingOf
import Derived.LaidSub
import Derived.MakeChecks
import Derived.OpenShut
import Derived.Shelf.Vars
import Derived.Test.YtaglpcmhopjebaaGreatDoorQ38
set_option linter.all false
set_option maxRecDepth 100000
set_option maxHeartbeats 20000000
namespace Go.Proofs
open Go.Tm Go.RowKit Go.ChangeShapes Go.WideShapes Go.ChangeAt Go.WideElems Go.Conc
section
variable {H:Type} {enc:TypeId×Value->H}
def oz{a C os f fn s g b fresh d h}{X:World->Array Value->Prop}
 (E:∀(w w') (args),w.heap=w'.heap->X w args->X w' args)
 (own:ownKnob C.prog.godebug=none) (k:os.Started) (x:C.prog.funcs[f]? =some fn)
 (l:∃(w:World) (tape:Tape) (i:Input),w.os=os/\(w.forCall tape i).Shaped C.prog/\i.vars=[]/\Input.okWide C.prog (w.forCall tape i) .any w.heap.size f i/\((s.pre enc C.prog fn g b (w.forCall tape i).memory i.args/\X (w.forCall tape i).memory i.args)/\sizedMet enc C.prog fn (OpenSpec.ofChange s) b (w.forCall tape i).memory i.args)/\a.holds C.prog (lone (Frame.enter C.prog f i.args .normal) [] (w.forCall tape i)))
 (m:∀(W) (base) (args) (ds r) (c),
  (∀(j:Nat) t v,fn.params[j]? =some t->args[j]? =some v->Value.okWide C.prog W .any base t v)->
  DataW.Whole enc C.prog fn.params.toList s.vars b W args.toList ds r c->
  (DataW.weightsEach C.prog (fn.params.toList++s.plain.varTypes C.prog) (ds++r)).all (· <=reachBytes)=true->X W args->W.ShapedOpen C.prog->
  ∃M last o w' u,runNT C.prog (M+1) (solo (G (Frame.enter C.prog f args .normal) []) W) #[]=(.ended o w',u)/\runN C.prog M (solo (G (Frame.enter C.prog f args .normal) []) W)=.next last/\step C.prog last=.ended o w'/\Conc.Good C.prog (λv F=>s.post enc C.prog fn b fresh d h W args v F) last o w' u):
 ReturnsInLeavingWide a C os f .any (λw args=>(s.pre enc C.prog fn g b w args/\X w args)/\sizedMet enc C.prog fn (OpenSpec.ofChange s) b w args) (s.post enc C.prog fn b fresh d h):=by
 refine returnsInLeavingWide_of_good own k l ?_;intro w tape i _ y _ z n _;obtain⟨_,_,_,A,p,_,_,_,_,q⟩:=z;have e:A=fn:=SD (p.symm.trans x);subst e;obtain⟨⟨⟨ds,r,c,D,Q⟩,I⟩,J⟩:=n;have B:=DataW.Whole.of_heap (w':=w.forCall tape i) (by rfl) D;obtain⟨M,last,o,w',u,K,L,N,O⟩:=m (w.forCall tape i) w.heap.size i.args ds r c q B (J.weights D) (E _ _ _ (by rfl) I) y;exact⟨M,last,o,w',u,K,L,N,O.mono λv P=>ChangeSpec.post_blind P⟩
end
def Ml:Tryz.prog.globalNamed "touchmark/like.kinds" =some 0:=by kernel_rfl
def Pv:(Tryz.prog.globals[0]?).map (·.type)=some 117:=by kernel_rfl
def Em:Tryz.prog.cellsOf 116=2:=by kernel_rfl
def Mm:Tryz.prog.cellsOf 114=1:=by kernel_rfl
def kindName(k:UInt8):List UInt8:=[116,111,117,99,104,109,97,114,107,47,108,105,107,101,46,107,105,110,100,115,36,k]
def xn:DataW Unit:=.agg [.agg [.lit (.string [108,101,116,116,101,114,115]),.iface "func" (.lit (.string (kindName 49)))],.agg [.lit (.string [115,111,117,110,100,115]),.iface "func" (.lit (.string (kindName 50)))],
 .agg [.lit (.string [109,101,97,110,115]),.iface "func" (.lit (.string (kindName 51)))],.agg [.lit (.string [116,117,114,110,101,100]),.iface "func" (.lit (.string (kindName 52)))],
 .agg [.lit (.string [99,117,116]),.iface "func" (.lit (.string (kindName 53)))],.agg [.lit (.string [102,105,103,117,114,101,115]),.iface "func" (.lit (.string (kindName 54)))]]
def bN(k:Nat):List UInt8:=kindName (49+k.toUInt8)
def Mn(k)(a:k<6):((List.range Tryz.prog.funcs.size).filter λf=>(Tryz.prog.funcs[f]?).any (·.name.toUTF8.data.toList==bN k))=[eE k]:=by
 match k,a with
 |0,_=>
  have h:((List.range Tryz.prog.funcs.size).filter λf=>(Tryz.prog.funcs[f]?).any (·.name.toUTF8.data.toList==bN 0))=[eE 0]:=by kernel_rfl
  exact h
 |1,_=>
  have h:((List.range Tryz.prog.funcs.size).filter λf=>(Tryz.prog.funcs[f]?).any (·.name.toUTF8.data.toList==bN 1))=[eE 1]:=by kernel_rfl
  exact h
 |2,_=>
  have h:((List.range Tryz.prog.funcs.size).filter λf=>(Tryz.prog.funcs[f]?).any (·.name.toUTF8.data.toList==bN 2))=[eE 2]:=by kernel_rfl
  exact h
 |3,_=>
  have h:((List.range Tryz.prog.funcs.size).filter λf=>(Tryz.prog.funcs[f]?).any (·.name.toUTF8.data.toList==bN 3))=[eE 3]:=by kernel_rfl
  exact h
 |4,_=>
  have h:((List.range Tryz.prog.funcs.size).filter λf=>(Tryz.prog.funcs[f]?).any (·.name.toUTF8.data.toList==bN 4))=[eE 4]:=by kernel_rfl
  exact h
 |5,_=>
  have h:((List.range Tryz.prog.funcs.size).filter λf=>(Tryz.prog.funcs[f]?).any (·.name.toUTF8.data.toList==bN 5))=[eE 5]:=by kernel_rfl
  exact h
def yv{l W}(h:laidMetH Tryz.prog l W)(z:("touchmark/like.kinds",DataW.iface "func table" xn)∈l):hU W:=by
 obtain⟨g,t,cs,fuel,p,A,B,C,D⟩:=h.funcs z;obtain rfl:=SD (Ml.symm.trans A);obtain rfl:=SD (Pv.symm.trans B);obtain⟨xs,m,rfl,e,K,L,s⟩:=DataW.trod_array Tryz.underlying117 D;have E:xs.map (·.1)=[.agg [.lit (.string [108,101,116,116,101,114,115]),.held (bN 0)],.agg [.lit (.string [115,111,117,110,100,115]),.held (bN 1)],
  .agg [.lit (.string [109,101,97,110,115]),.held (bN 2)],.agg [.lit (.string [116,117,114,110,101,100]),.held (bN 3)],
  .agg [.lit (.string [99,117,116]),.held (bN 4)],.agg [.lit (.string [102,105,103,117,114,101,115]),.held (bN 5)]]:=by
  have e1:=(Up e).1;have v:xn.funcsOut=_:=e1;have e3:xn.funcsOut=.agg [.agg [.lit (.string [108,101,116,116,101,114,115]),.held (bN 0)],.agg [.lit (.string [115,111,117,110,100,115]),.held (bN 1)],
   .agg [.lit (.string [109,101,97,110,115]),.held (bN 2)],.agg [.lit (.string [116,117,114,110,101,100]),.held (bN 3)],
   .agg [.lit (.string [99,117,116]),.held (bN 4)],.agg [.lit (.string [102,105,103,117,114,101,115]),.held (bN 5)]]:=by
   simp[xn,DataW.funcsOut,DataW.funcsOutAll,kindName,bN]
  rw[e3]at v;exact(DataW.agg.inj v).symm
 intro k u;have c:=s k u;rw[Em]at c;have f:k<xs.length:=by omega
 rw[SK f]at c;obtain⟨M,w,F,e1,a,_,i⟩:=trod_struct2 Tryz.underlying116 c;have o:∃x,(xs[k]).1=.agg [x,.held (bN k)]:=by
  have d:(xs.map (·.1))[k]? =some (xs[k]).1:=by rw[TK,SK f];rfl
  rw[E]at d
  match k,u with
  |0,_=>exact⟨_,(SD d).symm⟩
  |1,_=>exact⟨_,(SD d).symm⟩
  |2,_=>exact⟨_,(SD d).symm⟩
  |3,_=>exact⟨_,(SD d).symm⟩
  |4,_=>exact⟨_,(SD d).symm⟩
  |5,_=>exact⟨_,(SD d).symm⟩
 obtain⟨x,o⟩:=o;rw[e1]at o;have G:w.1=.held (bN k):=by have:=DataW.agg.inj o;simp only[U6,and_true]at this;exact this.2
 rw[Em]at a;obtain⟨q,c1,j⟩:∃q c1,(cs.toList.drop (k*2)).take 2=[q,c1]:=by
  match(cs.toList.drop (k*2)).take 2,a with
  | [q,c1],_=>exact⟨q,c1,rfl⟩
 rw[j]at i;have n:DataW.trod (funcToken Tryz.prog) Tryz.prog W 0 (λ_=>true) true F 114 [c1]=some (.held (bN k),w.2):=by rw[<-G];have I:Tryz.prog.cellsOf 114=1:=Mm;simpa[I]using i
 have J:c1=.func (.func (eE k)) #[] #[]:=func_of_trod (b:=116) (r:=[111,117,99,104,109,97,114,107,47,108,105,107,101,46,107,105,110,100,115,36,49+k.toUInt8]) Tryz.underlying114 (Mn k u) n;rw[World.var?_cell Ml C (k*2+1),<-J,<-Tg];have y:((cs.toList.drop (k*2)).take 2)[1]? =some c1:=by rw[j];rfl
 rw[VE,RZ (by decide),UR]at y;exact y
def JL(g)(a:g<5):∃zero t,(((begin Tryz.prog (λ_ _=>0) default).world.heap[g]?).bind Obj.row?)=some (zero,t):=by
 have h:(((begin Tryz.prog (λ_ _=>0) default).world.heap[g]?).bind Obj.row?).isSome=true:=by
  match g,a with
  |0,_=>
   have h:(((begin Tryz.prog (λ_ _=>0) default).world.heap[0]?).bind Obj.row?).isSome=true:=by kernel_rfl
   exact h
  |1,_=>
   have h:(((begin Tryz.prog (λ_ _=>0) default).world.heap[1]?).bind Obj.row?).isSome=true:=by kernel_rfl
   exact h
  |2,_=>
   have h:(((begin Tryz.prog (λ_ _=>0) default).world.heap[2]?).bind Obj.row?).isSome=true:=by kernel_rfl
   exact h
  |3,_=>
   have h:(((begin Tryz.prog (λ_ _=>0) default).world.heap[3]?).bind Obj.row?).isSome=true:=by kernel_rfl
   exact h
  |4,_=>
   have h:(((begin Tryz.prog (λ_ _=>0) default).world.heap[4]?).bind Obj.row?).isSome=true:=by kernel_rfl
   exact h
 obtain⟨⟨z,t⟩,b⟩:=VP.1 h;exact⟨z,t,b⟩
def yw{W}(h:W.ShapedOpen Tryz.prog)(f:hU W):iO W:=by
 have b:∀g,g<5->∃c e F,W.heap[g]? =some (.cells c e F):=λg d=>by obtain⟨z,t,i⟩:=JL g d;obtain⟨cs,a,_⟩:=h.1 g z t (by rw[jY];exact d) i;exact⟨cs,t,_,a⟩
 refine⟨f,cell_of_shapedOpen_int (P:=Tryz.prog) (g:=2) (t:=3) (zero:=#[.int .i64 0]) h (SO (by kernel_rfl)) (by kernel_rfl) rfl (by kernel_rfl) (by kernel_rfl) Tryz.underlying3,b,?_⟩;rw[jY];obtain⟨c,e,F,a⟩:=b 4 (by decide);exact(R7.1 a).1
end Go.Proofs
namespace Go.Tm
open Go.Proofs Go.RowKit Go.Conc
def LR.steps{Q n fr fr' cs cs' w w'}(h:LR Q n fr cs w fr' cs' w'):Steps Q (lone fr cs w) (lone fr' cs' w'):=⟨n,h⟩
section
variable {Q:Program}
def Rj(b:Q.funcs[74]? =some g74)(v x V cs w w')(a:(Builtin.append_ #[62,62] 62 #[.slice none 0 0,x]).run Q w=.ok V w'):
 ∃fr,LR Q 4 ((gC v).finish x) cs w fr cs w'/\fr.fn=74/\fr.leaving Q w' (.returned V):=by
 refine⟨{(base 74).at ⟨gT v V (.bool true) (.bool true) undef x V,[]⟩ (.code .ret::[])with mode:=.returning},?_,rfl,?_⟩
 ·unfold gC
  rw[Frame.finish_at];show LR Q _ ((base 74).at ⟨gT v undef (.bool true) (.bool true) undef x undef,[]⟩ [.inRegion ns [1,2],.code .ret]) cs w _ _ _;refine .step (stepG_value (v:=V) (w':=w') rfl rfl (dT 74) ?_) ?_
  ·show(execOp (Act.eval ⟨gT v undef (.bool true) (.bool true) undef x undef,[]⟩) {dst:=some 7,op:=.call {callee:=.builtin .append,args:=#[.const (.slice none 0 0),.tmp 6],argTypes:=#[62,62]},type:=62,pos:= "",after:=#[],guard:=none}).run Q w=_
   simp[execOp,resolve,invoke,builtin,Act.eval,gT,a]
  show LR Q _ ((base 74).at ⟨gT v undef (.bool true) (.bool true) undef x V,[]⟩ [.inRegion ns [2],.code .ret]) cs w' _ _ _;refine .step (stepG_value (v:=V) (w':=w') rfl rfl (dT 74) rfl) ?_;show LR Q _ ((base 74).at ⟨gT v V (.bool true) (.bool true) undef x V,[]⟩ [.inRegion ns [],.code .ret]) cs w' _ _ _;refine .step stepG_region_end ?_;refine .step stepG_ret' ?_;exact .refl
 ·exact⟨rfl,rfl,rfl,g74,b,results_tmp (t:=2) rfl _ _ _⟩
def Px(v cs w){d}(c:Q.underlying 125=some d)(e:∀x,d≠ .interface x)(h:w.tape w.drawn (.order 74 1)%2=1):
 o7 Q ((base 74).at ⟨gT v undef (.bool false) undef undef undef undef,[]⟩ [.code (.region 1 pI true),.code tW]) cs w λa b w1=>b=cs/\w1=w.drew/\a.mode=.panicking (iy v)/\a.defers=[]/\a.fn=74:=by
 refine .step qm ?_;rw[show(base 74).fn=74 from rfl,Gm,RY (by omega)];refine .step (stepG_value (v:=.bool false) (w':=w.drew) rfl rfl (dT 74) rfl) ?_;refine .step (stepG_value (v:=.bool true) (w':=w.drew) rfl rfl (dT 74) rfl) ?_;refine .step stepG_region_end ?_;show o7 Q ((base 74).at ⟨gT v undef (.bool true) (.bool false) undef undef undef,[]⟩ [.code tW]) cs w.drew _;refine .step stepG_seq ?_;refine .step (stepG_cond (t:=false) rfl) ?_;refine .step (iZ (l:=[0,1,2]) rfl) ?_;refine .step (stepG_value (v:=.iface 125 v) (w':=w.drew) rfl rfl (dT 74) ?_) ?_
 ·show(do pure (.value (<-Instr.makeInterface 125 v)):Sem Next).run Q w.drew=_
  simp only[Instr.makeInterface,underlying];cases d with
  |interface x=>exact absurd rfl (e x)
  |_=>simp[c]
 show o7 Q ((base 74).at ⟨gT v undef (.bool true) (.bool false) (.iface 125 v) undef undef,[]⟩ (.inRegion Ea [1,2]::[.code (.seq (.region 3 ns false) .ret)])) cs w.drew _;refine .jK (rJ (d:=⟨.builtin .panic #[0] 0 #[false],#[.iface 125 v]⟩) rfl rfl (dT 74) ?_) ?_
 ·show(do pure (.defer (<-resolve (Act.eval ⟨gT v undef (.bool true) (.bool false) (.iface 125 v) undef undef,[]⟩) {callee:=.builtin .panic,args:=#[.tmp 5],argTypes:=#[0]} 0)):Sem Next).run Q w.drew=_
  simp[resolve,Act.eval,gT]
 show o7 Q ((base 74).at ⟨gT v undef (.bool true) (.bool false) (.iface 125 v) undef undef,[⟨.builtin .panic #[0] 0 #[false],#[.iface 125 v]⟩]⟩ (.inRegion Ea [2]::[.code (.seq (.region 3 ns false) .ret)])) cs w.drew _;refine .jK (rK (x:=.iface 125 v) rfl rfl (dT 74) rfl) ?_;refine .jK (kI (ds:=[]) (ts:=#[0]) (t:=0) (bs:=#[false]) (x:=.iface 125 v) (ch:=[{v:=.iface 125 v,recovered:=false}]) rfl rfl ⟨_,_,rfl⟩) ?_;exact .done ⟨rfl,rfl,rfl,rfl,rfl⟩
def JW(a:Q.funcs[74]? =some g74){fn}(p:Q.funcs[77]? =some fn)(b:(fn.name== "runtime.NumGoroutine")=false)(q:fn.body.isNone=false)
 {d} (r:Q.underlying 125=some d) (s:∀x,d≠ .interface x) {v} {w} {R}
 (f:R (.panicked (iy v)) w.drew) (i:Calls Q 77 #[v] w.drew λe w'=>∃x V w2,e=.returned x/\(Builtin.append_ #[62,62] 62 #[.slice none 0 0,x]).run Q w'=.ok V w2/\R (.returned V) w2):Calls Q 74 #[v] w R:=by
 intro cs;rw[Gn (Q:=Q) a];have a1:=(L3 (Q:=Q) v cs w).steps;obtain h|h:=VT (w.tape w.drawn (.order 74 1))
 ·have t:=(OM (Q:=Q) v cs w p b q h).steps
  obtain⟨e,w',fr,⟨x,V,w2,rfl,g,u⟩,y,_,z⟩:=i (gC v::cs);have A:Steps Q _ _:=y;have B:=step_leave_returned (c:=gC v) (cs:=cs) z;obtain⟨j,k,l,m⟩:=Rj a v x V cs w' w2 g;exact⟨_,w2,j,u,Steps.trans a1 (Steps.trans t (Steps.trans A (Steps.head B k.steps))),l,m⟩
 ·obtain⟨n,fr',cs',w',k,rfl,rfl,l,m,o⟩:=Px (Q:=Q) v cs w r s h
  refine⟨_,w.drew,fr',f,Steps.trans a1 k.steps,o,l,m,g74,by rw[o];exact a⟩
end
end Go.Tm
namespace Go.Proofs
open Go.Tm Go.RowKit
def Mr:(Qs (fH g74)).funcs[74]? =some g74:=(tk _ _).trans (rL g74)
def zL:∃d,(Qs (fH g74)).underlying 125=some d/\∀x,d≠ .interface x:=by refine⟨_,(aI _ _ _).trans (Tryz.underlying125),?_⟩;intro x h;cases h
def RV{sc c}(w)(E:tX w sc c)(s:OkC c)(l:∀r∈c.rules,r.kind<=3)(t:iO w):
 Calls (Qs (fH g74)) 74 #[.agg sc] w λe w'=>(∃v,e=.returned v/\fV w.heap.size w' v (bT c)/\Below w.heap.size w w')\/∃v L,e=.panicked (iy v)/\dJ w' v L:=by
 obtain⟨d,p,G⟩:=zL;have x:ae w w.drew:=λ_ _ _ _ h=>h;refine JW Mr (n77 iQ) (by kernel_rfl) (by kernel_rfl) p G (.inr ⟨_,_,rfl,sc,c,rfl,E.stays x,s,l,t.stays x (R2 _),rfl⟩) ?_;refine(vC iQ w.drew (E.1.stays x) s).mono λe w' ⟨v,y,H,l⟩=>?_;obtain⟨_,_,I⟩:=zK H l;have q:Below w.heap.size w w':=⟨l.os,l.tape,l.output,l.size,l.block⟩
 have f:(gL (bT c)).length=(bT c).length:=by unfold gL;rw[Th]
 have T:=oD s;obtain⟨i,m,z,A,B⟩:=Go.Tm.mQ;obtain⟨C,rfl⟩|⟨C,a,J,rfl,j⟩:=I
 ·have F:bT c=[]:=by rw[C]at f;exact S8 f.symm
  exact⟨_,_,w',y,ow ((aI _ _ _).trans underlying62) ((rY _ _ _).trans m) _,.inl ⟨_,rfl,⟨⟨by rw[F];rfl,.inl ⟨rfl,by rw[F];rfl⟩⟩,λ_=>rfl⟩,q⟩⟩
 ·have b:0<(gL (bT c)).length:=Tv.2 C
  rw[f]at y b;obtain⟨V,w2,K,M,o,U⟩:=np (P:=Qs (fH g74)) w' w'.heap.size 62 62 66 i (eR 0 0 0) jW 24 ((aI _ _ _).trans underlying62) ((rY _ _ _).trans m) z (by rw[A];rfl) B rfl (by decide)
   (.slice none 0 0) 0 [] ⟨by simp,.inl ⟨rfl,rfl⟩⟩ a (bT c).length J (bq (gL (bT c))) (by rw[gM,gY];rfl) j (λu p=>by rw[gM]at p;obtain⟨n,rfl⟩:=sI _ _ p;rfl) (by simp only[maxLen];omega) (by omega) (R2 _) b
  ·refine⟨_,V,w2,y,K,.inl ⟨V,rfl,⟨?_,λe=>?_⟩,?_⟩⟩
   ·have h:=M.owns
    rw[Se,Uj,gM]at h;obtain⟨N,O⟩:=h;refine⟨N,O.imp id ?_⟩;rintro⟨g,cap,D,e1,R,e3⟩;exact⟨g,cap,D,e1,R3 q.size R,e3⟩
   ·rw[e]at b
    cases b
   ·exact q.trans ⟨o.os,o.tape,o.output,o.size,λk S=>o.block k (R6 S q.size) (λe=>by cases e)⟩
end Go.Proofs
namespace Go.Tm
open Go.Proofs Go.Conc Go.ConcN Go.RowKit
def cQ.mono{P A B m t}(h:cQ P A m t)(k:∀v w,A v w->B v w):cQ P B m t:=by obtain⟨N,last,o,w',a,b,c,d,v,e,f,g⟩:=h;exact⟨N,last,o,w',a,b,c,d,v,e,k _ _ f,g⟩
def Bp(es:Array MapEntry):Prop:=∀e∈es.toList,(∃k n,e.key=.int k n)/\∃k n,e.val=.int k n
def Br{n}{π:Ren n}{es}(h:Bp es):aV (iq π) es es:=by refine⟨rfl,λi x y a b=>?_⟩;rw[a]at b;cases b;obtain⟨⟨k,m,c⟩,e,f,d⟩:=h x (by rw[<-Tg]at a;exact Ts a);exact⟨by rw[c];exact .int _ _,by rw[d];exact .int _ _,rfl⟩
def Bu{n}{π:Ren n}{es c}(h:Bp es)(r:aV (iq π) es c):c=es:=by refine(Ur r.1 λi j l=>?_).symm;have d:=r.2 i _ _ (Sv j) (Sv l);obtain⟨⟨k,m,e⟩,o,p,f⟩:=h es[i] (by rw[U9];exact Us j);have e1:=d.key;have g:=d.val;have e3:=d.born;rw[e]at e1;rw[f]at g;generalize es[i]=a at*;generalize c[i]=b at*;cases a;cases b;simp only at e f e1 g e3;cases e1;cases g;rw[e,f,e3]
section
variable {W:World} {B:Nat->Prop}
noncomputable abbrev gN:Nat:=Tryz.prog.globals.size
def JX{n f F}(h:Ij n f F)(k:Fle f F):F=f:=by
 obtain h|⟨b,c,d⟩:=h
 ·exact h
 ·obtain k|⟨k1,a|⟨a,e⟩⟩:=k
  ·exact k
  ·omega
  ·exact Prod.ext (by omega) (by omega)
def Ms{f:FuncId}(Q:gn.ent f=true){args}
 (R:∀b,B b->∃o,W.heap[b]? =some o/\((∃c e F,o=.cells c e F)\/∃es a,o=.map es a/\Bp es))
 (T:gN<=W.heap.size) (U:∃c e F,W.heap[0]? =some (.cells c e F)) (X:∀g,g<5->B g) (Y:∀x∈args,av (idR gN B) x x)
 (p:∀(Pr) (w),w.heap=(cP (idR gN B) Pr W).heap->Calls (Qs (fH g74)) f args w λe w'=>(e=.returned (.bool true)/\Below W.heap.size w w')\/∃v L,e=.panicked (iy v)/\dJ w' v L):
 cQ Tryz.prog (λV i=>V=.bool true/\i.os=W.os/\i.output=W.output/\W.heap.size<=i.heap.size/\∀b,b<W.heap.size->i.heap[b]? =W.heap[b]?) (crowd #[G (Frame.enter Tryz.prog f args .normal) []] W none) #[]:=by
 obtain⟨d,hu,I⟩:=zL;have A:Tryz.prog.underlying 125=some d:=(aI _ _ _).symm.trans hu;have C:∀b,B b->∃o,W.heap[b]? =some o/\((∃c e F,o=.cells c e F)\/(∀c e F,o≠ .cells c e F)/\fA gn (idR gN B) o o):=λb j=>by obtain⟨o,D,E⟩:=R b j;refine⟨o,D,E.imp id ?_⟩;rintro⟨es,a,rfl,y⟩;exact⟨λc e F h=>(by cases h),.map a (Br y)⟩
 let q:Nat->Prop:=λb=>B b/\∃c e F,W.heap[b]? =some (.cells c e F);let Post:(Nat->Prop)->Value->World->Prop:=λPr v w'=>v=.bool true/\∀b,b<W.heap.size->w'.heap[b]? =(cP (idR gN B) Pr W).heap[b]?;have calls:∀Pr,∀w:World,w.heap=(cP (idR gN B) Pr W).heap->Calls (ah Tryz.prog (fH g74)) f args w λe w'=>(∃v,e=.returned v/\Post Pr v w')\/∃v L,e=.panicked (iy v)/\dJ w' v L:=λPr w Z=>(p Pr w Z).mono λe w' h=>h.imp (λ⟨D,E⟩=>⟨_,D,rfl,λb j=>by rw[E.block b j,Z]⟩) id
 have hA:=law_ends (S:=gn) (fs:=(fH g74)) (Post:=Post q) (dJ:=dJ) (PostR:=λV i=>V=.bool true/\i.os=W.os/\i.output=W.output/\W.heap.size<=i.heap.size/\(∀b,b<W.heap.size->¬B b->i.heap[b]? =W.heap[b]?)/\
  (∀b,B b->∀c e F,W.heap[b]? =some (.cells c e F)->∃J,i.heap[b]? =some (.cells c e J))/\∀b,B b->∀es a,W.heap[b]? =some (.map es a)->Bp es->i.heap[b]? =some (.map es a))
  Ei zG xj tY (rL g74) A I qo Ep xo (Pr:=q) (f:=f) Q (args:=args) (W:=W) (B:=B) C (λb h=>h) (λv V w' i s K hV M l=>by
   obtain⟨rfl,N⟩:=K;refine⟨by cases hV;rfl,l.os,l.output,l.size,λb j hn=>l.keep b j λ⟨r,hr⟩=>hn (hr.1▸hr.2),λb j c e F z=>l.nA b ⟨j,c,e,F,z⟩ c e F z,λb j es a y I=>?_⟩;obtain⟨o,O,m,t,u⟩:=M.obj b b (l.le b b ⟨rfl,j⟩);rw[N b (R7.1 y).1,fG,y]at m;cases m;have u:fA gn s (.map es a) O:=u;cases u with
   |map n r=>rw[t,Bu I r]) T U (λg h=>X g (SO h)) Y (calls q)
 have P:=law_ends (S:=gn) (fs:=(fH g74)) (Post:=Post λ_=>False) (dJ:=dJ) (PostR:=λV i=>∀b,B b->∀c e F,W.heap[b]? =some (.cells c e F)->∃c' e',i.heap[b]? =some (.cells c' e' F))
  Ei zG xj tY (rL g74) A I qo Ep xo (Pr:=λ_=>False) (f:=f) Q (args:=args) (W:=W) (B:=B) C (λb h=>h.elim) (λv V w' i s K hV M l=>by
   obtain⟨rfl,N⟩:=K;intro b j c e F z;obtain⟨o,O,m,t,u⟩:=M.obj b b (l.le b b ⟨rfl,j⟩);rw[N b (R7.1 z).1,fG,z]at m;cases m;obtain⟨c',J,k1,k2⟩:=l.fz b c e F z;rw[k1]at t;cases t;have u:fA gn s (.cells (c.map (mask (idR gN B))) e F) (.cells c' e J):=by
    have e0:jX (idR gN B) False (.cells c e F)=.cells (c.map (mask (idR gN B))) e F:=by unfold jX;simp
    rw[<-e0];exact u
   cases u with
   |cells _ _ r=>exact⟨c',e,by rw[k1,JX r k2]⟩) T U (λg h=>X g (SO h)) Y (calls λ_=>False)
 refine(hA.and P).mono λV i ⟨⟨D,E,h3,h4,h5,h6,h7⟩,h8⟩=>⟨D,E,h3,h4,λb j=>?_⟩
 by_cases k:B b
 ·obtain⟨o,H,⟨c,e,F,rfl⟩|⟨es,a,rfl,y⟩⟩:=R b k
  ·obtain⟨J,m⟩:=h6 b k c e F H
   obtain⟨c',e',t⟩:=h8 b k c e F H;rw[m]at t;cases t;rw[m,H]
  ·rw[h7 b k es a H y,H]
 ·exact h5 b j k
end
end Go.Tm

import Derived.Conc.WalkWords
import Derived.Test.YtaglpcmhopjebaaGreatDoorW9
import Derived.Test.YtaglpcmhopjebaaGreatDoorW10
set_option linter.all false
set_option maxRecDepth 100000
set_option maxHeartbeats 20000000
namespace Go.Tm
open Go.Proofs Go.Conc
def VA:Array Oper:=#[{dst:=some 3,op:=.assign (.const (.bool false)),type:=4,pos:= "",after:=#[],guard:=none}]
def sf:Array Oper:=#[{dst:=some 3,op:=.assign (.const (.bool true)),type:=4,pos:= "",after:=#[],guard:=none},{dst:=some 4,op:=.move (.tmp 3),type:=4,pos:= "",after:=#[],guard:=none}]
def Hy:Array Oper:=#[{dst:=some 5,op:=.makeInterface 125 (.tmp 0),type:=0,pos:= "",after:=#[],guard:=none},{dst:=none,op:=.defer {callee:=.builtin .panic,args:=#[.tmp 5],argTypes:=#[0]},type:=0,pos:= "",after:=#[],guard:=none},{dst:=none,op:=.panic (.tmp 5),type:=0,pos:= "",after:=#[],guard:=none}]
def pw:Array Oper:=#[{dst:=some 6,op:=.call {callee:=.value (.func 77),args:=#[.tmp 0],argTypes:=#[60]},type:=62,pos:= "",after:=#[],guard:=none},{dst:=some 7,op:=.call {callee:=.builtin .append,args:=#[.const (.slice none 0 0),.tmp 6],argTypes:=#[62,62]},type:=62,pos:= "",after:=#[],guard:=none},{dst:=some 2,op:=.assign (.tmp 7),type:=62,pos:= "",after:=#[],guard:=none}]
def xz:Code:=.seq (.cond (.tmp 4) .skip (.region 2 Hy false)) (.seq (.region 3 pw false) .ret)
def CU:Code:=.seq (.region 0 VA false) (.seq (.region 1 sf true) xz)
def g74:Func:={name:= "g",origin:= "",params:=#[125],resultTypes:=#[62],nfree:=0,ntmps:=8,results:=#[.tmp 2],body:=some CU,norace:=false,tmpNames:=#[]}
def fZ(v:x6):List PanicEntry:=[{v:=.iface 125 v,recovered:=false},{v:=.iface 125 v,recovered:=false}]
def CW(v):Off (fZ v):=Wv 2
def LR(Q:Program)(n:Nat)(fr:Frame)(cs:List Frame)(w:xv)(fr':Frame)(cs':List Frame)(w':xv):Prop:=runN Q n (lone fr cs w)=.next (lone fr' cs' w')
def LR.refl{Q fr cs w}:LR Q 0 fr cs w fr cs w:=rfl
def LR.step{Q n fr fr' a cs cs' b w w' w2 es}(h:stepG Q true ⟨fr,cs,.running,none,none⟩ w=.go ⟨fr',cs',.running,none,none⟩ w' es)(k:LR Q n fr' cs' w' a b w2):LR Q (n+1) fr cs w a b w2:=by unfold LR runN;rw[step_lone_go (by rw[h];rfl)];exact k
def LR.trans{Q n m f c d cs a b w w1 w2}(h:LR Q n f cs w c a w1)(k:LR Q m c a w1 d b w2):LR Q (n+m) f cs w d b w2:=by unfold LR at*;rw[runN_add,h];exact k
def Kf(m t):Region.schedule m sf t=if t%2=0 then[0,1]else[1,0]:=by (have a:Region.departs sf=false:=by simp[Region.departs,sf]);unfold Region.schedule;rw[a];simp only[YJ,Bool.or_true,↓reduceIte];have e:List.range 2=[0,1]:=rfl;obtain h|h:=aaF t;rw[Wu h];simp[Region.linearise,Region.linearise.go,sf,e,h,aaa,Nat.mod_one];rw[Wt (by omega)];simp[Region.linearise,Region.linearise.go,sf,e,h,aaa,Nat.mod_one]
def tf{P main}{b:Frame}{a k cs w c ops}:stepG P main (G (b.at a (.code (.region c ops true)::k)) cs) w=.go (G (b.at a (.inRegion ops (Region.schedule (P.follows .mixedOrders) ops (w.tape w.drawn (.order b.fn c)))::k)) cs) w.drew:=by simp[G,stepG,stepG.exec,Frame.at,Question.forced,Question.cut]
def jW{P main}{b:Frame}{a k cs w c ops l}(h:List.range ops.size=l):stepG P main (G (b.at a (.code (.region c ops false)::k)) cs) w=.go (G (b.at a (.inRegion ops l::k)) cs) w:=by rw[<-h];exact stepG_region
def eJ(f):(base f).kind≠ .early:=by intro h;cases h
section
variable {Q:Program} (h74:Q.funcs[74]? =some g74)
def gT(v a b c d e f:x6):WZ:=#[v,undef,a,b,c,d,e,f]
def Kg(v:x6):Frame.enter Q 74 #[v] .normal=(base 74).at ⟨gT v undef undef undef undef undef undef,[]⟩ [.code CU]:=by rw[enter_at (c:=CU) #[v] h74 rfl];rfl
def P0(v cs w):LR Q 5 ((base 74).at ⟨gT v undef undef undef undef undef undef,[]⟩ [.code CU]) cs w ((base 74).at ⟨gT v undef (.bool false) undef undef undef undef,[]⟩ [.code (.region 1 sf true),.code xz]) cs w:=by refine .step stepG_seq ?_;refine .step (jW (l:=[0]) rfl) ?_;refine .step (stepG_value (v:=.bool false) (w':=w) rfl rfl (eJ 74) rfl) ?_;refine .step stepG_region_end ?_;exact .step stepG_seq .refl
def rE(Q:Program)(fr:Frame)(cs:List Frame)(w:xv)(K:Frame->List Frame->xv->Prop):Prop:=∃n fr' cs' w',LR Q n fr cs w fr' cs' w'/\K fr' cs' w'
def rE.done{Q fr cs w K}(h:K fr cs w):rE Q fr cs w K:=⟨0,fr,cs,w,.refl,h⟩
def rE.step{Q fr fr' cs cs' w w' es K}(h:stepG Q true ⟨fr,cs,.running,none,none⟩ w=.go ⟨fr',cs',.running,none,none⟩ w' es)(k:rE Q fr' cs' w' K):rE Q fr cs w K:=by obtain⟨n,a,b,w2,c,d⟩:=k;exact⟨n+1,a,b,w2,.step h c,d⟩
def rE.kW{Q fr fr' cs cs' w w' K}(h:∃es,stepG Q true ⟨fr,cs,.running,none,none⟩ w=.go ⟨fr',cs',.running,none,none⟩ w' es)(k:rE Q fr' cs' w' K):rE Q fr cs w K:=h.elim λ_ h=>.step h k
def uw{P main}{b:Frame}{a k cs w ops i rest o d}(f:ops[i]? =some o)(g:Region.wanted o (yielded ops a.tmps)=true)(h:b.kind≠ .early) (j:(execOp a.eval o).run P w=.ok (.defer d) w):∃es,stepG P main (G (b.at a (.inRegion ops (i::rest)::k)) cs) w=.go (G (b.at (Act.put ⟨a.tmps,d::a.defers⟩ o.dst undef) (.inRegion ops rest::k)) cs) w es:=by (have e:(b.kind==CallKind.early)=false:=by simpa using h);(have c:({b.at a (.inRegion ops (i::rest)::k)with defers:=d::a.defers}:Frame).finish undef=b.at (Act.put ⟨a.tmps,d::a.defers⟩ o.dst undef) (.inRegion ops rest::k):=by have:=Frame.finish_at (b:=b) (a:=⟨a.tmps,d::a.defers⟩) (ops:=ops) (i:=i) (rest:=rest) (k:=k) undef;rw[f]at this;exact this);refine⟨listed P b.fn a o w,?_⟩;rw[stepG_oper f g,<-c];simp[stepG.apply,j,G,Frame.at,e,GStep.after,listed]
def ux{P:Program}{main:Bool}{b:Frame}{a:Act}{k:List Item}{cs:List Frame}{w:xv}{ops:Array Oper}{i:Nat}{rest:List Nat}{o:Oper}{x:x6}(d:ops[i]? =some o)(e:Region.wanted o (yielded ops a.tmps)=true)(f:b.kind≠ .early) (g:(execOp a.eval o).run P w=.halt (.panic x) w):∃es,stepG P main (G (b.at a (.inRegion ops (i::rest)::k)) cs) w=.go (G {b.at a (.inRegion ops (i::rest)::k)with mode:=.panicking [{v:=x,recovered:=false}]} cs) w es:=by (have c:(b.kind==CallKind.early)=false:=by simpa using f);refine⟨listed P b.fn a o w,?_⟩;rw[stepG_oper d e];simp[stepG.apply,g,G,Frame.at,c,GStep.after,listed,Frame.raise]
def mv{P main fr cs w ds ts t bs}{x:x6}{ch}(a:fr.defers=⟨.builtin .panic ts t bs,#[x]⟩::ds)(b:fr.mode=.panicking ch)(c:∃T v,x=.iface T v):∃es,stepG P main ⟨fr,cs,.running,none,none⟩ w=.go ⟨{fr with defers:=ds,mode:=.panicking ({v:=x,recovered:=false}::ch)},cs,.running,none,none⟩ w es:=by (obtain⟨T,v,rfl⟩:=c;have d:(invoke (.builtin .panic ts t bs) #[.iface T v]).run P w=.halt (.panic (.iface T v)) w:=by simp[invoke,builtin,Instr.panic,goPanic]);refine⟨seen P fr.fn ((invoke (.builtin .panic ts t bs) #[.iface T v]).events P w #[]),?_⟩;simp[stepG,b,unwind,a,callDeferred,d,GStep.after,Frame.raise]
def VB(v cs w){d}(c:Q.underlying 125=some d)(e:∀x,d≠ .interface x)(h:w.tape w.drawn (.order 74 1)%2=1):rE Q ((base 74).at ⟨gT v undef (.bool false) undef undef undef undef,[]⟩ [.code (.region 1 sf true),.code xz]) cs w λa b w1=>b=cs/\w1=w.drew/\a.mode=.panicking (fZ v)/\a.defers=[]:=by refine .step tf ?_;rw[show(base 74).fn=74 from rfl,Kf,Wt (by omega)];refine .step (stepG_value (v:=.bool false) (w':=w.drew) rfl rfl (eJ 74) rfl) ?_;refine .step (stepG_value (v:=.bool true) (w':=w.drew) rfl rfl (eJ 74) rfl) ?_;refine .step stepG_region_end ?_;show rE Q ((base 74).at ⟨gT v undef (.bool true) (.bool false) undef undef undef,[]⟩ [.code xz]) cs w.drew _;refine .step stepG_seq ?_;refine .step (stepG_cond (t:=false) rfl) ?_;refine .step (jW (l:=[0,1,2]) rfl) ?_;refine .step (stepG_value (v:=.iface 125 v) (w':=w.drew) rfl rfl (eJ 74) ?_) ?_;show(do pure (.value (<-Instr.makeInterface 125 v)):Sem Next).run Q w.drew=_;(simp only[Instr.makeInterface,underlying];cases d with|interface x=>exact absurd rfl (e x)|_=>simp[c]);show rE Q ((base 74).at ⟨gT v undef (.bool true) (.bool false) (.iface 125 v) undef undef,[]⟩ (.inRegion Hy [1,2]::[.code (.seq (.region 3 pw false) .ret)])) cs w.drew _;refine .kW (uw (d:=⟨.builtin .panic #[0] 0 #[false],#[.iface 125 v]⟩) rfl rfl (eJ 74) ?_) ?_;show(do pure (.defer (<-resolve (Act.eval ⟨gT v undef (.bool true) (.bool false) (.iface 125 v) undef undef,[]⟩) {callee:=.builtin .panic,args:=#[.tmp 5],argTypes:=#[0]} 0)):Sem Next).run Q w.drew=_;simp[resolve,Act.eval,gT];show rE Q ((base 74).at ⟨gT v undef (.bool true) (.bool false) (.iface 125 v) undef undef,[⟨.builtin .panic #[0] 0 #[false],#[.iface 125 v]⟩]⟩ (.inRegion Hy [2]::[.code (.seq (.region 3 pw false) .ret)])) cs w.drew _;refine .kW (ux (x:=.iface 125 v) rfl rfl (eJ 74) rfl) ?_;refine .kW (mv (ds:=[]) (ts:=#[0]) (t:=0) (bs:=#[false]) (x:=.iface 125 v) (ch:=[{v:=.iface 125 v,recovered:=false}]) rfl rfl ⟨_,_,rfl⟩) ?_;exact .done ⟨rfl,rfl,rfl,rfl⟩
def gC(v:x6):Frame:=(base 74).at ⟨gT v undef (.bool true) (.bool true) undef undef undef,[]⟩ [.inRegion pw [0,1,2],.code .ret]
def S9(v cs w){fn}(b:Q.funcs[77]? =some fn)(a:(fn.name== "runtime.NumGoroutine")=false)(c:fn.body.isNone=false)(h:w.tape w.drawn (.order 74 1)%2=0):LR Q 10 ((base 74).at ⟨gT v undef (.bool false) undef undef undef undef,[]⟩ [.code (.region 1 sf true),.code xz]) cs w (Frame.enter Q 77 #[v] .normal) (gC v::cs) w.drew:=by (refine .step tf ?_;rw[show(base 74).fn=74 from rfl,Kf,Wu h];refine .step (stepG_value (v:=.bool true) (w':=w.drew) rfl rfl (eJ 74) rfl) ?_;refine .step (stepG_value (v:=.bool true) (w':=w.drew) rfl rfl (eJ 74) rfl) ?_;refine .step stepG_region_end ?_;show LR Q _ ((base 74).at ⟨gT v undef (.bool true) (.bool true) undef undef undef,[]⟩ [.code xz]) cs w.drew _ _ _;refine .step stepG_seq ?_;refine .step (stepG_cond (t:=true) rfl) ?_;refine .step stepG_skip ?_;refine .step stepG_seq ?_;refine .step (jW (l:=[0,1,2]) rfl) ?_;have e:(#[Operand.tmp 0]).map (Act.eval ⟨gT v undef (.bool true) (.bool true) undef undef undef,[]⟩)=#[v]:=by simp[Act.eval,gT]);refine .step (vT rfl rfl (eJ 74) rfl b a c) ?_;rw[e];exact .refl
def VC(v x V:x6)(C:Frame)(cs:List Frame)(w w':xv)(a:(Builtin.append_ #[62,62] 62 #[.slice none 0 0,x]).run Q w=.ok V w'):LR Q 5 ((gC v).finish x) (C::cs) w (C.finish V) cs w':=by unfold gC;rw[Frame.finish_at];show LR Q _ ((base 74).at ⟨gT v undef (.bool true) (.bool true) undef x undef,[]⟩ [.inRegion pw [1,2],.code .ret]) (C::cs) w _ _ _;refine .step (stepG_value (v:=V) (w':=w') rfl rfl (eJ 74) ?_) ?_;show(execOp (Act.eval ⟨gT v undef (.bool true) (.bool true) undef x undef,[]⟩) {dst:=some 7,op:=.call {callee:=.builtin .append,args:=#[.const (.slice none 0 0),.tmp 6],argTypes:=#[62,62]},type:=62,pos:= "",after:=#[],guard:=none}).run Q w=_;simp[execOp,resolve,invoke,builtin,Act.eval,gT,a];show LR Q _ ((base 74).at ⟨gT v undef (.bool true) (.bool true) undef x V,[]⟩ [.inRegion pw [2],.code .ret]) (C::cs) w' _ _ _;refine .step (stepG_value (v:=V) (w':=w') rfl rfl (eJ 74) rfl) ?_;show LR Q _ ((base 74).at ⟨gT v V (.bool true) (.bool true) undef x V,[]⟩ [.inRegion pw [],.code .ret]) (C::cs) w' _ _ _;refine .step stepG_region_end ?_;refine .step stepG_ret' ?_;refine .step (stepG_leave (v:=V) rfl rfl h74 (results_tmp (t:=2) rfl _ _ _) (events_results_tmp (t:=2) rfl _ _)) ?_;exact .refl
end
end Go.Tm
namespace Go.Tm
open Go.Proofs Go.Conc Go.ConcN
def rh(dL:xv->x6->List x6->Prop):Prop:=∀w w' v L,dL w v L->(∀(b:Nat) c e f,w.heap[b]? =some (.cells c e f)->w'.heap[b]? =some (.cells c e f))->dL w' v L
def VD{w τ}(h:τ w.drawn=λ_=>1):(aw w τ w.drawn).tape (aw w τ w.drawn).drawn (.order 74 1)%2=1:=by have e:(aw w τ w.drawn).tape (aw w τ w.drawn).drawn=τ w.drawn:=rfl;rw[e,h];rfl
section
variable {S:Kn} {fs:Array Func} {Post:x6->xv->Prop} {dL:xv->x6->List x6->Prop}
def MP(o:fs[74]? =some g74){d}(u:Tryz.prog.underlying 125=some d)(y:∀x,d≠ .interface x)(p:rh dL){f args D0} (i:∀τ,(∀n<D0.drawn,τ n=D0.tape n)->Calls (ai Tryz.prog fs) f args (aw D0 τ D0.drawn) λe w'=>(∃v,e=.returned v/\Post v w')\/∃v L,e=.panicked (fZ v)/\dL w' v L):Hw S fs dL ⟨Frame.enter (ai Tryz.prog fs) f args .normal,[],D0⟩:=by
 intro c k v π z A B C j;obtain⟨D,⟨m,L,e1,E⟩,F,H⟩:=Hv (S:=S) (Q:=ai Tryz.prog fs) (G:=Tryz.prog.globals.size) (f:=f) (g:=74) (args:=args) (a:=#[v]) (D0:=D0) (Post:=Post) (PreB:=λch w'=>∃m L,ch=fZ m/\dL w' m L) (ch0:=fZ v)
  (λτ l=>(i τ l).mono λe w' h=>h.imp id λ⟨v,L,q,r⟩=>⟨_,CW v,q,v,L,rfl,r⟩) z A π B C j (λcs τ l=>by have h:=VB (Q:=ai Tryz.prog fs) v cs (aw c.w τ c.w.drawn) ((aP Tryz.prog fs 125).trans u) y (VD (l _ (Wv _)));obtain⟨n,s,I,w1,q,rfl,rfl,r,J⟩:=h;refine⟨5+n,s,(aw c.w τ c.w.drawn).drew,?_,r,J,rfl⟩;rw[Kg (Q:=ai Tryz.prog fs) o];exact(P0 v _ _).trans q)
 have:m=v:=by simp only[fZ,Y2,PanicEntry.mk.injEq,Value.iface.injEq]at e1;exact e1.1.1.2.symm
 subst this;exact⟨L,p D c.w m L E λb K e M t=>by obtain h|h:=H b;rw[<-h];exact t;rw[h]at t;cases t⟩
end
section
variable {S:Kn} {fs:Array Func} {Post PostR:x6->xv->Prop} {dL:xv->x6->List x6->Prop}
def law_ends(t:Tab S Tryz.prog fs)(l:∀g,S.calm g)(u:∀f,S.ent f=true->Tryz.prog.inits.idxOf? f=none)(y:0<Tryz.prog.globals.size)(z:fs[74]? =some g74){d}(P:Tryz.prog.underlying 125=some d)(Q:∀x,d≠ .interface x) (A:rh dL) (C:oY S fs Post dL) (D:vZ S dL) {Pr} {f:FuncId} (M:S.ent f=true) {args} {W} {B} (R:∀b,B b->∃o,W.heap[b]? =some o/\((∃c e F,o=.cells c e F)\/(∀c e F,o≠ .cells c e F)/\gL S (idR Tryz.prog.globals.size B) o o)) (r:∀b,Pr b->B b/\∃c e F,W.heap[b]? =some (.cells c e F)) (m:∀v V w' E (n),Post v w'->aD n v V->bE S Pr n w' E->jB Pr (idR Tryz.prog.globals.size B) W n E->PostR V E) (T:Tryz.prog.globals.size<=W.heap.size) (N:∃c e F,W.heap[0]? =some (.cells c e F)) (U:∀g,S.dU g=true->B g) (X:∀x∈args,aD (idR Tryz.prog.globals.size B) x x) (p:∀w,w.heap=(dD (idR Tryz.prog.globals.size B) Pr W).heap->Calls (ai Tryz.prog fs) f args w λe w'=>(∃v,e=.returned v/\Post v w')\/∃v L,e=.panicked (fZ v)/\dL w' v L):cP Tryz.prog PostR (crowd #[G (Frame.enter Tryz.prog f args .normal) []] W none) #[]:=by
 let D0:xv:=aw (dD (idR Tryz.prog.globals.size B) Pr W) (λ_ _=>0) 0;have a:∀τ,Calls (ai Tryz.prog fs) f args (aw D0 τ D0.drawn) λe w'=>(∃v,e=.returned v/\Post v w')\/∃v L,e=.panicked (fZ v)/\dL w' v L:=λτ=>p _ rfl;have q:Gd S (ai Tryz.prog fs) Post ⟨Frame.enter (ai Tryz.prog fs) f args .normal,[],D0⟩:=Ev (λ_ _=>nF) λτ _=>(a τ).mono λe w' h=>h.imp id λ⟨v,L,k,_⟩=>⟨_,CW v,k⟩
 have s:=(t.ent f M).1;have H:bq S (idR Tryz.prog.globals.size B) (Frame.enter (ai Tryz.prog fs) f args .normal) (Frame.enter Tryz.prog f args .normal):=by rcases vL (π:=idR Tryz.prog.globals.size B) t f (.inr M) (λx=>by rw[s]at x;cases x) (qx X) (cs:=[aJ]) (by simp)with h|⟨_,g,a1,A1,k,_,h3,_⟩;exact h;have e:=W8 Frame.fn h3;have e:f=g:=e;rw[<-e,s]at k;cases k
 have Y:bE S Pr (idR Tryz.prog.globals.size B) D0 W:=(lM (S:=S) (Pr:=Pr) (λb Z=>by obtain⟨o,k,h2⟩:=R b Z;exact⟨o,k,h2.imp id λh=>⟨λI=>by obtain⟨_,c,e,F,O⟩:=r b I;rw[k]at O;cases O;exact h.1 _ _ _ rfl,h.1,h.2⟩⟩) (λb h=>(r b h).1) T N).heap rfl rfl;have J:Cp S Tryz.prog fs Pr Post (idR Tryz.prog.globals.size B) ⟨Frame.enter (ai Tryz.prog fs) f args .normal,[],D0⟩ (Frame.enter Tryz.prog f args .normal) [] W:=⟨H,.nil,Y,zX,q,λg h=>⟨rfl,U g h⟩⟩
 have I:=past_nil.mono (WB W.heap.size);exact join t l u y m (MP z P Q A λτ _=>a τ) C D q.Wo 0 _ _ _ W _ none #[] (λ_=>False) (λ_=>False) (.refl q.1) (λ_ h=>h.elim) (jB.refl _ _ _) J
  ⟨rfl,⟨λ_=>0,λi g N k=>by
   have:i<1:=by simpa using(WC.1 k).1
   omega,λj _=>rfl⟩,I,λop K=>by simp at K⟩ λb h=>h.elim
end
def cP.and{P A B m t}(h:cP P A m t)(k:cP P B m t):cP P (λv w=>A v w/\B v w) m t:=by (obtain⟨N,last,o,w',g,b,a,i,j⟩:=h;obtain⟨M,c,l,w2,x,k1,f,y,n⟩:=k;have e:N=M:=by obtain hlt|p|hlt:=ZW N M;(obtain⟨d,rfl⟩:∃d,M=N+1+d:=⟨M-(N+1),by omega⟩);(rw[runN_add]at f;have:runN P (N+1) m=.ended o w':=by rw[<-runNT_fst P (N+1) m t,b]);rw[this]at f;cases f;exact p;(obtain⟨d,rfl⟩:∃d,N=M+1+d:=⟨N-(M+1),by omega⟩);(rw[runN_add]at a;have:runN P (M+1) m=.ended l w2:=by rw[<-runNT_fst P (M+1) m t,k1]);rw[this]at a;cases a);subst e;rw[b]at k1;cases k1;obtain⟨v,rfl,q,r⟩:=j;obtain⟨v2,s,u,_⟩:=n;cases s;exact⟨N,last,_,w',g,b,a,i,v,rfl,⟨q,u⟩,r⟩
end Go.Tm
namespace Go.Tm
section
variable {S:Kn} {P:Program} {fs:Array Func}
def jump(E:Tab S P fs)(W:me P)(l:∀f,S.stop f=false)(r:∀g,S.calm g){R:x6->xv->Prop}{f:FuncId}{a ag C cs w wg}{π:Ren P.globals.size} (hf:S.ent f=true) (ha:VsR π ag a) (hw:bE S (λ_=>False) π wg w) (s:∀g,S.dU g=true->π g g) (τ) (aa:∀n<w.drawn,τ n=w.tape n) (hc:Calls P f a (aw w τ w.drawn) λe w'=>∃v,e=.returned v/\R v w') (t:∀j,j.heap=wg.heap->Calls (ai P fs) f ag j λe w'=>∃v,e=.returned v):∃V w' N,R V w'/\w'.tape=τ/\w.drawn<=w'.drawn/\∀σ,(∀n<w'.drawn,σ n=τ n)->LR P N (Frame.enter P f a .normal) (C::(cs++[aJ])) (aw w σ w.drawn) (C.finish V) (cs++[aJ]) (aw w' σ w'.drawn):=by (have F:=qw (Post:=λ_ _=>True) E l hf ha (hw.heap (Z1:=aw w τ w.drawn) rfl rfl) s λj z=>(t j z).mono λe w' ⟨v,h⟩=>⟨v,h,True.intro⟩);(obtain⟨ab,c',G,W',n,H,X,Y,h4,Z⟩:=F.run E W l λn hn=>r _;obtain⟨e,w2,I,⟨v2,rfl,hR⟩,⟨A,p⟩,_,B⟩:=hc [aJ];have d:=Z [aJ] τ λ_ _ _=>rfl;simp only[XU]at d;have J:aw (aw w τ w.drawn) τ (aw w τ w.drawn).drawn=aw w τ w.drawn:=rfl;have K:aw W' τ W'.drawn=W':=by have:=Y.tape;rw[show τ=W'.tape from this.symm];rfl);(rw[J,K]at d;have u:G=I/\W'=w2:=by obtain hlt|rfl|hlt:=ZW n A;exfalso;(have x:=iI P d p (Yb hlt);obtain⟨k,L⟩:∃k,A-n=k+1:=⟨A-n-1,by omega⟩);rw[L]at x;obtain⟨_,v0,V,w3,y,ev,M,_,_,i,_⟩:=H.returns E X aJ [] true;unfold runN at x;rw[step_lone_go (by rw[i];rfl)]at x;exact GK k _ x;rw[d]at p;obtain⟨O,_,Q⟩:=kp (Stepped.next.inj p);exact⟨O,Q⟩;exfalso;(have x:=iI P p d (Yb hlt);obtain⟨k,L⟩:∃k,n-A=k+1:=⟨n-A-1,by omega⟩);rw[L]at x;exact gone B x);(obtain⟨rfl,rfl⟩:=u;obtain⟨_,v0,V,w3,y,ev,M,_,_,i,_,_,_,T⟩:=H.returns E X C (cs++[aJ]) true;have m:=step_leave_returned (c:=C) (cs:=cs++[aJ]) B;have q:=step_lone_go (P:=P) (fr:=G) (cs:=C::(cs++[aJ])) (w:=W') (fr':=C.finish V) (cs':=cs++[aJ]) (w':=y) (by rw[i];rfl);rw[q]at m;obtain⟨O,_,Q⟩:=kp (Stepped.next.inj m);subst Q;rw[O]at i;have o:=H.calm;have D:=xq W true o.1 o.2.1 o.2.2 i rfl rfl (xt T);refine⟨v2,y,n+1,hR,Y.tape,h4,λσ U=>?_⟩;have hA:Agr (aw w τ w.drawn) y.drawn σ:=λn _ b=>U n b;have hB:=Z (C::cs++[aJ]) σ hA;unfold LR;rw[runN_add];have:runN P n (lone (Frame.enter P f a .normal) (C::(cs++[aJ])) (aw w σ w.drawn))=.next (lone G (C::cs++[aJ]) (aw y σ y.drawn)):=hB);rw[this];show runN P 1 _=_;unfold runN;rw[Zk,step_lone_go (by rw[D.2.2 σ λn a b=>by omega];rfl)];rfl
end
end Go.Tm
namespace Go.Tm
open Go.Proofs Go.Conc Go.ConcN
def R77(L:List x6)(w:xv)(x:x6)(w':xv):Prop:=w.heap.size<=w'.heap.size/\(∀b,b<w.heap.size->w'.heap[b]? =w.heap[b]?)/\((L=[]/\x=.slice none 0 0)\/(L≠[]/\∃a c,x=.slice (some a) L.length c/\∀j u,(bJ L)[j]? =some u->w'.cell? (a.add j)=some u))
def px(L)(d:∀v∈L,∃a b c,v=fV a b c):(bJ L).length=L.length*3:=by induction L with|nil=>rfl|cons v L f=>(obtain⟨a,b,c,rfl⟩:=d v (.head _);have:=f λx g=>d x (.tail _ g);have e:bJ (fV a b c::L)=[.i a,.i b,.i c]++bJ L:=by simp[bJ,fV,Value.cells]);rw[e,WS,this];simp only[WA,WQ];omega
def ri(w:xv)(k:Nat):Nat->Question->Nat:=λn=>if n<w.drawn then w.tape n elseλq=>match q with| .appendCap .. =>k|_=>0
def Hz{w k n}(h:n<w.drawn):ri w k n=w.tape n:=Wu h
def Br{w k n}(h:w.drawn<=n)(f i:Nat):ri w k n (.order f i)=0:=by unfold ri;rw[Wt (by omega)]
def Ia{w k n}(h:w.drawn<=n)(a b e):ri w k n (.appendCap a b e)=k:=by unfold ri;rw[Wt (by omega)]
def VE{w σ}(h:σ w.drawn (.order 74 1)=0):(aw w σ w.drawn).tape (aw w σ w.drawn).drawn (.order 74 1)%2=0:=by have e:(aw w σ w.drawn).tape (aw w σ w.drawn).drawn=σ w.drawn:=rfl;rw[e,h]
def qy{P t ty e i}(a:P.underlying t=some (.slice e))(b:P.info? e=some i)(w):(Builtin.append_ #[t,t] ty #[.slice none 0 0,.slice none 0 0]).run P w=.ok (.slice none 0 0) w:=by simp[Builtin.append_,run_underlying a,sizeOf,typeInfo,b,Builtin.lenOf,run_firstCells_none]
def underlying62:Tryz.prog.underlying 62=some (.slice 66):=by kernel_rfl
section
variable {S S₁:Kn} {fs fs1:Array Func} {Post:x6->xv->Prop} {dL:xv->x6->List x6->Prop}
def Ib(U:fs[74]? =some g74){fn}(ax:fs[77]? =some fn)(D:(fn.name== "runtime.NumGoroutine")=false)(q:fn.body.isNone=false) (ht:Tab S₁ (ai Tryz.prog fs) fs1) (hP:me (ai Tryz.prog fs)) (E:∀f,S₁.stop f=false) (G:∀g,S₁.calm g) (W:S₁.ent 77=true) (X:rh dL) (hG:∀w v L,dL w v L->Tryz.prog.globals.size<=w.heap.size) (hL:∀w v L,dL w v L->L.length<1000/\∀x∈L,∃a b c,x=fV a b c) (Y:∀w v L,dL w v L->∀g,S₁.dU g=true->∃c e F,w.heap[g]? =some (.cells c e F)) (H:∀w v L,dL w v L->dL (dD (idR Tryz.prog.globals.size λb=>∃c e F,w.heap[b]? =some (.cells c e F)) (λ_=>False) w) v L/\aD (idR Tryz.prog.globals.size λb=>∃c e F,w.heap[b]? =some (.cells c e F)) v v) (hc:∀w v L,dL w v L->Calls (ai Tryz.prog fs) 77 #[v] w λe w'=>∃x,e=.returned x/\R77 L w x w') (I:∀w v L,dL w v L->Calls (ai (ai Tryz.prog fs) fs1) 77 #[v] w λe w'=>∃x,e=.returned x):oY S fs Post dL:=by
 intro c v C cs L cap e1 e2 bB hp Z;obtain⟨τ,o⟩:=ex (ri c.w (cap-L.length));have aa:∀n,n<c.w.drawn->τ n=c.w.tape n:=λn t=>by rw[o];exact Hz t
 have B:∀n,c.w.drawn<=n->∀f i,τ n (.order f i)=0:=λn t f i=>by rw[o];exact Br t f i
 have ab:∀n,c.w.drawn<=n->∀a b e,τ n (.appendCap a b e)=cap-L.length:=λn t a b e=>by rw[o];exact Ia t a b e
 clear o;obtain⟨W1,p⟩:=ex (aw c.w τ (c.w.drawn+1));have l:W1.heap=c.w.heap:=by rw[p];rfl
 have ad:W1.drawn=c.w.drawn+1:=by rw[p];rfl
 have ay:W1.tape=τ:=by rw[p];rfl
 have aK:∀σ d,aw W1 σ d=aw c.w σ d:=λσ d=>by rw[p];rfl
 have aM:aw W1 τ W1.drawn=W1:=by rw[p];rfl
 clear p;have r:=X _ _ v L hp λb cc e F q=>by rw[l];exact q
 obtain⟨aR,a6⟩:=H W1 v L r;have a7:=hG W1 v L r;obtain⟨x,w2,N,hR,af,a8,J⟩:=jump (w:=W1) (C:=gC v) (cs:=C::cs) (τ:=τ) ht hP E G (R:=R77 L W1) (a:=#[v]) (ag:=#[v]) (wg:=dD (idR Tryz.prog.globals.size λb=>∃c e F,W1.heap[b]? =some (.cells c e F)) (λ_=>False) W1)
  (π:=idR Tryz.prog.globals.size λb=>∃c e F,W1.heap[b]? =some (.cells c e F)) W (bf.refl λy hy=>by simp at hy;subst hy;exact a6)
  (lM (λb q=>by obtain⟨cc,e,F,h⟩:=q;exact⟨_,h,.inl ⟨cc,e,F,rfl⟩⟩) (λ_ h=>h.elim) a7 (Y W1 v L r 0 ht.zo)) (λg hg=>⟨rfl,Y W1 v L r g hg⟩) (λn t=>by rw[ay])
  (by rw[aM];exact hc W1 v L r) (λah ak=>I ah v L (X _ _ v L aR λb cc e F q=>by rw[ak];exact q))
 have bA:=ad▸a8;have K:∀σ:Nat->Question->Nat,σ c.w.drawn=τ c.w.drawn->LR (ai Tryz.prog fs) 15 c.fr (C::cs++[aJ]) (aw c.w σ c.w.drawn) (Frame.enter (ai Tryz.prog fs) 77 #[v] .normal) (gC v::(C::cs++[aJ])) (aw c.w σ (c.w.drawn+1)):=by (intro σ m;rw[e1,Kg (Q:=ai Tryz.prog fs) U];have h0:σ c.w.drawn (.order 74 1)=0:=by rw[m];exact B _ (Wv _) 74 1);have a1:=P0 (Q:=ai Tryz.prog fs) v (C::cs++[aJ]) (aw c.w σ c.w.drawn);have a2:=S9 (Q:=ai Tryz.prog fs) v (C::cs++[aJ]) (aw c.w σ c.w.drawn) ax D q (VE h0);have a3:=a1.trans a2;exact a3
 have M:∀n,c.w.drawn<=n->S.ie (τ n):=λn t f i _=>B n t f i;obtain⟨z,al,ba⟩:=hR;have key:∀(V:x6) (w3:xv) (d:Nat),w2.drawn<=d->w3.drawn=d->w3.tape=τ->(∀σ:Nat->Question->Nat,(∀n<d,σ n=τ n)->(Builtin.append_ #[62,62] 62 #[.slice none 0 0,x]).run (ai Tryz.prog fs) (aw w2 σ w2.drawn)=.ok V (aw w3 σ d))->
  Nxs S (ai Tryz.prog fs) c ⟨C.finish V,cs,w3⟩ (15+(N+5)):=by
  intro V w3 d hd e3 e4 an;refine⟨by show c.w.drawn<=w3.drawn;omega,λk hk=>by show S.ie (w3.tape k);rw[e4];exact M k hk,λk hk=>by show w3.tape k=_;rw[e4];exact aa k hk,λσ m=>?_⟩;have s:∀n<d,σ n=τ n:=λn t=>by rw[m n (by show n<w3.drawn;omega)];show w3.tape n=_;rw[e4]
  have h1:=K σ (s _ (by omega));have h2:=J σ λn t=>s n (by omega);rw[aK,ad]at h2;have h3:=VC (Q:=ai Tryz.prog fs) U v x V C (cs++[aJ]) _ _ (an σ s);rw[e2];show LR _ _ _ _ _ _ _ (aw w3 σ w3.drawn);rw[e3];exact h1.trans (h2.trans h3)
 obtain⟨bb,rfl⟩|⟨O,a,cx,rfl,A⟩:=ba;refine⟨.slice none 0 0,w2,15+(N+5),by omega,key _ w2 w2.drawn (Wv _) rfl af λσ _=>?_,l▸z,λb q=>by rw[<-l];exact al b (l▸q),.inl ⟨bb,rfl⟩⟩;obtain⟨i,T,_⟩:=oL;exact qy ((aP _ _ _).trans underlying62) ((uX _ _ _).trans T) _;obtain⟨bC,bk⟩:=Z O;obtain⟨b0,bm⟩:=hL _ _ _ hp;obtain⟨i,T,bo,br,bs⟩:=oL;have ao:=XQ.2 O;have bx:=px L bm;have ar:∀σ:Nat->Question->Nat,(∀n<w2.drawn+1,σ n=τ n)->grownCap (aw w2 σ w2.drawn) L.length 0 66=cap:=by intro σ m;show(Question.appendCap L.length 0 66).cut (σ w2.drawn (.appendCap L.length 0 66))=cap;rw[m _ (by omega)];show L.length+τ w2.drawn (.appendCap L.length 0 66)% (2 ^ 63-L.length)=cap;rw[ab _ (by omega)];rw[Yy (by simp only[maxLen]at bk;omega)];omega
 have ez:(Builtin.zeroCells (fV 0 0 0).cells (cap-L.length)).toList=dk lz (cap-L.length):=nW _ _;have ec:(bJ L).toArray++Builtin.zeroCells (fV 0 0 0).cells (cap-L.length)=(bJ L++dk lz (cap-L.length)).toArray:=by apply Zu;simp[ez]
 refine⟨.slice (some ⟨w2.heap.size,0,none⟩) L.length cap,(w2.drew.alloc (.cells (bJ L++dk lz (cap-L.length)).toArray 66)),15+(N+5),by omega,key _ _ (w2.drawn+1) (by omega) rfl (by rw[<-af];rfl) λσ m=>?_,?_,λb q=>?_,.inr ⟨w2.heap.size,O,l▸z,rfl,?_⟩⟩;have:=run_append_nil (P:=ai Tryz.prog fs) (aw w2 σ w2.drawn) 62 62 66 i (fV 0 0 0) ((aP _ _ _).trans underlying62) ((uX _ _ _).trans T) bo a L.length cx (bJ L) (by rw[bx,br]) (λj u hu=>A j u hu) ao (by omega) (by rw[bs];omega);rw[ar σ m,ec]at this;exact this;rw[l]at z;simp;omega;rw[heap_alloc_old w2.drew _ (show b<w2.drew.heap.size by rw[l]at z;show b<w2.heap.size;omega)];rw[<-l];exact al b (l▸q);exact heap_alloc_new w2.drew _
end
def sg{G}{π:Ren G}{c C}(h:VsR π c C)(b:∀x∈c,(∃k n,x=.int k n)):C=c:=by obtain⟨d,f⟩:=h;refine Y9 d.symm λi g a=>?_;have a1:=W4 g;have j:=W4 a;obtain⟨k,n,e⟩:=b c[i] (Za a);have:=f i _ _ j a1;rw[e]at this⊢;generalize C[i]=x at this;cases this;rfl
def Ic{G}{π:Ren G}(h){v}(f:aD π (.tuple #[.agg (qv h),.bool h.isSome]) v):v=.tuple #[.agg (qv h),.bool h.isSome]:=by cases f with| @tuple _ C g d=>(have b:C.size=2:=g.symm;have e:=d 0 (.agg (qv h)) (C[0]'(by omega)) rfl (W4 _);have c:=d 1 (.bool h.isSome) (C[1]'(by omega)) rfl (W4 _);have e1:C[1]'(by omega)=.bool h.isSome:=by generalize C[1]'(by omega)=x at c;cases c;rfl);(have e0:C[0]'(by omega)=.agg (qv h):=by generalize C[0]'(by omega)=x at e;cases e with| @agg _ D ds j=>(have:D=qv h:=sg ⟨ds,j⟩ λx a=>by unfold qv at a;cases h with|none=>simp at a;exact⟨_,_,a⟩|some y=>simp at a;rcases a with rfl|rfl|rfl<;>exact⟨_,_,rfl⟩);rw[this]);(have:C=#[.agg (qv h),.bool h.isSome]:=by refine Y9 b λi c k=>?_;have:i<2:=k;match i,this with|0,_=>exact e0|1,_=>exact e1);rw[this]
section
variable {S:Kn} {fs:Array Func}
def MQ(A:Tab S Tryz.prog fs)(k:∀f,S.stop f=false)(l:∀g,S.calm g)(o:S.ent 125=true){W Kold sc}{n:Nat}{H} (p:∀g,S.dU g=true->Kold g/\∃c e F,W.heap[g]? =some (.cells c e F)) (D:Tryz.prog.globals.size<=W.heap.size) (m:∀B,(∀b,Kold b->(∃c e F,W.heap[b]? =some (.cells c e F))->B b)->aD (idR Tryz.prog.globals.size B) (.agg sc) (.agg sc)) (E:∀i,i<n->∀(w u) (B fz),(∀b,Kold b->u.heap[b]? =W.heap[b]?)->(∀b,Kold b->(∃c e F,W.heap[b]? =some (.cells c e F))->B b)->w.heap=(dD (idR Tryz.prog.globals.size B) fz u).heap->Calls (ai Tryz.prog fs) 125 #[.agg sc,.i i] w λe w'=>e=.returned (.tuple #[.agg (qv (H i)),.bool (H i).isSome])/\∀b,b<w.heap.size->w'.heap[b]? =w.heap[b]?):zW W Kold sc n H:=by (intro i G Wg K w' k1 I a r j Q C cs q;have s:Wg<w'.heap.size:=by obtain⟨st,sm,h⟩:=a;exact(WC.1 (show w'.heap[Wg]? =some _ from h)).1);(have d:∀b,Kold b->(∃c e F,W.heap[b]? =some (.cells c e F))->K b/\∃c e F,w'.heap[b]? =some (.cells c e F):=λb y ⟨c,e,F,h⟩=>⟨k1 b y,c,e,F,(j b y).trans h⟩);(refine Se (V:=.tuple #[.agg (qv (H i)),.bool (H i).isSome]) A k l o (Ww D r) (λg z=>d g (p g z).1 (p g z).2) I s a (λx t=>?_) (λπ v J=>Ic _ J) (λfz w L=>E i G w w' _ fz j d L) Q C cs q;have t:x=.agg sc\/x=.i i:=by simpa using t);obtain rfl|rfl:=t;exact m _ d;exact .int _ _
def Kh(ht:Tab S Tryz.prog fs)(z:∀f,S.stop f=false)(A:∀g,S.calm g)(J:S.ent 128=true){W Kold sc n H Srt} (L:∀g,S.dU g=true->Kold g/\∃c e F,W.heap[g]? =some (.cells c e F)) (hG:Tryz.prog.globals.size<=W.heap.size) (D:∀B,(∀b,Kold b->(∃c e F,W.heap[b]? =some (.cells c e F))->B b)->aD (idR Tryz.prog.globals.size B) (.agg sc) (.agg sc)) (N:∀d,MN n H d->(Srt d).length=d.length/\∀v∈Srt d,∃a b c,v=fV a b c) (hA:∀d,MN n H d->∀(w W') (B fz) (k) (N0),(∀b,Kold b->W'.heap[b]? =W.heap[b]?)->(∀b,Kold b->(∃c e F,W.heap[b]? =some (.cells c e F))->B b)->mP W' N0 66 lz k d.length (bJ d)->(∀g,k.ownBlock=some g->B g/\¬fz g/\¬Kold g)->w.heap=(dD (idR Tryz.prog.globals.size B) fz W').heap->Calls (ai Tryz.prog fs) 128 #[k,.func (.func 129) #[.agg sc] #[]] w λe w'=>e=.returned k/\(∀g cap,k=.slice (some ⟨g,0,none⟩) d.length cap->w'.heap[g]? =some (.cells (bJ (Srt d)++dk lz (cap-d.length)).toArray 66 (0,0)))/\∀b,b<w.heap.size->k.ownBlock≠some b->w'.heap[b]? =w.heap[b]?):vY W Kold sc n H Srt:=by
 intro d hh Wg N0 K M w' k kK kl aa m ab y j p Q C cs P;have ad:Wg<w'.heap.size:=by obtain⟨st,sm,h⟩:=m;exact(WC.1 (show w'.heap[Wg]? =some _ from h)).1
 have q:∀b,Kold b->(∃c e F,W.heap[b]? =some (.cells c e F))->K b/\∃c e F,w'.heap[b]? =some (.cells c e F):=λb s ⟨c,e,F,h⟩=>⟨(kK b s).1,c,e,F,(y b s).trans h⟩
 have u:∀b,k.ownBlock=some b->K b/\∃c e F,w'.heap[b]? =some (.cells c e F):=λb s=>by refine⟨(p b s).1,?_⟩;obtain⟨rfl,_⟩|⟨g,cap,rfl,_,r,_⟩:=j.2;cases s;cases s;exact⟨_,_,_,r⟩
 obtain⟨E,R⟩:=N d hh;have af:=px (Srt d) R;refine PW (O:=λb=>k.ownBlock=some b) (Post:=λv w=>v=k/\∀g cap,k=.slice (some ⟨g,0,none⟩) d.length cap->w.heap[g]? =some (.cells (bJ (Srt d)++dk lz (cap-d.length)).toArray 66 (0,0)))
  (T:=λV h=>V=k/\∀g cap,k=.slice (some ⟨g,0,none⟩) d.length cap->h g=some (.cells (bJ (Srt d)++dk lz (cap-d.length)).toArray 66 (0,0)))
  ht z A J (Ww hG ab) (λg r=>q g (L g r).1 (L g r).2) kl ad m aa (λb s=>(p b s).2.1) u (λx hx=>?_) (λPr π v V w G ag hp hv hw h ah=>?_) (λfz w ak hw=>?_) Q C cs (λK' M' G V _ _ _ hT hO=>?_)
 have hx:x=k\/x=.func (.func 129) #[.agg sc] #[]:=by simpa using hx
 obtain rfl|rfl:=hx;obtain⟨rfl,_⟩|⟨g,cap,rfl,_,r,_⟩:=j.2;exact .jv 0 0;exact .slice _ _ (.mk ⟨rfl,u g rfl⟩);have al:=D _ q
 exact .func (.func 129 (by decide)) rfl (λi x X t I=>by
  match i with
  |0=>simp at t I;subst t I;exact al
  |i+1=>simp at t) rfl (λi x X t I=>by simp at t)
 obtain⟨rfl,an⟩:=hp;obtain⟨rfl,_⟩|⟨g,cap,rfl,_,r,_⟩:=j.2;cases hv;exact⟨rfl,λg cap e=>by cases e⟩;have U:=ag g g ⟨rfl,u g rfl⟩;have hV:V=.slice (some ⟨g,0,none⟩) d.length cap:=by cases hv with|slice l c ha=>cases ha with|mk hr=>rw[π.fn _ _ _ hr U]
 refine⟨hV,λg' aK e=>?_⟩;cases e;rw[ah g rfl];obtain⟨o,O,t,I,h3⟩:=hw.obj g g U;rw[an g cap rfl]at t;cases t;rw[I];cases h3 with| @cells _ CC _ _ F ao ar=>have:CC=_:=sg ao λx hx=>?_;rw[this];obtain rfl|⟨_,h,_⟩:=ar;rfl;exact absurd h (WM _);(have hx:x∈bJ (Srt d)++dk lz (cap-d.length):=by simpa using hx);obtain hx|hx:=XT.1 hx;obtain⟨v,hv,Y⟩:=YX.1 hx;obtain⟨a,b,c,rfl⟩:=R v hv;simp[fV,Value.cells]at Y;rcases Y with rfl|rfl|rfl<;>exact⟨_,_,rfl⟩;obtain⟨l,hl,Z⟩:=aaq.1 hx;have:=aar hl;subst this;simp[lz]at Z;subst Z;exact⟨_,_,rfl⟩
 refine(hA d hh w w' _ fz k N0 y q j (λg r=>⟨u g r,ak g r,(p g r).2.2⟩) hw).mono λe G ⟨t,I,h3⟩=>⟨k,t,⟨rfl,I⟩,λb s ho=>h3 b s ho⟩
 obtain⟨rfl,ax⟩:=hT;refine P K' M' G V ⟨⟨by rw[af];rfl,?_⟩,hO⟩;obtain⟨rfl,h0⟩|⟨g,cap,rfl,hN,r,aM,ay,aR⟩:=j.2;exact .inl ⟨rfl,by rw[E,h0]⟩;refine .inr ⟨g,cap,by rw[E],hN,?_,by omega,ay,by omega⟩;rw[E];exact ax g cap rfl
end
end Go.Tm
namespace Go.Tm
open Go.Proofs
def jK:List Nat:=[3,4,5,6,7,8,9,10,11,12,13,14,15,16,17,18,19,20,21,22,23,24,25,26,27,28,29,30,31,32,33,34,35,36,37,38,39,40,41,42,43,44,45,46,47,48,49,50,51,52,53,54,55,56,57,58,59,60,61,62,63,64,65,66,67,68,69,70,71,72,73,75,76,77,78,79,80,81,82,83,84,85,86,87,88,89,90,91,92,93,94,95,96,97,98,99,100,101,102,103,104,105,106,107,108,109,110,111,112,113,114,115,116,117,118,119,120,121,125,128,129,130,131,132,133,134,135,136,137,138,139,140,141,142,143,162,163,165,166,167,173,174,175,176,177,178,179,180,181,182,183,184,185,186,187,188,189,190,191,192,193,194,195,197,199,200,201,202,203,204,205,206,207,209,210,212,230,231,232,233,234,235,236,237,238,239,240,241,242,243,244,245]
def iJ:Kn:={dU:=λg=>decide (g<5),ent:=λf=>jK.contains f,stop:=λf=>f==74,own:=λf=>f==74}
def nw:Kn:={dU:=λg=>decide (g<5),ent:=λf=>jK.contains f,stop:=λ_=>false,own:=λ_=>false}
def P6:(jK.all λi=>(Tryz.prog.funcs[i]?).any λg=>g.name != "runtime.NumGoroutine" &&g.body.any λc=>if i=95 then jy iJ c else codeOk iJ c)=true:=by kernel_rfl
def P7:(jK.all λi=>(Tryz.prog.funcs[i]?).any λg=>g.name != "runtime.NumGoroutine" &&g.body.any λc=>if i=95 then jy nw c else codeOk nw c)=true:=by kernel_rfl
def py:Func:={name:= "",origin:= "",params:=#[],resultTypes:=#[],nfree:=0,ntmps:=0,results:=#[],body:=none,norace:=false,tmpNames:=#[]}
noncomputable def gY(g:Func):Array Func:=Tryz.prog.funcs.mapIdx λi f=>if i=74 then g else if i=95 then pA else if iB.contains i then f else py
def qz(g i):(gY g)[i]? =(Tryz.prog.funcs[i]?).map λf=>if i=74 then g else if i=95 then pA else if iB.contains i then f else py:=by unfold gY;rw[Array.getElem?_mapIdx]
def Wp:(iB.all λi=>i !=74)=true:=by kernel_rfl
def VI(i)(a:i∈iB):i≠74:=by have:=Xe.1 Wp i a;simpa using this
def wj(fs)(i:Nat):(Qs fs).funcs[i]? =fs[i]? :=rfl
def yt(g):(gY g)[95]? =some pA:=by rw[qz,Tryz.func95];rfl
def rj(g):bT (gY g):=⟨λi a b=>by
 rw[wj,qz];have c:iB.contains i=true:=Yo.2 a;cases Tryz.prog.funcs[i]? with
 |none=>rfl
 |some f=>simp[VI i a,a,b],(wj _ _).trans (yt g)⟩
def wu(g):(gY g).size=Tryz.prog.funcs.size:=by simp[gY]
def P8:(jK.all λi=>iB.contains i)=true:=by kernel_rfl
def Lu(Q:Program):Prop:=(∀i,iB.contains i=true->i≠95->Q.funcs[i]? =Tryz.prog.funcs[i]?)/\(Q.funcs[95]? =some Tryz.f95\/Q.funcs[95]? =some pA)
def MZ:∃c,pA.body=some c/\iK c=c:=by refine⟨_,rfl,?_⟩;kernel_rfl
def M4:(pA.name== "runtime.NumGoroutine")=false:=by kernel_rfl
def M6:(pA.body.any λc=>jy iJ c)=true:=by kernel_rfl
def M7:(pA.body.any λc=>jy nw c)=true:=by kernel_rfl
def P9{S}(q:(jK.all λi=>(Tryz.prog.funcs[i]?).any λg=>g.name != "runtime.NumGoroutine" &&g.body.any λc=>if i=95 then jy S c else codeOk S c)=true)(k:(pA.body.any λc=>jy S c)=true){f}(h:jK.contains f=true)(g0){Q}(l:Lu Q):∃g c,(gY g0)[f]? =some {g with body:=some (iK c)}/\Q.funcs[f]? =some g/\g.name≠ "runtime.NumGoroutine" /\g.body=some c/\jy S c=true:=by have m:f∈jK:=Yo.1 h;have d:=Xe.1 q f m;have n:iB.contains f=true:=Xe.1 P8 f m;have o:=(rj g0).1 f (Yo.1 n);cases j:Tryz.prog.funcs[f]? with|none=>rw[j]at d;cases d|some g=>rw[j]at d;simp only[aas,WI,X7,ne_eq]at d;obtain⟨p,a⟩:=d;cases b:g.body with|none=>rw[b]at a;cases a|some c=>rw[b]at a;simp only[aas]at a;by_cases e:f=95;subst e;(simp only[WL]at a;have r:g=Tryz.f95:=WV (j.symm.trans Tryz.func95);subst r;have e1:{Tryz.f95 with body:=some (iK c)}=pA:=by have:=I3;rw[b]at this;show{Tryz.f95 with body:=some (iK c)}={Tryz.f95 with body:=pA.body};rw[<-this];rfl);obtain h5|h5:=l.2;exact⟨_,c,by rw[yt,e1],h5,p,b,a⟩;obtain⟨c',k1,s⟩:=MZ;refine⟨pA,c',?_,h5,?_,k1,?_⟩;rw[yt,s,<-k1];have:=M4;intro e;rw[e]at this;simp at this;rw[k1]at k;exact k;simp only[Wt e]at a;refine⟨g,c,?_,(l.1 f n e).trans j,p,b,(iL a).2⟩;rw[(iL a).1,<-b];rw[wj]at o;exact(o e).trans j
def Tb:x6->Bool
 | .agg c=>c.toList.all ic
 |v=>ic v
def Tc:x6->Bool
 | .agg c=>c.toList.all ic
 | .tuple c=>c.toList.all Tb
 |v=>ic v
def CZ{c}(h:c.toList.all ic=true):Plain (.agg c):=by intro G π;refine .IZ (bf.refl λx a=>pZ x (Xe.1 h x (ZP.2 a)) G π)
def Kp(v)(h:Tb v=true):Plain v:=by cases v with|agg c=>exact CZ h|_=>exact pZ _ h
def Kq(v)(h:Tc v=true):Plain v:=by cases v with|agg c=>exact CZ h|tuple c=>intro G π;exact .tuple' (bf.refl λx a=>Kp x (Xe.1 h x (ZP.2 a)) G π)|_=>exact pZ _ h
def Kr:(Tryz.prog.types.toList.all λi=>i.zero.all Tc)=true:=by kernel_rfl
def wv:dW Tryz.prog:=λt i z h a=>Ko Tryz.prog.toTables (λt i h z a=>by have b:=Xe.1 Kr i (ZP.2 (Xu h));rw[a]at b;exact Kq z b) t i h z a
def Ab(fs):dW (ai Tryz.prog fs):=λt i z h a=>wv t i z h a
def bare:List Nat:=[164,196,198,208,211]
def M9:(iB.all λi=>jK.contains i||bare.contains i)=true:=by kernel_rfl
def C3:(jK.all λi=>i !=74)=true:=by kernel_rfl
def Yz{a b:String}(h:(a==b)=false):a≠b:=λe=>by subst e;simp at h
def Si:(Tryz.f164.name== "runtime.NumGoroutine")=false:=by kernel_rfl
def Sj:(Tryz.f196.name== "runtime.NumGoroutine")=false:=by kernel_rfl
def Sk:(Tryz.f198.name== "runtime.NumGoroutine")=false:=by kernel_rfl
def Sl:(Tryz.f208.name== "runtime.NumGoroutine")=false:=by kernel_rfl
def Sm:(Tryz.f211.name== "runtime.NumGoroutine")=false:=by kernel_rfl
def TJ:(Tryz.f74.name== "runtime.NumGoroutine")=false:=by kernel_rfl
def Sn:Extern.findNext Tryz.f164=none:=by kernel_rfl
def Sp:Extern.findNext Tryz.f196=none:=by kernel_rfl
def Sq:Extern.findNext Tryz.f198=none:=by kernel_rfl
def Sr:Extern.findNext Tryz.f208=none:=by kernel_rfl
def Ss:Extern.findNext Tryz.f211=none:=by kernel_rfl
def TK:Extern.find Tryz.f164=some Extern.AbiNoEscape.same:=by kernel_rfl
def TL:Extern.find Tryz.f196=some Extern.BytealgIndex.index:=by kernel_rfl
def TM:Extern.find Tryz.f198=some Extern.BytealgCount.count:=by kernel_rfl
def TN:Extern.find Tryz.f208=some (Extern.BytealgMakeNoZero.makeNoZero Tryz.f208.params Tryz.f208.resultTypes):=by kernel_rfl
def TO:Extern.find Tryz.f211=some Extern.BytealgIndexByte.indexByte:=by kernel_rfl
def Qa:(Tryz.prog.globals.findIdx? (·.name== "internal/bytealg.MaxLen"))=some 2:=by kernel_rfl
def Qb{S Q fs}(b:Q.globals=Tryz.prog.globals)(d:S.dU 2=true){i}(f:bare.contains i=true):∃g,Tryz.prog.funcs[i]? =some g/\g.name≠ "runtime.NumGoroutine" /\g.body=none/\Extern.findNext g=none/\∃e,Extern.find g=some e/\∀(π:Ren Q.globals.size),(∀g,S.dU g=true->π g g)->∀(a A),VsR π a A->SR S (ai Q fs) Q VQ π (e a) (e A):=by (have h:i=164\/i=196\/i=198\/i=208\/i=211:=by simpa[bare]using f);obtain rfl|rfl|rfl|rfl|rfl:=h;exact⟨_,Tryz.func164,Yz Si,rfl,Sn,_,TK,λπ _ a A h=>P4 h⟩;exact⟨_,Tryz.func196,Yz Sj,rfl,Sp,_,TL,λπ j a A h=>MY j (λg c=>by rw[b,Qa]at c;cases c;exact d) h⟩;exact⟨_,Tryz.func198,Yz Sk,rfl,Sq,_,TM,λπ _ a A h=>P5 h⟩;exact⟨_,Tryz.func208,Yz Sl,rfl,Sr,_,TN,λπ _ a A h=>Bu _ _ h⟩;exact⟨_,Tryz.func211,Yz Sm,rfl,Ss,_,TO,λπ _ a A h=>ET h⟩
def Lv{S Q g0}(j:Q.globals=Tryz.prog.globals)(n:S.dU 2=true)(o:Lu Q)(k:∀i,jK.contains i=true->S.ent i=true)(h74:S.stop 74=true\/JI g0){f g}(h:(gY g0)[f]? =some g):S.ent f=true\/S.stop f=true\/JI g\/(Q.funcs[f]? =some g/\g.name≠ "runtime.NumGoroutine" /\g.body=none/\Extern.findNext g=none/\∃e,Extern.find g=some e/\∀(π:Ren Q.globals.size),(∀g,S.dU g=true->π g g)->∀(a A),VsR π a A->SR S (ai Q (gY g0)) Q VQ π (e a) (e A)):=by
 rw[qz]at h;by_cases e:f=74;subst e;obtain h74|h74:=h74;exact .inr (.inl h74);cases c:Tryz.prog.funcs[74]? with|none=>rw[c]at h;cases h|some f=>rw[c]at h;simp at h;subst h;exact .inr (.inr (.inl h74))
 by_cases b:f=95;subst b;exact .inl (k 95 (by kernel_rfl))
 cases d:iB.contains f with
 |false=>cases c:Tryz.prog.funcs[f]? with|none=>rw[c]at h;cases h|some q=>rw[c]at h;simp only[Xm,Wt e,Wt b,d,WW,WU,Xo]at h;subst h;exact .inr (.inr (.inl ⟨rfl,rfl,rfl⟩))
 |true=>cases l:jK.contains f with|true=>exact .inl (k f l)|false=>have m:=Xe.1 M9 f (Yo.1 d);rw[l,YY]at m;obtain⟨g',e1,p,e3,e4,x,e5,e6⟩:=Qb (S:=S) (fs:=gY g0) j n m;rw[e1]at h;simp only[Xm,Wt e,Wt b,d,WL,Xo]at h;subst h;exact .inr (.inr (.inr ⟨(o.1 f d b).trans e1,p,e3,e4,x,e5,e6⟩))
def Ig{Q:Program}(d:dW Q)(a:Q.globals=Tryz.prog.globals)(b:Q.funcs.size=Tryz.prog.funcs.size)(c:Lu Q)(e:Q.underlying sG=none):Tab nw Q (gY py) where
 zero:=d
 bad:=e
 zo:=rfl
 size:=(wu _).trans b.symm
 ent f h:=by exact⟨rfl,P9 P7 M7 h py c⟩
 stop f h:=by cases h
 rest f g h:=Lv a rfl c (λ_ h=>h) (.inr ⟨rfl,rfl,rfl⟩) h
def uz(g):(gY g)[74]? =some g:=by rw[qz,Tryz.func74];rfl
def Ac:Tryz.prog.underlying sG=none:=by kernel_rfl
def wH:Lu Tryz.prog:=⟨λ_ _ _=>rfl,.inl Tryz.func95⟩
def Ih:Tab iJ Tryz.prog (gY g74) where
 zero:=wv
 bad:=Ac
 zo:=rfl
 size:=wu _
 ent f h:=by
  refine⟨?_,P9 P6 M6 h g74 wH⟩;have:=Xe.1 C3 f (Yo.1 h);have a:f≠74:=by simpa using this
  show(f==74)=false;simpa using a
 stop f h:=by
  have b:f=74:=by have h:(f==74)=true:=h;simpa using h
  subst b;exact⟨rfl,g74,Tryz.f74,uz _,Tryz.func74,Yz (by kernel_rfl),Yz TJ,rfl,rfl⟩
 rest f g h:=Lv rfl rfl wH (λ_ h=>h) (.inl rfl) h
def C4:Tab nw Tryz.prog (gY py):=Ig (Q:=Tryz.prog) wv (Eq.refl _) (Eq.refl _) wH Ac
def Na(P fs):(ai P fs).globals=P.globals:=rfl
def my(P fs):(ai P fs).funcs=fs:=rfl
def Nb:Tab nw (ai Tryz.prog (gY g74)) (gY py):=Ig (Ab _) (Na _ _) (by rw[my];exact wu _) ⟨λi b a=>by rw[my];exact(wj _ _).symm.trans ((rj g74).1 i (Yo.1 b) a),.inr (by rw[my];exact yt _)⟩ ((kD _ _ _).trans Ac)
def wI(g):nw.calm g:=λ_ _ _ h=>by cases h
def C5(g):iJ.calm g:=λf h a b=>by (have c:=Xe.1 C3 f (Yo.1 a);have d:f≠74:=by simpa using c);have e:(f==74)=true:=b;exact absurd (by simpa using e) d
def Ii:(iB.all λi=>(Tryz.prog.funcs[i]?).all λf=> !f.norace)=true:=by kernel_rfl
def Ks:(iB.all λi=>(Tryz.prog.funcs[i]?).all λf=>(f.body.map readies).all (·.isEmpty))=true:=by kernel_rfl
def Bw:Tryz.prog.follows .staticDataAhead=true:=by kernel_rfl
def Qc{Q:Program}(b:∀f∈Q.funcs,f.norace=false)(d:Q.follows .staticDataAhead=true)(e:∀f∈Q.funcs,∀c,f.body=some c->(readies c).isEmpty=true):me Q where
 norace f:=by
  cases a:Q.funcs[f]? with
  |none=>rfl
  |some g=>exact b g (Xu a)
 follows:=d
 stepOf g:=by
  unfold Program.stepOf;rw[Array.findIdx?_eq_none_iff];intro f a;cases h:f.body with
  |none=>rfl
  |some c=>
   have:=e f a c h;simp only[Xm,aas];cases i:readies c with
   |nil=>rfl
   |cons _ _=>rw[i]at this;cases this
def Ij{g f}(h:f∈gY g):f=g\/f=py\/f=pA\/∃i,i∈iB/\Tryz.prog.funcs[i]? =some f:=by obtain⟨i,a⟩:=Zr.1 h;rw[qz]at a;cases b:Tryz.prog.funcs[i]? with|none=>rw[b]at a;cases a|some d=>rw[b]at a;simp only[Xm,Xo]at a;split at a;exact .inl a.symm;split at a;exact .inr (.inr (.inl a.symm));split at a;rename_i c;subst a;exact .inr (.inr (.inr ⟨i,Yo.1 c,b⟩));exact .inr (.inl a.symm)
def Nc:pA.norace=false:=by kernel_rfl
def Qd:(pA.body.map readies).all (·.isEmpty)=true:=by kernel_rfl
def Su:(readies CU).isEmpty=true:=by kernel_rfl
def Kt:me (ai Tryz.prog (gY g74)):=by refine Qc (λf a=>?_) Bw λf a c b=>?_;rw[my]at a;obtain rfl|rfl|rfl|⟨i,d,a⟩:=Ij a;rfl;rfl;exact Nc;have:=Xe.1 Ii i d;rw[a]at this;simpa using this;rw[my]at a;obtain rfl|rfl|rfl|⟨i,d,a⟩:=Ij a;(have:c=CU:=by cases b;rfl);subst this;exact Su;cases b;have:=Qd;simp only[b,Xm]at this;exact this;have:=Xe.1 Ks i d;rw[a]at this;simp only[Option.all_some,b,Xm]at this;exact this
def Nd:(jK.all λi=>(Tryz.prog.inits.idxOf? i).isNone)=true:=by kernel_rfl
def Ad(f)(h:iJ.ent f=true):Tryz.prog.inits.idxOf? f=none:=Option.isNone_iff_eq_none.1 (Xe.1 Nd f (Yo.1 h))
def lB:Tryz.prog.globals.size=5:=by kernel_rfl
def xA:0<Tryz.prog.globals.size:=by rw[lB];decide
end Go.Tm

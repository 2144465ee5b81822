import Derived.Conc.WalkWords
import Derived.Test.YtaglpcmhopjebaaGreatDoorQ19
set_option linter.all false
set_option maxRecDepth 100000
set_option maxHeartbeats 20000000
namespace Go.Tm
open Go.Proofs Go.Conc
def Q8:Array Oper:=#[{dst:=some 3,op:=.assign (.const (.bool false)),type:=4,pos:= "",after:=#[],guard:=none}]
def pI:Array Oper:=#[{dst:=some 3,op:=.assign (.const (.bool true)),type:=4,pos:= "",after:=#[],guard:=none},{dst:=some 4,op:=.move (.tmp 3),type:=4,pos:= "",after:=#[],guard:=none}]
def Ea:Array Oper:=#[{dst:=some 5,op:=.makeInterface 125 (.tmp 0),type:=0,pos:= "",after:=#[],guard:=none},{dst:=none,op:=.defer {callee:=.builtin .panic,args:=#[.tmp 5],argTypes:=#[0]},type:=0,pos:= "",after:=#[],guard:=none},{dst:=none,op:=.panic (.tmp 5),type:=0,pos:= "",after:=#[],guard:=none}]
def ns:Array Oper:=#[{dst:=some 6,op:=.call {callee:=.value (.func 77),args:=#[.tmp 0],argTypes:=#[60]},type:=62,pos:= "",after:=#[],guard:=none},
 {dst:=some 7,op:=.call {callee:=.builtin .append,args:=#[.const (.slice none 0 0),.tmp 6],argTypes:=#[62,62]},type:=62,pos:= "",after:=#[],guard:=none},
 {dst:=some 2,op:=.assign (.tmp 7),type:=62,pos:= "",after:=#[],guard:=none}]
def tW:Code:=.seq (.cond (.tmp 4) .skip (.region 2 Ea false)) (.seq (.region 3 ns false) .ret)
def zz:Code:=.seq (.region 0 Q8 false) (.seq (.region 1 pI true) tW)
def g74:Func:={name:= "g",origin:= "",params:=#[125],resultTypes:=#[62],nfree:=0,ntmps:=8,results:=#[.tmp 2],body:=some zz,norace:=false,tmpNames:=#[]}
def iy(v:Value):List PanicEntry:=[{v:=.iface 125 v,recovered:=false},{v:=.iface 125 v,recovered:=false}]
def zA(v):Off (iy v):=R2 2
def LR(Q:Program)(n:Nat)(fr:Frame)(cs:List Frame)(w:World)(fr':Frame)(cs':List Frame)(w':World):Prop:=runN Q n (lone fr cs w)=.next (lone fr' cs' w')
def LR.refl{Q fr cs w}:LR Q 0 fr cs w fr cs w:=rfl
def LR.step{Q n fr fr' a cs cs' b w w' w2 es}(h:stepG Q true ⟨fr,cs,.running,none,none⟩ w=.go ⟨fr',cs',.running,none,none⟩ w' es)(k:LR Q n fr' cs' w' a b w2):LR Q (n+1) fr cs w a b w2:=by unfold LR runN;rw[step_lone_go (by rw[h];rfl)];exact k
def LR.trans{Q n m f c d cs a b w w1 w2}(h:LR Q n f cs w c a w1)(k:LR Q m c a w1 d b w2):LR Q (n+m) f cs w d b w2:=by unfold LR at*;rw[runN_add,h];exact k
def Gm(m t):Region.schedule m pI t=if t%2=0 then[0,1]else[1,0]:=by
 have a:Region.departs pI=false:=by simp[Region.departs,pI]
 unfold Region.schedule;rw[a];simp only[Ul,Bool.or_true,↓reduceIte];have e:List.range 2=[0,1]:=rfl;obtain h|h:=VT t
 ·rw[RZ h]
  simp[Region.linearise,Region.linearise.go,pI,e,h,Vn,Nat.mod_one]
 ·rw[RY (by omega)]
  simp[Region.linearise,Region.linearise.go,pI,e,h,Vn,Nat.mod_one]
def qm{P main}{b:Frame}{a k cs w c ops}:
 stepG P main (G (b.at a (.code (.region c ops true)::k)) cs) w=.go (G (b.at a (.inRegion ops (Region.schedule (P.follows .mixedOrders) ops (w.tape w.drawn (.order b.fn c)))::k)) cs) w.drew:=by
 simp[G,stepG,stepG.exec,Frame.at,Question.forced,Question.cut]
def iZ{P main}{b:Frame}{a k cs w c ops l}(h:List.range ops.size=l):stepG P main (G (b.at a (.code (.region c ops false)::k)) cs) w=.go (G (b.at a (.inRegion ops l::k)) cs) w:=by rw[<-h];exact stepG_region
def dT(f):(base f).kind≠ .early:=by intro h;cases h
section
variable {Q:Program} (h74:Q.funcs[74]? =some g74)
def gT(v a b c d e f:Value):Array Value:=#[v,undef,a,b,c,d,e,f]
def Gn(v:Value):Frame.enter Q 74 #[v] .normal=(base 74).at ⟨gT v undef undef undef undef undef undef,[]⟩ [.code zz]:=by rw[enter_at (c:=zz) #[v] h74 rfl];rfl
def L3(v cs w):LR Q 5 ((base 74).at ⟨gT v undef undef undef undef undef undef,[]⟩ [.code zz]) cs w ((base 74).at ⟨gT v undef (.bool false) undef undef undef undef,[]⟩ [.code (.region 1 pI true),.code tW]) cs w:=by refine .step stepG_seq ?_;refine .step (iZ (l:=[0]) rfl) ?_;refine .step (stepG_value (v:=.bool false) (w':=w) rfl rfl (dT 74) rfl) ?_;refine .step stepG_region_end ?_;exact .step stepG_seq .refl
def o7(Q:Program)(fr:Frame)(cs:List Frame)(w:World)(K:Frame->List Frame->World->Prop):Prop:=∃n fr' cs' w',LR Q n fr cs w fr' cs' w'/\K fr' cs' w'
def o7.done{Q fr cs w K}(h:K fr cs w):o7 Q fr cs w K:=⟨0,fr,cs,w,.refl,h⟩
def o7.step{Q fr fr' cs cs' w w' es K}(h:stepG Q true ⟨fr,cs,.running,none,none⟩ w=.go ⟨fr',cs',.running,none,none⟩ w' es)(k:o7 Q fr' cs' w' K):o7 Q fr cs w K:=by obtain⟨n,a,b,w2,c,d⟩:=k;exact⟨n+1,a,b,w2,.step h c,d⟩
def o7.jK{Q fr fr' cs cs' w w' K}(h:∃es,stepG Q true ⟨fr,cs,.running,none,none⟩ w=.go ⟨fr',cs',.running,none,none⟩ w' es)(k:o7 Q fr' cs' w' K):o7 Q fr cs w K:=h.elim λ_ h=>.step h k
def rJ{P main}{b:Frame}{a k cs w ops i rest o d}(f:ops[i]? =some o)(g:Region.wanted o (yielded ops a.tmps)=true)(h:b.kind≠ .early)
 (j:(execOp a.eval o).run P w=.ok (.defer d) w):∃es,stepG P main (G (b.at a (.inRegion ops (i::rest)::k)) cs) w=.go (G (b.at (Act.put ⟨a.tmps,d::a.defers⟩ o.dst undef) (.inRegion ops rest::k)) cs) w es:=by
 have e:(b.kind==CallKind.early)=false:=by simpa using h
 have c:({b.at a (.inRegion ops (i::rest)::k)with defers:=d::a.defers}:Frame).finish undef=b.at (Act.put ⟨a.tmps,d::a.defers⟩ o.dst undef) (.inRegion ops rest::k):=by have:=Frame.finish_at (b:=b) (a:=⟨a.tmps,d::a.defers⟩) (ops:=ops) (i:=i) (rest:=rest) (k:=k) undef;rw[f]at this;exact this
 refine⟨listed P b.fn a o w,?_⟩;rw[stepG_oper f g,<-c];simp[stepG.apply,j,G,Frame.at,e,GStep.after,listed]
def rK{P:Program}{main:Bool}{b:Frame}{a:Act}{k:List Item}{cs:List Frame}{w:World}{ops:Array Oper}{i:Nat}{rest:List Nat}{o:Oper}{x:Value}(d:ops[i]? =some o)(e:Region.wanted o (yielded ops a.tmps)=true)(f:b.kind≠ .early)
 (g:(execOp a.eval o).run P w=.halt (.panic x) w):∃es,stepG P main (G (b.at a (.inRegion ops (i::rest)::k)) cs) w=.go (G {b.at a (.inRegion ops (i::rest)::k)with mode:=.panicking [{v:=x,recovered:=false}]} cs) w es:=by
 have c:(b.kind==CallKind.early)=false:=by simpa using f
 refine⟨listed P b.fn a o w,?_⟩;rw[stepG_oper d e];simp[stepG.apply,g,G,Frame.at,c,GStep.after,listed,Frame.raise]
def kI{P main fr cs w ds ts t bs}{x:Value}{ch}(a:fr.defers=⟨.builtin .panic ts t bs,#[x]⟩::ds)(b:fr.mode=.panicking ch)(c:∃T v,x=.iface T v):
 ∃es,stepG P main ⟨fr,cs,.running,none,none⟩ w=.go ⟨{fr with defers:=ds,mode:=.panicking ({v:=x,recovered:=false}::ch)},cs,.running,none,none⟩ w es:=by
 obtain⟨T,v,rfl⟩:=c;have d:(invoke (.builtin .panic ts t bs) #[.iface T v]).run P w=.halt (.panic (.iface T v)) w:=by simp[invoke,builtin,Instr.panic,goPanic]
 refine⟨seen P fr.fn ((invoke (.builtin .panic ts t bs) #[.iface T v]).events P w #[]),?_⟩;simp[stepG,b,unwind,a,callDeferred,d,GStep.after,Frame.raise]
def Q9(v cs w){d}(c:Q.underlying 125=some d)(e:∀x,d≠ .interface x)(h:w.tape w.drawn (.order 74 1)%2=1):
 o7 Q ((base 74).at ⟨gT v undef (.bool false) undef undef undef undef,[]⟩ [.code (.region 1 pI true),.code tW]) cs w λa b w1=>b=cs/\w1=w.drew/\a.mode=.panicking (iy v)/\a.defers=[]:=by
 refine .step qm ?_;rw[show(base 74).fn=74 from rfl,Gm,RY (by omega)];refine .step (stepG_value (v:=.bool false) (w':=w.drew) rfl rfl (dT 74) rfl) ?_;refine .step (stepG_value (v:=.bool true) (w':=w.drew) rfl rfl (dT 74) rfl) ?_;refine .step stepG_region_end ?_;show o7 Q ((base 74).at ⟨gT v undef (.bool true) (.bool false) undef undef undef,[]⟩ [.code tW]) cs w.drew _;refine .step stepG_seq ?_;refine .step (stepG_cond (t:=false) rfl) ?_;refine .step (iZ (l:=[0,1,2]) rfl) ?_;refine .step (stepG_value (v:=.iface 125 v) (w':=w.drew) rfl rfl (dT 74) ?_) ?_
 ·show(do pure (.value (<-Instr.makeInterface 125 v)):Sem Next).run Q w.drew=_
  simp only[Instr.makeInterface,underlying];cases d with
  |interface x=>exact absurd rfl (e x)
  |_=>simp[c]
 show o7 Q ((base 74).at ⟨gT v undef (.bool true) (.bool false) (.iface 125 v) undef undef,[]⟩ (.inRegion Ea [1,2]::[.code (.seq (.region 3 ns false) .ret)])) cs w.drew _;refine .jK (rJ (d:=⟨.builtin .panic #[0] 0 #[false],#[.iface 125 v]⟩) rfl rfl (dT 74) ?_) ?_
 ·show(do pure (.defer (<-resolve (Act.eval ⟨gT v undef (.bool true) (.bool false) (.iface 125 v) undef undef,[]⟩) {callee:=.builtin .panic,args:=#[.tmp 5],argTypes:=#[0]} 0)):Sem Next).run Q w.drew=_
  simp[resolve,Act.eval,gT]
 show o7 Q ((base 74).at ⟨gT v undef (.bool true) (.bool false) (.iface 125 v) undef undef,[⟨.builtin .panic #[0] 0 #[false],#[.iface 125 v]⟩]⟩ (.inRegion Ea [2]::[.code (.seq (.region 3 ns false) .ret)])) cs w.drew _;refine .jK (rK (x:=.iface 125 v) rfl rfl (dT 74) rfl) ?_;refine .jK (kI (ds:=[]) (ts:=#[0]) (t:=0) (bs:=#[false]) (x:=.iface 125 v) (ch:=[{v:=.iface 125 v,recovered:=false}]) rfl rfl ⟨_,_,rfl⟩) ?_;exact .done ⟨rfl,rfl,rfl,rfl⟩
def gC(v:Value):Frame:=(base 74).at ⟨gT v undef (.bool true) (.bool true) undef undef undef,[]⟩ [.inRegion ns [0,1,2],.code .ret]
def OM(v cs w){fn}(b:Q.funcs[77]? =some fn)(a:(fn.name== "runtime.NumGoroutine")=false)(c:fn.body.isNone=false)(h:w.tape w.drawn (.order 74 1)%2=0):
 LR Q 10 ((base 74).at ⟨gT v undef (.bool false) undef undef undef undef,[]⟩ [.code (.region 1 pI true),.code tW]) cs w (Frame.enter Q 77 #[v] .normal) (gC v::cs) w.drew:=by
 refine .step qm ?_;rw[show(base 74).fn=74 from rfl,Gm,RZ h];refine .step (stepG_value (v:=.bool true) (w':=w.drew) rfl rfl (dT 74) rfl) ?_;refine .step (stepG_value (v:=.bool true) (w':=w.drew) rfl rfl (dT 74) rfl) ?_;refine .step stepG_region_end ?_;show LR Q _ ((base 74).at ⟨gT v undef (.bool true) (.bool true) undef undef undef,[]⟩ [.code tW]) cs w.drew _ _ _;refine .step stepG_seq ?_;refine .step (stepG_cond (t:=true) rfl) ?_;refine .step stepG_skip ?_;refine .step stepG_seq ?_;refine .step (iZ (l:=[0,1,2]) rfl) ?_;have e:(#[Operand.tmp 0]).map (Act.eval ⟨gT v undef (.bool true) (.bool true) undef undef undef,[]⟩)=#[v]:=by simp[Act.eval,gT]
 refine .step (sY rfl rfl (dT 74) rfl b a c) ?_;rw[e];exact .refl
def Ra(v x V:Value)(C:Frame)(cs:List Frame)(w w':World)(a:(Builtin.append_ #[62,62] 62 #[.slice none 0 0,x]).run Q w=.ok V w'):
 LR Q 5 ((gC v).finish x) (C::cs) w (C.finish V) cs w':=by
 unfold gC;rw[Frame.finish_at];show LR Q _ ((base 74).at ⟨gT v undef (.bool true) (.bool true) undef x undef,[]⟩ [.inRegion ns [1,2],.code .ret]) (C::cs) w _ _ _;refine .step (stepG_value (v:=V) (w':=w') rfl rfl (dT 74) ?_) ?_
 ·show(execOp (Act.eval ⟨gT v undef (.bool true) (.bool true) undef x undef,[]⟩) {dst:=some 7,op:=.call {callee:=.builtin .append,args:=#[.const (.slice none 0 0),.tmp 6],argTypes:=#[62,62]},type:=62,pos:= "",after:=#[],guard:=none}).run Q w=_
  simp[execOp,resolve,invoke,builtin,Act.eval,gT,a]
 show LR Q _ ((base 74).at ⟨gT v undef (.bool true) (.bool true) undef x V,[]⟩ [.inRegion ns [2],.code .ret]) (C::cs) w' _ _ _;refine .step (stepG_value (v:=V) (w':=w') rfl rfl (dT 74) rfl) ?_;show LR Q _ ((base 74).at ⟨gT v V (.bool true) (.bool true) undef x V,[]⟩ [.inRegion ns [],.code .ret]) (C::cs) w' _ _ _;refine .step stepG_region_end ?_;refine .step stepG_ret' ?_;refine .step (stepG_leave (v:=V) rfl rfl h74 (results_tmp (t:=2) rfl _ _ _) (events_results_tmp (t:=2) rfl _ _)) ?_;exact .refl
end
end Go.Tm
namespace Go.Tm
open Go.Proofs Go.Conc Go.ConcN
def oT(dJ:World->Value->List Value->Prop):Prop:=∀w w' v L,dJ w v L->(∀(b:Nat) c e f,w.heap[b]? =some (.cells c e f)->w'.heap[b]? =some (.cells c e f))->dJ w' v L
def Rb{w τ}(h:τ w.drawn=λ_=>1):(aq w τ w.drawn).tape (aq w τ w.drawn).drawn (.order 74 1)%2=1:=by have e:(aq w τ w.drawn).tape (aq w τ w.drawn).drawn=τ w.drawn:=rfl;rw[e,h];rfl
section
variable {S:Kn} {fs:Array Func} {Post:Value->World->Prop} {dJ:World->Value->List Value->Prop}
def Jp(o:fs[74]? =some g74){d}(u:Tryz.prog.underlying 125=some d)(y:∀x,d≠ .interface x)(p:oT dJ){f args w₀}
 (i:∀τ,(∀n<w₀.drawn,τ n=w₀.tape n)->Calls (ah Tryz.prog fs) f args (aq w₀ τ w₀.drawn) λe w'=>(∃v,e=.returned v/\Post v w')\/∃v L,e=.panicked (iy v)/\dJ w' v L):
 D9 S fs dJ ⟨Frame.enter (ah Tryz.prog fs) f args .normal,[],w₀⟩:=by
 intro c k v π z A B C j;obtain⟨D,⟨m,L,e1,E⟩,F,H⟩:=D8 (S:=S) (Q:=ah Tryz.prog fs) (G:=Tryz.prog.globals.size) (f:=f) (g:=74) (args:=args) (a:=#[v]) (w₀:=w₀) (Post:=Post) (PreB:=λch w'=>∃m L,ch=iy m/\dJ w' m L) (ch0:=iy v)
  (λτ l=>(i τ l).mono λe w' h=>h.imp id λ⟨v,L,q,r⟩=>⟨_,zA v,q,v,L,rfl,r⟩) z A π B C j (λcs τ l=>by have h:=Q9 (Q:=ah Tryz.prog fs) v cs (aq c.w τ c.w.drawn) ((aI Tryz.prog fs 125).trans u) y (Rb (l _ (R2 _)));obtain⟨n,s,I,w1,q,rfl,rfl,r,J⟩:=h;refine⟨5+n,s,(aq c.w τ c.w.drawn).drew,?_,r,J,rfl⟩;rw[Gn (Q:=ah Tryz.prog fs) o];exact(L3 v _ _).trans q)
 have:m=v:=by simp only[iy,U6,PanicEntry.mk.injEq,Value.iface.injEq]at e1;exact e1.1.1.2.symm
 subst this;exact⟨L,p D c.w m L E λb K e M t=>by
  obtain h|h:=H b
  ·rw[<-h];exact t
  ·rw[h]at t;cases t⟩
end
section
variable {S:Kn} {fs:Array Func} {Post PostR:Value->World->Prop} {dJ:World->Value->List Value->Prop}
def law_ends(t:Tab S Tryz.prog fs)(l:∀g,S.calm g)(u:∀f,S.ent f=true->Tryz.prog.inits.idxOf? f=none)(y:0<Tryz.prog.globals.size)(z:fs[74]? =some g74){d}(P:Tryz.prog.underlying 125=some d)(Q:∀x,d≠ .interface x)
 (A:oT dJ) (C:m6 S fs Post dJ) (D:ti S dJ)
 {Pr} {f:FuncId} (M:S.ent f=true) {args} {W} {B} (R:∀b,B b->∃o,W.heap[b]? =some o/\((∃c e F,o=.cells c e F)\/(∀c e F,o≠ .cells c e F)/\fA S (idR Tryz.prog.globals.size B) o o)) (r:∀b,Pr b->B b/\∃c e F,W.heap[b]? =some (.cells c e F))
 (m:∀v V w' E (n),Post v w'->av n v V->bj S Pr n w' E->iw Pr (idR Tryz.prog.globals.size B) W n E->PostR V E)
 (T:Tryz.prog.globals.size<=W.heap.size) (N:∃c e F,W.heap[0]? =some (.cells c e F)) (U:∀g,S.dq g=true->B g) (X:∀x∈args,av (idR Tryz.prog.globals.size B) x x)
 (p:∀w,w.heap=(cP (idR Tryz.prog.globals.size B) Pr W).heap->Calls (ah Tryz.prog fs) f args w λe w'=>(∃v,e=.returned v/\Post v w')\/∃v L,e=.panicked (iy v)/\dJ w' v L):
 cQ Tryz.prog PostR (crowd #[G (Frame.enter Tryz.prog f args .normal) []] W none) #[]:=by
 let w₀:World:=aq (cP (idR Tryz.prog.globals.size B) Pr W) (λ_ _=>0) 0;have a:∀τ,Calls (ah Tryz.prog fs) f args (aq w₀ τ w₀.drawn) λe w'=>(∃v,e=.returned v/\Post v w')\/∃v L,e=.panicked (iy v)/\dJ w' v L:=λτ=>p _ rfl;have q:Gd S (ah Tryz.prog fs) Post ⟨Frame.enter (ah Tryz.prog fs) f args .normal,[],w₀⟩:=AO (λ_ _=>lU) λτ _=>(a τ).mono λe w' h=>h.imp id λ⟨v,L,k,_⟩=>⟨_,zA v,k⟩
 have s:=(t.ent f M).1;have H:bd S (idR Tryz.prog.globals.size B) (Frame.enter (ah Tryz.prog fs) f args .normal) (Frame.enter Tryz.prog f args .normal):=by
  rcases sT (π:=idR Tryz.prog.globals.size B) t f (.inr M) (λx=>by rw[s]at x;cases x) (ov X) (cs:=[aH]) (by simp)with h|⟨_,g,a1,A1,k,_,h3,_⟩
  ·exact h
  ·have e:=SL Frame.fn h3
   have e:f=g:=e;rw[<-e,s]at k;cases k
 have Y:bj S Pr (idR Tryz.prog.globals.size B) w₀ W:=(ki (S:=S) (Pr:=Pr) (λb Z=>by obtain⟨o,k,h2⟩:=R b Z;exact⟨o,k,h2.imp id λh=>⟨λI=>by obtain⟨_,c,e,F,O⟩:=r b I;rw[k]at O;cases O;exact h.1 _ _ _ rfl,h.1,h.2⟩⟩) (λb h=>(r b h).1) T N).heap rfl rfl
 have J:Cp S Tryz.prog fs Pr Post (idR Tryz.prog.globals.size B) ⟨Frame.enter (ah Tryz.prog fs) f args .normal,[],w₀⟩ (Frame.enter Tryz.prog f args .normal) [] W:=⟨H,.nil,Y,xc,q,λg h=>⟨rfl,U g h⟩⟩
 have I:=past_nil.mono (R9 W.heap.size);exact join t l u y m (Jp z P Q A λτ _=>a τ) C D q.RR 0 _ _ _ W _ none #[] (λ_=>False) (λ_=>False) (.refl q.1) (λ_ h=>h.elim) (iw.refl _ _ _) J
  ⟨rfl,⟨λ_=>0,λi g N k=>by
   have:i<1:=by simpa using(R7.1 k).1
   omega,λj _=>rfl⟩,I,λop K=>by simp at K⟩ λb h=>h.elim
end
def cQ.and{P A B m t}(h:cQ P A m t)(k:cQ P B m t):cQ P (λv w=>A v w/\B v w) m t:=by
 obtain⟨N,last,o,w',g,b,a,i,j⟩:=h;obtain⟨M,c,l,w2,x,k1,f,y,n⟩:=k;have e:N=M:=by
  obtain hlt|p|hlt:=Vd N M
  ·obtain⟨d,rfl⟩:∃d,M=N+1+d:=⟨M-(N+1),by omega⟩
   rw[runN_add]at f;have:runN P (N+1) m=.ended o w':=by rw[<-runNT_fst P (N+1) m t,b]
   rw[this]at f;cases f
  ·exact p
  ·obtain⟨d,rfl⟩:∃d,N=M+1+d:=⟨N-(M+1),by omega⟩
   rw[runN_add]at a;have:runN P (M+1) m=.ended l w2:=by rw[<-runNT_fst P (M+1) m t,k1]
   rw[this]at a;cases a
 subst e;rw[b]at k1;cases k1;obtain⟨v,rfl,q,r⟩:=j;obtain⟨v2,s,u,_⟩:=n;cases s;exact⟨N,last,_,w',g,b,a,i,v,rfl,⟨q,u⟩,r⟩
end Go.Tm
namespace Go.Tm
section
variable {S:Kn} {P:Program} {fs:Array Func}
def jump(E:Tab S P fs)(W:kA P)(l:∀f,S.stop f=false)(r:∀g,S.calm g){R:Value->World->Prop}{f:FuncId}{a ag C cs w wg}{π:Ren P.globals.size}
 (hf:S.ent f=true) (ha:VsR π ag a) (hw:bj S (λ_=>False) π wg w) (s:∀g,S.dq g=true->π g g)
 (τ) (aa:∀n<w.drawn,τ n=w.tape n)
 (hc:Calls P f a (aq w τ w.drawn) λe w'=>∃v,e=.returned v/\R v w')
 (t:∀j,j.heap=wg.heap->Calls (ah P fs) f ag j λe w'=>∃v,e=.returned v):
 ∃V w' N,R V w'/\w'.tape=τ/\w.drawn<=w'.drawn/\∀σ,(∀n<w'.drawn,σ n=τ n)->LR P N (Frame.enter P f a .normal) (C::(cs++[aH])) (aq w σ w.drawn) (C.finish V) (cs++[aH]) (aq w' σ w'.drawn):=by
 have F:=ou (Post:=λ_ _=>True) E l hf ha (hw.heap (W₁:=aq w τ w.drawn) rfl rfl) s λj z=>(t j z).mono λe w' ⟨v,h⟩=>⟨v,h,True.intro⟩
 obtain⟨ab,c',G,W',n,H,X,Y,h4,Z⟩:=F.run E W l λn hn=>r _;obtain⟨e,w2,I,⟨v2,rfl,hR⟩,⟨A,p⟩,_,B⟩:=hc [aH];have d:=Z [aH] τ λ_ _ _=>rfl;simp only[Uj]at d;have J:aq (aq w τ w.drawn) τ (aq w τ w.drawn).drawn=aq w τ w.drawn:=rfl;have K:aq W' τ W'.drawn=W':=by have:=Y.tape;rw[show τ=W'.tape from this.symm];rfl
 rw[J,K]at d;have u:G=I/\W'=w2:=by
  obtain hlt|rfl|hlt:=Vd n A
  ·exfalso
   have x:=gl P d p (U7 hlt);obtain⟨k,L⟩:∃k,A-n=k+1:=⟨A-n-1,by omega⟩
   rw[L]at x;obtain⟨_,v0,V,w3,y,ev,M,_,_,i,_⟩:=H.returns E X aH [] true;unfold runN at x;rw[step_lone_go (by rw[i];rfl)]at x;exact Di k _ x
  ·rw[d]at p
   obtain⟨O,_,Q⟩:=jm (Stepped.next.inj p);exact⟨O,Q⟩
  ·exfalso
   have x:=gl P p d (U7 hlt);obtain⟨k,L⟩:∃k,n-A=k+1:=⟨n-A-1,by omega⟩
   rw[L]at x;exact gone B x
 obtain⟨rfl,rfl⟩:=u;obtain⟨_,v0,V,w3,y,ev,M,_,_,i,_,_,_,T⟩:=H.returns E X C (cs++[aH]) true;have m:=step_leave_returned (c:=C) (cs:=cs++[aH]) B;have q:=step_lone_go (P:=P) (fr:=G) (cs:=C::(cs++[aH])) (w:=W') (fr':=C.finish V) (cs':=cs++[aH]) (w':=y) (by rw[i];rfl);rw[q]at m;obtain⟨O,_,Q⟩:=jm (Stepped.next.inj m);subst Q;rw[O]at i;have o:=H.calm;have D:=tQ W true o.1 o.2.1 o.2.2 i rfl rfl (tR T);refine⟨v2,y,n+1,hR,Y.tape,h4,λσ U=>?_⟩;have hA:Agr (aq w τ w.drawn) y.drawn σ:=λn _ b=>U n b;have hB:=Z (C::cs++[aH]) σ hA;unfold LR;rw[runN_add];have:runN P n (lone (Frame.enter P f a .normal) (C::(cs++[aH])) (aq w σ w.drawn))=.next (lone G (C::cs++[aH]) (aq y σ y.drawn)):=hB
 rw[this];show runN P 1 _=_;unfold runN;rw[Uz,step_lone_go (by rw[D.2.2 σ λn a b=>by omega];rfl)];rfl
end
end Go.Tm
namespace Go.Tm
open Go.Proofs Go.Conc Go.ConcN
def R77(L:List Value)(w:World)(x:Value)(w':World):Prop:=w.heap.size<=w'.heap.size/\(∀b,b<w.heap.size->w'.heap[b]? =w.heap[b]?)/\((L=[]/\x=.slice none 0 0)\/(L≠[]/\∃a c,x=.slice (some a) L.length c/\∀j u,(bq L)[j]? =some u->w'.cell? (a.add j)=some u))
def nt(L)(d:∀v∈L,∃a b c,v=eR a b c):(bq L).length=L.length*3:=by
 induction L with
 |nil=>rfl
 |cons v L f=>
  obtain⟨a,b,c,rfl⟩:=d v (.head _);have:=f λx g=>d x (.tail _ g);have e:bq (eR a b c::L)=[.int .i64 a,.int .i64 b,.int .i64 c]++bq L:=by simp[bq,eR,Value.cells]
  rw[e,Sr,this];simp only[R4,Sl];omega
def oU(w:World)(k:Nat):Nat->Question->Nat:=λn=>if n<w.drawn then w.tape n elseλq=>match q with| .appendCap .. =>k|_=>0
def Eb{w k n}(h:n<w.drawn):oU w k n=w.tape n:=RZ h
def yo{w k n}(h:w.drawn<=n)(f i:Nat):oU w k n (.order f i)=0:=by unfold oU;rw[RY (by omega)]
def Ec{w k n}(h:w.drawn<=n)(a b e):oU w k n (.appendCap a b e)=k:=by unfold oU;rw[RY (by omega)]
def Rc{w σ}(h:σ w.drawn (.order 74 1)=0):(aq w σ w.drawn).tape (aq w σ w.drawn).drawn (.order 74 1)%2=0:=by have e:(aq w σ w.drawn).tape (aq w σ w.drawn).drawn=σ w.drawn:=rfl;rw[e,h]
def ow{P t ty e i}(a:P.underlying t=some (.slice e))(b:P.info? e=some i)(w):(Builtin.append_ #[t,t] ty #[.slice none 0 0,.slice none 0 0]).run P w=.ok (.slice none 0 0) w:=by simp[Builtin.append_,run_underlying a,sizeOf,typeInfo,b,Builtin.lenOf,run_firstCells_none]
def underlying62:Tryz.prog.underlying 62=some (.slice 66):=by kernel_rfl
section
variable {S S₁:Kn} {fs fs₁:Array Func} {Post:Value->World->Prop} {dJ:World->Value->List Value->Prop}
def Ee(U:fs[74]? =some g74){fn}(aM:fs[77]? =some fn)(D:(fn.name== "runtime.NumGoroutine")=false)(q:fn.body.isNone=false)
 (ht:Tab S₁ (ah Tryz.prog fs) fs₁) (hP:kA (ah Tryz.prog fs)) (E:∀f,S₁.stop f=false) (G:∀g,S₁.calm g) (W:S₁.ent 77=true)
 (X:oT dJ) (hG:∀w v L,dJ w v L->Tryz.prog.globals.size<=w.heap.size) (hL:∀w v L,dJ w v L->L.length<1000/\∀x∈L,∃a b c,x=eR a b c)
 (Y:∀w v L,dJ w v L->∀g,S₁.dq g=true->∃c e F,w.heap[g]? =some (.cells c e F))
 (H:∀w v L,dJ w v L->dJ (cP (idR Tryz.prog.globals.size λb=>∃c e F,w.heap[b]? =some (.cells c e F)) (λ_=>False) w) v L/\av (idR Tryz.prog.globals.size λb=>∃c e F,w.heap[b]? =some (.cells c e F)) v v)
 (hc:∀w v L,dJ w v L->Calls (ah Tryz.prog fs) 77 #[v] w λe w'=>∃x,e=.returned x/\R77 L w x w')
 (I:∀w v L,dJ w v L->Calls (ah (ah Tryz.prog fs) fs₁) 77 #[v] w λe w'=>∃x,e=.returned x):m6 S fs Post dJ:=by
 intro c v C cs L cap e1 e2 b2 hp Z;obtain⟨τ,o⟩:=ex (oU c.w (cap-L.length));have aa:∀n,n<c.w.drawn->τ n=c.w.tape n:=λn t=>by rw[o];exact Eb t
 have B:∀n,c.w.drawn<=n->∀f i,τ n (.order f i)=0:=λn t f i=>by rw[o];exact yo t f i
 have ab:∀n,c.w.drawn<=n->∀a b e,τ n (.appendCap a b e)=cap-L.length:=λn t a b e=>by rw[o];exact Ec t a b e
 clear o;obtain⟨W1,p⟩:=ex (aq c.w τ (c.w.drawn+1));have l:W1.heap=c.w.heap:=by rw[p];rfl
 have ad:W1.drawn=c.w.drawn+1:=by rw[p];rfl
 have a6:W1.tape=τ:=by rw[p];rfl
 have a7:∀σ d,aq W1 σ d=aq c.w σ d:=λσ d=>by rw[p];rfl
 have a8:aq W1 τ W1.drawn=W1:=by rw[p];rfl
 clear p;have r:=X _ _ v L hp λb cc e F q=>by rw[l];exact q
 obtain⟨ba,bb⟩:=H W1 v L r;have bk:=hG W1 v L r;obtain⟨x,w2,N,hR,af,bm,J⟩:=jump (w:=W1) (C:=gC v) (cs:=C::cs) (τ:=τ) ht hP E G (R:=R77 L W1) (a:=#[v]) (ag:=#[v]) (wg:=cP (idR Tryz.prog.globals.size λb=>∃c e F,W1.heap[b]? =some (.cells c e F)) (λ_=>False) W1)
  (π:=idR Tryz.prog.globals.size λb=>∃c e F,W1.heap[b]? =some (.cells c e F)) W (aV.refl λy hy=>by simp at hy;subst hy;exact bb)
  (ki (λb q=>by obtain⟨cc,e,F,h⟩:=q;exact⟨_,h,.inl ⟨cc,e,F,rfl⟩⟩) (λ_ h=>h.elim) bk (Y W1 v L r 0 ht.vW)) (λg hg=>⟨rfl,Y W1 v L r g hg⟩) (λn t=>by rw[a6])
  (by rw[a8];exact hc W1 v L r) (λak an=>I ak v L (X _ _ v L ba λb cc e F q=>by rw[an];exact q))
 have b1:=ad▸bm;have K:∀σ:Nat->Question->Nat,σ c.w.drawn=τ c.w.drawn->LR (ah Tryz.prog fs) 15 c.fr (C::cs++[aH]) (aq c.w σ c.w.drawn) (Frame.enter (ah Tryz.prog fs) 77 #[v] .normal) (gC v::(C::cs++[aH])) (aq c.w σ (c.w.drawn+1)):=by
  intro σ m;rw[e1,Gn (Q:=ah Tryz.prog fs) U];have h0:σ c.w.drawn (.order 74 1)=0:=by rw[m];exact B _ (R2 _) 74 1
  have a1:=L3 (Q:=ah Tryz.prog fs) v (C::cs++[aH]) (aq c.w σ c.w.drawn);have a2:=OM (Q:=ah Tryz.prog fs) v (C::cs++[aH]) (aq c.w σ c.w.drawn) aM D q (Rc h0);have a3:=a1.trans a2;exact a3
 have M:∀n,c.w.drawn<=n->S.fJ (τ n):=λn t f i _=>B n t f i;obtain⟨z,ao,bo⟩:=hR;have key:∀(V:Value) (w3:World) (d:Nat),w2.drawn<=d->w3.drawn=d->w3.tape=τ->(∀σ:Nat->Question->Nat,(∀n<d,σ n=τ n)->(Builtin.append_ #[62,62] 62 #[.slice none 0 0,x]).run (ah Tryz.prog fs) (aq w2 σ w2.drawn)=.ok V (aq w3 σ d))->
  Nxs S (ah Tryz.prog fs) c ⟨C.finish V,cs,w3⟩ (15+(N+5)):=by
  intro V w3 d hd e3 e4 ar;refine⟨by show c.w.drawn<=w3.drawn;omega,λk hk=>by show S.fJ (w3.tape k);rw[e4];exact M k hk,λk hk=>by show w3.tape k=_;rw[e4];exact aa k hk,λσ m=>?_⟩;have s:∀n<d,σ n=τ n:=λn t=>by rw[m n (by show n<w3.drawn;omega)];show w3.tape n=_;rw[e4]
  have h1:=K σ (s _ (by omega));have h2:=J σ λn t=>s n (by omega);rw[a7,ad]at h2;have h3:=Ra (Q:=ah Tryz.prog fs) U v x V C (cs++[aH]) _ _ (ar σ s);rw[e2];show LR _ _ _ _ _ _ _ (aq w3 σ w3.drawn);rw[e3];exact h1.trans (h2.trans h3)
 obtain⟨br,rfl⟩|⟨O,a,cx,rfl,A⟩:=bo
 ·refine⟨.slice none 0 0,w2,15+(N+5),by omega,key _ w2 w2.drawn (R2 _) rfl af λσ _=>?_,l▸z,λb q=>by rw[<-l];exact ao b (l▸q),.inl ⟨br,rfl⟩⟩
  obtain⟨i,T,_⟩:=mQ;exact ow ((aI _ _ _).trans underlying62) ((rY _ _ _).trans T) _
 ·obtain⟨b3,bs⟩:=Z O
  obtain⟨b4,bx⟩:=hL _ _ _ hp;obtain⟨i,T,bA,bB,bC⟩:=mQ;have ax:=Tv.2 O;have b0:=nt L bx;have ay:∀σ:Nat->Question->Nat,(∀n<w2.drawn+1,σ n=τ n)->grownCap (aq w2 σ w2.drawn) L.length 0 66=cap:=by intro σ m;show(Question.appendCap L.length 0 66).cut (σ w2.drawn (.appendCap L.length 0 66))=cap;rw[m _ (by omega)];show L.length+τ w2.drawn (.appendCap L.length 0 66)% (2 ^ 63-L.length)=cap;rw[ab _ (by omega)];rw[Nat.mod_eq_of_lt (by simp only[maxLen]at bs;omega)];omega
  have ez:(Builtin.zeroCells (eR 0 0 0).cells (cap-L.length)).toList=cu jW (cap-L.length):=mr _ _;have ec:(bq L).toArray++Builtin.zeroCells (eR 0 0 0).cells (cap-L.length)=(bq L++cu jW (cap-L.length)).toArray:=by apply UI;simp[ez]
  refine⟨.slice (some ⟨w2.heap.size,0,none⟩) L.length cap,(w2.drew.alloc (.cells (bq L++cu jW (cap-L.length)).toArray 66)),15+(N+5),by omega,key _ _ (w2.drawn+1) (by omega) rfl (by rw[<-af];rfl) λσ m=>?_,?_,λb q=>?_,.inr ⟨w2.heap.size,O,l▸z,rfl,?_⟩⟩
  ·have:=run_append_nil (P:=ah Tryz.prog fs) (aq w2 σ w2.drawn) 62 62 66 i (eR 0 0 0) ((aI _ _ _).trans underlying62) ((rY _ _ _).trans T) bA a L.length cx (bq L) (by rw[b0,bB]) (λj u hu=>A j u hu) ax (by omega) (by rw[bC];omega)
   rw[ay σ m,ec]at this;exact this
  ·rw[l]at z;simp;omega
  ·rw[heap_alloc_old w2.drew _ (show b<w2.drew.heap.size by rw[l]at z;show b<w2.heap.size;omega)]
   rw[<-l];exact ao b (l▸q)
  ·exact heap_alloc_new w2.drew _
end
def pJ{G}{π:Ren G}{c C}(h:VsR π c C)(b:∀x∈c,(∃k n,x=.int k n)):C=c:=by obtain⟨d,f⟩:=h;refine Ur d.symm λi g a=>?_;have a1:=Sv g;have j:=Sv a;obtain⟨k,n,e⟩:=b c[i] (Us a);have:=f i _ _ j a1;rw[e]at this⊢;generalize C[i]=x at this;cases this;rfl
def Ef{G}{π:Ren G}(h){v}(f:av π (.tuple #[.agg (ot h),.bool h.isSome]) v):v=.tuple #[.agg (ot h),.bool h.isSome]:=by
 cases f with
 | @tuple _ C g d=>
  have b:C.size=2:=g.symm;have e:=d 0 (.agg (ot h)) (C[0]'(by omega)) rfl (Sv _);have c:=d 1 (.bool h.isSome) (C[1]'(by omega)) rfl (Sv _);have e1:C[1]'(by omega)=.bool h.isSome:=by generalize C[1]'(by omega)=x at c;cases c;rfl
  have e0:C[0]'(by omega)=.agg (ot h):=by
   generalize C[0]'(by omega)=x at e;cases e with
   | @agg _ D ds j=>
    have:D=ot h:=pJ ⟨ds,j⟩ λx a=>by
     unfold ot at a;cases h with
     |none=>simp at a;exact⟨_,_,a⟩
     |some y=>simp at a;rcases a with rfl|rfl|rfl<;>exact⟨_,_,rfl⟩
    rw[this]
  have:C=#[.agg (ot h),.bool h.isSome]:=by
   refine Ur b λi c k=>?_;have:i<2:=k
   match i,this with
   |0,_=>exact e0
   |1,_=>exact e1
  rw[this]
section
variable {S:Kn} {fs:Array Func}
def Jq(A:Tab S Tryz.prog fs)(k:∀f,S.stop f=false)(l:∀g,S.calm g)(o:S.ent 125=true){W Kold sc}{n:Nat}{H}
 (p:∀g,S.dq g=true->Kold g/\∃c e F,W.heap[g]? =some (.cells c e F)) (D:Tryz.prog.globals.size<=W.heap.size)
 (m:∀B,(∀b,Kold b->(∃c e F,W.heap[b]? =some (.cells c e F))->B b)->av (idR Tryz.prog.globals.size B) (.agg sc) (.agg sc))
 (E:∀i,i<n->∀(w u) (B fz),(∀b,Kold b->u.heap[b]? =W.heap[b]?)->(∀b,Kold b->(∃c e F,W.heap[b]? =some (.cells c e F))->B b)->w.heap=(cP (idR Tryz.prog.globals.size B) fz u).heap->Calls (ah Tryz.prog fs) 125 #[.agg sc,.int .i64 i] w λe w'=>e=.returned (.tuple #[.agg (ot (H i)),.bool (H i).isSome])/\∀b,b<w.heap.size->w'.heap[b]? =w.heap[b]?):
 xb W Kold sc n H:=by
 intro i G Wg K w' k1 I a r j Q C cs q;have s:Wg<w'.heap.size:=by obtain⟨st,sm,h⟩:=a;exact(R7.1 (show w'.heap[Wg]? =some _ from h)).1
 have d:∀b,Kold b->(∃c e F,W.heap[b]? =some (.cells c e F))->K b/\∃c e F,w'.heap[b]? =some (.cells c e F):=λb y ⟨c,e,F,h⟩=>⟨k1 b y,c,e,F,(j b y).trans h⟩
 refine N8 (V:=.tuple #[.agg (ot (H i)),.bool (H i).isSome]) A k l o (R3 D r) (λg z=>d g (p g z).1 (p g z).2) I s a (λx t=>?_) (λπ v J=>Ef _ J) (λfz w L=>E i G w w' _ fz j d L) Q C cs q;have t:x=.agg sc\/x=.int .i64 i:=by simpa using t
 obtain rfl|rfl:=t
 ·exact m _ d
 ·exact .int _ _
def Gp(ht:Tab S Tryz.prog fs)(z:∀f,S.stop f=false)(A:∀g,S.calm g)(J:S.ent 128=true){W Kold sc n H Srt}
 (L:∀g,S.dq g=true->Kold g/\∃c e F,W.heap[g]? =some (.cells c e F)) (hG:Tryz.prog.globals.size<=W.heap.size)
 (D:∀B,(∀b,Kold b->(∃c e F,W.heap[b]? =some (.cells c e F))->B b)->av (idR Tryz.prog.globals.size B) (.agg sc) (.agg sc))
 (N:∀d,Jn n H d->(Srt d).length=d.length/\∀v∈Srt d,∃a b c,v=eR a b c)
 (hA:∀d,Jn n H d->∀(w W') (B fz) (k) (N0),(∀b,Kold b->W'.heap[b]? =W.heap[b]?)->(∀b,Kold b->(∃c e F,W.heap[b]? =some (.cells c e F))->B b)->lh W' N0 66 jW k d.length (bq d)->
  (∀g,k.ownBlock=some g->B g/\¬fz g/\¬Kold g)->w.heap=(cP (idR Tryz.prog.globals.size B) fz W').heap->
  Calls (ah Tryz.prog fs) 128 #[k,.func (.func 129) #[.agg sc] #[]] w λe w'=>e=.returned k/\(∀g cap,k=.slice (some ⟨g,0,none⟩) d.length cap->w'.heap[g]? =some (.cells (bq (Srt d)++cu jW (cap-d.length)).toArray 66 (0,0)))/\∀b,b<w.heap.size->k.ownBlock≠some b->w'.heap[b]? =w.heap[b]?):
 th W Kold sc n H Srt:=by
 intro d hh Wg N0 K M w' k kK kl aa m ab y j p Q C cs P;have ad:Wg<w'.heap.size:=by obtain⟨st,sm,h⟩:=m;exact(R7.1 (show w'.heap[Wg]? =some _ from h)).1
 have q:∀b,Kold b->(∃c e F,W.heap[b]? =some (.cells c e F))->K b/\∃c e F,w'.heap[b]? =some (.cells c e F):=λb s ⟨c,e,F,h⟩=>⟨(kK b s).1,c,e,F,(y b s).trans h⟩
 have u:∀b,k.ownBlock=some b->K b/\∃c e F,w'.heap[b]? =some (.cells c e F):=λb s=>by
  refine⟨(p b s).1,?_⟩;obtain⟨rfl,_⟩|⟨g,cap,rfl,_,r,_⟩:=j.2
  ·cases s
  ·cases s;exact⟨_,_,_,r⟩
 obtain⟨E,R⟩:=N d hh;have af:=nt (Srt d) R;refine LZ (O:=λb=>k.ownBlock=some b) (Post:=λv w=>v=k/\∀g cap,k=.slice (some ⟨g,0,none⟩) d.length cap->w.heap[g]? =some (.cells (bq (Srt d)++cu jW (cap-d.length)).toArray 66 (0,0)))
  (T:=λV h=>V=k/\∀g cap,k=.slice (some ⟨g,0,none⟩) d.length cap->h g=some (.cells (bq (Srt d)++cu jW (cap-d.length)).toArray 66 (0,0)))
  ht z A J (R3 hG ab) (λg r=>q g (L g r).1 (L g r).2) kl ad m aa (λb s=>(p b s).2.1) u (λx hx=>?_) (λPr π v V w G ag hp hv hw h ak=>?_) (λfz w an hw=>?_) Q C cs (λK' M' G V _ _ _ hT hO=>?_)
 ·have hx:x=k\/x=.func (.func 129) #[.agg sc] #[]:=by simpa using hx
  obtain rfl|rfl:=hx
  ·obtain⟨rfl,_⟩|⟨g,cap,rfl,_,r,_⟩:=j.2
   ·exact .im 0 0
   ·exact .slice _ _ (.mk ⟨rfl,u g rfl⟩)
  ·have ao:=D _ q
   exact .func (.func 129 (by decide)) rfl (λi x X t I=>by
    match i with
    |0=>simp at t I;subst t I;exact ao
    |i+1=>simp at t) rfl (λi x X t I=>by simp at t)
 ·obtain⟨rfl,ar⟩:=hp
  obtain⟨rfl,_⟩|⟨g,cap,rfl,_,r,_⟩:=j.2
  ·cases hv
   exact⟨rfl,λg cap e=>by cases e⟩
  ·have U:=ag g g ⟨rfl,u g rfl⟩
   have hV:V=.slice (some ⟨g,0,none⟩) d.length cap:=by
    cases hv with
    |slice l c ha=>
     cases ha with
     |mk hr=>rw[π.fn _ _ _ hr U]
   refine⟨hV,λg' a6 e=>?_⟩;cases e;rw[ak g rfl];obtain⟨o,O,t,I,h3⟩:=hw.obj g g U;rw[ar g cap rfl]at t;cases t;rw[I];cases h3 with
   | @cells _ CC _ _ F ax ay=>
    have:CC=_:=pJ ax λx hx=>?_
    ·rw[this]
     obtain rfl|⟨_,h,_⟩:=ay
     ·rfl
     ·exact absurd h (Sm _)
    ·have hx:x∈bq (Srt d)++cu jW (cap-d.length):=by simpa using hx
     obtain hx|hx:=TS.1 hx
     ·obtain⟨v,hv,Y⟩:=Vo.1 hx
      obtain⟨a,b,c,rfl⟩:=R v hv;simp[eR,Value.cells]at Y;rcases Y with rfl|rfl|rfl<;>exact⟨_,_,rfl⟩
     ·obtain⟨l,hl,Z⟩:=VB.1 hx
      have:=VC hl;subst this;simp[jW]at Z;subst Z;exact⟨_,_,rfl⟩
 ·refine(hA d hh w w' _ fz k N0 y q j (λg r=>⟨u g r,an g r,(p g r).2.2⟩) hw).mono λe G ⟨t,I,h3⟩=>⟨k,t,⟨rfl,I⟩,λb s ho=>h3 b s ho⟩
 ·obtain⟨rfl,aM⟩:=hT
  refine P K' M' G V ⟨⟨by rw[af];rfl,?_⟩,hO⟩;obtain⟨rfl,h0⟩|⟨g,cap,rfl,hN,r,a7,a1,a8⟩:=j.2
  ·exact .inl ⟨rfl,by rw[E,h0]⟩
  ·refine .inr ⟨g,cap,by rw[E],hN,?_,by omega,a1,by omega⟩
   rw[E];exact aM g cap rfl
end
end Go.Tm
namespace Go.Tm
open Go.Proofs
def iM:List Nat:=[3,4,5,6,7,8,9,10,11,12,13,14,15,16,17,18,19,20,21,22,23,24,25,26,27,28,29,30,31,32,33,34,35,36,37,38,39,40,41,42,43,44,45,46,47,48,49,50,51,52,53,54,55,56,57,58,59,60,61,62,63,64,65,66,67,68,69,70,71,72,73,75,76,77,78,79,80,81,82,83,84,85,86,87,88,89,90,91,92,93,94,95,96,97,98,99,100,101,102,103,104,105,106,107,108,109,110,111,112,113,114,115,116,117,118,119,120,121,125,128,129,130,131,132,133,134,135,136,137,138,139,140,141,142,143,162,163,165,166,167,173,174,175,176,177,178,179,180,181,182,183,184,185,186,187,188,189,190,191,192,193,194,195,197,199,200,201,202,203,204,205,206,207,209,210,212,230,231,232,233,234,235,236,237,238,239,240,241,242,243,244,245]
def gn:Kn:={dq:=λg=>decide (g<5),ent:=λf=>iM.contains f,stop:=λf=>f==74,own:=λf=>f==74}
def lP:Kn:={dq:=λg=>decide (g<5),ent:=λf=>iM.contains f,stop:=λ_=>false,own:=λ_=>false}
def Ma:(iM.all λi=>(Tryz.prog.funcs[i]?).any λg=>g.name != "runtime.NumGoroutine" &&g.body.any λc=>if i=95 then iu gn c else codeOk gn c)=true:=by kernel_rfl
def Mb:(iM.all λi=>(Tryz.prog.funcs[i]?).any λg=>g.name != "runtime.NumGoroutine" &&g.body.any λc=>if i=95 then iu lP c else codeOk lP c)=true:=by kernel_rfl
def nu:Func:={name:= "",origin:= "",params:=#[],resultTypes:=#[],nfree:=0,ntmps:=0,results:=#[],body:=none,norace:=false,tmpNames:=#[]}
noncomputable def fH(g:Func):Array Func:=Tryz.prog.funcs.mapIdx λi f=>if i=74 then g else if i=95 then nv else if gQ.contains i then f else nu
def ox(g i):(fH g)[i]? =(Tryz.prog.funcs[i]?).map λf=>if i=74 then g else if i=95 then nv else if gQ.contains i then f else nu:=by unfold fH;rw[Array.getElem?_mapIdx]
def RS:(gQ.all λi=>i !=74)=true:=by kernel_rfl
def Rh(i)(a:i∈gQ):i≠74:=by have:=SM.1 RS i a;simpa using this
def tk(fs)(i:Nat):(Qs fs).funcs[i]? =fs[i]? :=rfl
def uQ(g):(fH g)[95]? =some nv:=by rw[ox,Tryz.func95];rfl
def oV(g):bU (fH g):=⟨λi a b=>by
 rw[tk,ox];have c:gQ.contains i=true:=TN.2 a;cases Tryz.prog.funcs[i]? with
 |none=>rfl
 |some f=>simp[Rh i a,a,b],(tk _ _).trans (uQ g)⟩
def tl(g):(fH g).size=Tryz.prog.funcs.size:=by simp[fH]
def Md:(iM.all λi=>gQ.contains i)=true:=by kernel_rfl
def Ht(Q:Program):Prop:=(∀i,gQ.contains i=true->i≠95->Q.funcs[i]? =Tryz.prog.funcs[i]?)/\(Q.funcs[95]? =some Tryz.f95\/Q.funcs[95]? =some nv)
def Jy:∃c,nv.body=some c/\gp c=c:=by
 refine⟨_,rfl,?_⟩
 kernel_rfl
def Jz:(nv.name== "runtime.NumGoroutine")=false:=by kernel_rfl
def JA:(nv.body.any λc=>iu gn c)=true:=by kernel_rfl
def JB:(nv.body.any λc=>iu lP c)=true:=by kernel_rfl
def Me{S}(q:(iM.all λi=>(Tryz.prog.funcs[i]?).any λg=>g.name != "runtime.NumGoroutine" &&g.body.any λc=>if i=95 then iu S c else codeOk S c)=true)(k:(nv.body.any λc=>iu S c)=true){f}(h:iM.contains f=true)(g0){Q}(l:Ht Q):
 ∃g c,(fH g0)[f]? =some {g with body:=some (gp c)}/\Q.funcs[f]? =some g/\g.name≠ "runtime.NumGoroutine" /\g.body=some c/\iu S c=true:=by
 have m:f∈iM:=TN.1 h;have d:=SM.1 q f m;have n:gQ.contains f=true:=SM.1 Md f m;have o:=(oV g0).1 f (TN.1 n);cases j:Tryz.prog.funcs[f]? with
 |none=>rw[j]at d;cases d
 |some g=>
  rw[j]at d;simp only[VD,Sf,TQ,ne_eq]at d;obtain⟨p,a⟩:=d;cases b:g.body with
  |none=>rw[b]at a;cases a
  |some c=>
   rw[b]at a;simp only[VD]at a;by_cases e:f=95
   ·subst e
    simp only[Sj]at a;have r:g=Tryz.f95:=SD (j.symm.trans Tryz.func95);subst r;have e1:{Tryz.f95 with body:=some (gp c)}=nv:=by have:=EM;rw[b]at this;show{Tryz.f95 with body:=some (gp c)}={Tryz.f95 with body:=nv.body};rw[<-this];rfl
    obtain h5|h5:=l.2
    ·exact⟨_,c,by rw[uQ,e1],h5,p,b,a⟩
    ·obtain⟨c',k1,s⟩:=Jy
     refine⟨nv,c',?_,h5,?_,k1,?_⟩
     ·rw[uQ,s,<-k1]
     ·have:=Jz
      intro e;rw[e]at this;simp at this
     ·rw[k1]at k
      exact k
   ·simp only[RY e]at a
    refine⟨g,c,?_,(l.1 f n e).trans j,p,b,(gq a).2⟩;rw[(gq a).1,<-b];rw[tk]at o;exact(o e).trans j
end Go.Tm

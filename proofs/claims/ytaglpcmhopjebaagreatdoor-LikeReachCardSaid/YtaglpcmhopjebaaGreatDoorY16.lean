import Derived.Conc.WalkWords
import Derived.Test.YtaglpcmhopjebaaGreatDoorY7
import Derived.Test.YtaglpcmhopjebaaGreatDoorY8
set_option linter.all false
set_option maxRecDepth 100000
set_option maxHeartbeats 20000000
namespace Go.Tm
open Go.Proofs Go.Conc
def TW:Array Oper:=#[{dst:=some 3,op:=.assign (.const (.bool false)),type:=4,pos:= "",after:=#[],guard:=none}]
def qU:Array Oper:=#[{dst:=some 3,op:=.assign (.const (.bool true)),type:=4,pos:= "",after:=#[],guard:=none},{dst:=some 4,op:=.move (.tmp 3),type:=4,pos:= "",after:=#[],guard:=none}]
def FK:Array Oper:=#[{dst:=some 5,op:=.makeInterface 125 (.tmp 0),type:=0,pos:= "",after:=#[],guard:=none},{dst:=none,op:=.defer {callee:=.builtin .panic,args:=#[.tmp 5],argTypes:=#[0]},type:=0,pos:= "",after:=#[],guard:=none},{dst:=none,op:=.panic (.tmp 5),type:=0,pos:= "",after:=#[],guard:=none}]
def ot:Array Oper:=#[{dst:=some 6,op:=.call {callee:=.value (.func 77),args:=#[.tmp 0],argTypes:=#[60]},type:=62,pos:= "",after:=#[],guard:=none},{dst:=some 7,op:=.call {callee:=.builtin .append,args:=#[.const (.slice none 0 0),.tmp 6],argTypes:=#[62,62]},type:=62,pos:= "",after:=#[],guard:=none},{dst:=some 2,op:=.assign (.tmp 7),type:=62,pos:= "",after:=#[],guard:=none}]
def vu:Code:=.seq (.cond (.tmp 4) .skip (.region 2 FK false)) (.seq (.region 3 ot false) .ret)
def A3:Code:=.seq (.region 0 TW false) (.seq (.region 1 qU true) vu)
def g74:Func:={name:= "g",origin:= "",params:=#[125],resultTypes:=#[62],nfree:=0,ntmps:=8,results:=#[.tmp 2],body:=some A3,norace:=false,tmpNames:=#[]}
def gD(v:Zj):List PanicEntry:=[{v:=.iface 125 v,recovered:=false},{v:=.iface 125 v,recovered:=false}]
def A4(v):Off (gD v):=UI 2
def LR(Q:Program)(n:Nat)(fr:Frame)(cs:List Frame)(w:x6)(fr':Frame)(cs':List Frame)(w':x6):Prop:=runN Q n (lone fr cs w)=.next (lone fr' cs' w')
def LR.refl{Q fr cs w}:LR Q 0 fr cs w fr cs w:=rfl
def LR.step{Q n fr fr' a cs cs' b w w' w2 es}(h:stepG Q true ⟨fr,cs,.running,none,none⟩ w=.go ⟨fr',cs',.running,none,none⟩ w' es)(k:LR Q n fr' cs' w' a b w2):LR Q (n+1) fr cs w a b w2:=by unfold LR runN;rw[step_lone_go (by rw[h];rfl)];exact k
def LR.trans{Q n m f c d cs a b w w1 w2}(h:LR Q n f cs w c a w1)(k:LR Q m c a w1 d b w2):LR Q (n+m) f cs w d b w2:=by unfold LR at*;rw[runN_add,h];exact k
def IF(m t):Region.schedule m qU t=if t%2=0 then[0,1]else[1,0]:=by (have a:Region.departs qU=false:=by simp[Region.departs,qU]);unfold Region.schedule;rw[a];simp only[XT,Bool.or_true,↓reduceIte];have e:List.range 2=[0,1]:=rfl;obtain h|h:=YL t;rw[UH h];simp[Region.linearise,Region.linearise.go,qU,e,h,Yk,Nat.mod_one];rw[UG (by omega)];simp[Region.linearise,Region.linearise.go,qU,e,h,Yk,Nat.mod_one]
def rK{P main}{b:Frame}{a k cs w c ops}:stepG P main (G (b.at a (.code (.region c ops true)::k)) cs) w=.go (G (b.at a (.inRegion ops (Region.schedule (P.follows .mixedOrders) ops (w.tape w.drawn (.order b.fn c)))::k)) cs) w.drew:=by simp[G,stepG,stepG.exec,Frame.at,Question.forced,Question.cut]
def jD{P main}{b:Frame}{a k cs w c ops l}(h:List.range ops.size=l):stepG P main (G (b.at a (.code (.region c ops false)::k)) cs) w=.go (G (b.at a (.inRegion ops l::k)) cs) w:=by rw[<-h];exact stepG_region
def er(f):(base f).kind≠ .early:=by intro h;cases h
section
variable {Q:Program} (h74:Q.funcs[74]? =some g74)
def gT(v a b c d e f:Zj):Zq:=#[v,undef,a,b,c,d,e,f]
def IG(v:Zj):Frame.enter Q 74 #[v] .normal=(base 74).at ⟨gT v undef undef undef undef undef undef,[]⟩ [.code A3]:=by rw[enter_at (c:=A3) #[v] h74 rfl];rfl
def Oe(v cs w):LR Q 5 ((base 74).at ⟨gT v undef undef undef undef undef undef,[]⟩ [.code A3]) cs w ((base 74).at ⟨gT v undef (.bool false) undef undef undef undef,[]⟩ [.code (.region 1 qU true),.code vu]) cs w:=by refine .step stepG_seq ?_;refine .step (jD (l:=[0]) rfl) ?_;refine .step (stepG_value (v:=.bool false) (w':=w) rfl rfl (er 74) rfl) ?_;refine .step stepG_region_end ?_;exact .step stepG_seq .refl
def ql(Q:Program)(fr:Frame)(cs:List Frame)(w:x6)(K:Frame->List Frame->x6->Prop):Prop:=∃n fr' cs' w',LR Q n fr cs w fr' cs' w'/\K fr' cs' w'
def ql.done{Q fr cs w K}(h:K fr cs w):ql Q fr cs w K:=⟨0,fr,cs,w,.refl,h⟩
def ql.step{Q fr fr' cs cs' w w' es K}(h:stepG Q true ⟨fr,cs,.running,none,none⟩ w=.go ⟨fr',cs',.running,none,none⟩ w' es)(k:ql Q fr' cs' w' K):ql Q fr cs w K:=by obtain⟨n,a,b,w2,c,d⟩:=k;exact⟨n+1,a,b,w2,.step h c,d⟩
def ql.ks{Q fr fr' cs cs' w w' K}(h:∃es,stepG Q true ⟨fr,cs,.running,none,none⟩ w=.go ⟨fr',cs',.running,none,none⟩ w' es)(k:ql Q fr' cs' w' K):ql Q fr cs w K:=h.elim λ_ h=>.step h k
def tk{P main}{b:Frame}{a k cs w ops i rest o d}(f:ops[i]? =some o)(g:Region.wanted o (yielded ops a.tmps)=true)(h:b.kind≠ .early) (j:(execOp a.eval o).run P w=.ok (.defer d) w):∃es,stepG P main (G (b.at a (.inRegion ops (i::rest)::k)) cs) w=.go (G (b.at (Act.put ⟨a.tmps,d::a.defers⟩ o.dst undef) (.inRegion ops rest::k)) cs) w es:=by (have e:(b.kind==CallKind.early)=false:=by simpa using h);(have c:({b.at a (.inRegion ops (i::rest)::k)with defers:=d::a.defers}:Frame).finish undef=b.at (Act.put ⟨a.tmps,d::a.defers⟩ o.dst undef) (.inRegion ops rest::k):=by have:=Frame.finish_at (b:=b) (a:=⟨a.tmps,d::a.defers⟩) (ops:=ops) (i:=i) (rest:=rest) (k:=k) undef;rw[f]at this;exact this);refine⟨listed P b.fn a o w,?_⟩;rw[stepG_oper f g,<-c];simp[stepG.apply,j,G,Frame.at,e,GStep.after,listed]
def tl{P:Program}{main:Bool}{b:Frame}{a:Act}{k:List Item}{cs:List Frame}{w:x6}{ops:Array Oper}{i:Nat}{rest:List Nat}{o:Oper}{x:Zj}(d:ops[i]? =some o)(e:Region.wanted o (yielded ops a.tmps)=true)(f:b.kind≠ .early) (g:(execOp a.eval o).run P w=.halt (.panic x) w):∃es,stepG P main (G (b.at a (.inRegion ops (i::rest)::k)) cs) w=.go (G {b.at a (.inRegion ops (i::rest)::k)with mode:=.panicking [{v:=x,recovered:=false}]} cs) w es:=by (have c:(b.kind==CallKind.early)=false:=by simpa using f);refine⟨listed P b.fn a o w,?_⟩;rw[stepG_oper d e];simp[stepG.apply,g,G,Frame.at,c,GStep.after,listed,Frame.raise]
def lF{P main fr cs w ds ts t bs}{x:Zj}{ch}(a:fr.defers=⟨.builtin .panic ts t bs,#[x]⟩::ds)(b:fr.mode=.panicking ch)(c:∃T v,x=.iface T v):∃es,stepG P main ⟨fr,cs,.running,none,none⟩ w=.go ⟨{fr with defers:=ds,mode:=.panicking ({v:=x,recovered:=false}::ch)},cs,.running,none,none⟩ w es:=by (obtain⟨T,v,rfl⟩:=c;have d:(invoke (.builtin .panic ts t bs) #[.iface T v]).run P w=.halt (.panic (.iface T v)) w:=by simp[invoke,builtin,Instr.panic,goPanic]);refine⟨seen P fr.fn ((invoke (.builtin .panic ts t bs) #[.iface T v]).events P w #[]),?_⟩;simp[stepG,b,unwind,a,callDeferred,d,GStep.after,Frame.raise]
def TX(v cs w){d}(c:Q.underlying 125=some d)(e:∀x,d≠ .interface x)(h:w.tape w.drawn (.order 74 1)%2=1):ql Q ((base 74).at ⟨gT v undef (.bool false) undef undef undef undef,[]⟩ [.code (.region 1 qU true),.code vu]) cs w λa b w1=>b=cs/\w1=w.drew/\a.mode=.panicking (gD v)/\a.defers=[]:=by refine .step rK ?_;rw[show(base 74).fn=74 from rfl,IF,UG (by omega)];refine .step (stepG_value (v:=.bool false) (w':=w.drew) rfl rfl (er 74) rfl) ?_;refine .step (stepG_value (v:=.bool true) (w':=w.drew) rfl rfl (er 74) rfl) ?_;refine .step stepG_region_end ?_;show ql Q ((base 74).at ⟨gT v undef (.bool true) (.bool false) undef undef undef,[]⟩ [.code vu]) cs w.drew _;refine .step stepG_seq ?_;refine .step (stepG_cond (t:=false) rfl) ?_;refine .step (jD (l:=[0,1,2]) rfl) ?_;refine .step (stepG_value (v:=.iface 125 v) (w':=w.drew) rfl rfl (er 74) ?_) ?_;show(do pure (.value (<-Instr.makeInterface 125 v)):Sem Next).run Q w.drew=_;(simp only[Instr.makeInterface,underlying];cases d with|interface x=>exact absurd rfl (e x)|_=>simp[c]);show ql Q ((base 74).at ⟨gT v undef (.bool true) (.bool false) (.iface 125 v) undef undef,[]⟩ (.inRegion FK [1,2]::[.code (.seq (.region 3 ot false) .ret)])) cs w.drew _;refine .ks (tk (d:=⟨.builtin .panic #[0] 0 #[false],#[.iface 125 v]⟩) rfl rfl (er 74) ?_) ?_;show(do pure (.defer (<-resolve (Act.eval ⟨gT v undef (.bool true) (.bool false) (.iface 125 v) undef undef,[]⟩) {callee:=.builtin .panic,args:=#[.tmp 5],argTypes:=#[0]} 0)):Sem Next).run Q w.drew=_;simp[resolve,Act.eval,gT];show ql Q ((base 74).at ⟨gT v undef (.bool true) (.bool false) (.iface 125 v) undef undef,[⟨.builtin .panic #[0] 0 #[false],#[.iface 125 v]⟩]⟩ (.inRegion FK [2]::[.code (.seq (.region 3 ot false) .ret)])) cs w.drew _;refine .ks (tl (x:=.iface 125 v) rfl rfl (er 74) rfl) ?_;refine .ks (lF (ds:=[]) (ts:=#[0]) (t:=0) (bs:=#[false]) (x:=.iface 125 v) (ch:=[{v:=.iface 125 v,recovered:=false}]) rfl rfl ⟨_,_,rfl⟩) ?_;exact .done ⟨rfl,rfl,rfl,rfl⟩
def gC(v:Zj):Frame:=(base 74).at ⟨gT v undef (.bool true) (.bool true) undef undef undef,[]⟩ [.inRegion ot [0,1,2],.code .ret]
def Q4(v cs w){fn}(b:Q.funcs[77]? =some fn)(a:(fn.name== "runtime.NumGoroutine")=false)(c:fn.body.isNone=false)(h:w.tape w.drawn (.order 74 1)%2=0):LR Q 10 ((base 74).at ⟨gT v undef (.bool false) undef undef undef undef,[]⟩ [.code (.region 1 qU true),.code vu]) cs w (Frame.enter Q 77 #[v] .normal) (gC v::cs) w.drew:=by (refine .step rK ?_;rw[show(base 74).fn=74 from rfl,IF,UH h];refine .step (stepG_value (v:=.bool true) (w':=w.drew) rfl rfl (er 74) rfl) ?_;refine .step (stepG_value (v:=.bool true) (w':=w.drew) rfl rfl (er 74) rfl) ?_;refine .step stepG_region_end ?_;show LR Q _ ((base 74).at ⟨gT v undef (.bool true) (.bool true) undef undef undef,[]⟩ [.code vu]) cs w.drew _ _ _;refine .step stepG_seq ?_;refine .step (stepG_cond (t:=true) rfl) ?_;refine .step stepG_skip ?_;refine .step stepG_seq ?_;refine .step (jD (l:=[0,1,2]) rfl) ?_;have e:(#[Operand.tmp 0]).map (Act.eval ⟨gT v undef (.bool true) (.bool true) undef undef undef,[]⟩)=#[v]:=by simp[Act.eval,gT]);refine .step (ur rfl rfl (er 74) rfl b a c) ?_;rw[e];exact .refl
def TY(v x V:Zj)(C:Frame)(cs:List Frame)(w w':x6)(a:(Builtin.append_ #[62,62] 62 #[.slice none 0 0,x]).run Q w=.ok V w'):LR Q 5 ((gC v).finish x) (C::cs) w (C.finish V) cs w':=by unfold gC;rw[Frame.finish_at];show LR Q _ ((base 74).at ⟨gT v undef (.bool true) (.bool true) undef x undef,[]⟩ [.inRegion ot [1,2],.code .ret]) (C::cs) w _ _ _;refine .step (stepG_value (v:=V) (w':=w') rfl rfl (er 74) ?_) ?_;show(execOp (Act.eval ⟨gT v undef (.bool true) (.bool true) undef x undef,[]⟩) {dst:=some 7,op:=.call {callee:=.builtin .append,args:=#[.const (.slice none 0 0),.tmp 6],argTypes:=#[62,62]},type:=62,pos:= "",after:=#[],guard:=none}).run Q w=_;simp[execOp,resolve,invoke,builtin,Act.eval,gT,a];show LR Q _ ((base 74).at ⟨gT v undef (.bool true) (.bool true) undef x V,[]⟩ [.inRegion ot [2],.code .ret]) (C::cs) w' _ _ _;refine .step (stepG_value (v:=V) (w':=w') rfl rfl (er 74) rfl) ?_;show LR Q _ ((base 74).at ⟨gT v V (.bool true) (.bool true) undef x V,[]⟩ [.inRegion ot [],.code .ret]) (C::cs) w' _ _ _;refine .step stepG_region_end ?_;refine .step stepG_ret' ?_;refine .step (stepG_leave (v:=V) rfl rfl h74 (results_tmp (t:=2) rfl _ _ _) (events_results_tmp (t:=2) rfl _ _)) ?_;exact .refl
end
end Go.Tm
namespace Go.Tm
open Go.Proofs Go.Conc Go.ConcN
def pX(dG:x6->Zj->List Zj->Prop):Prop:=∀w w' v L,dG w v L->(∀(b:Nat) c e f,w.heap[b]? =some (.cells c e f)->w'.heap[b]? =some (.cells c e f))->dG w' v L
def TZ{w τ}(h:τ w.drawn=λ_=>1):(au w τ w.drawn).tape (au w τ w.drawn).drawn (.order 74 1)%2=1:=by have e:(au w τ w.drawn).tape (au w τ w.drawn).drawn=τ w.drawn:=rfl;rw[e,h];rfl
section
variable {S:Kn} {fs:Array Func} {Post:Zj->x6->Prop} {dG:x6->Zj->List Zj->Prop}
def La(o:fs[74]? =some g74){d}(u:Tryz.prog.underlying 125=some d)(y:∀x,d≠ .interface x)(p:pX dG){f args C0} (i:∀τ,(∀n<C0.drawn,τ n=C0.tape n)->Calls (ah Tryz.prog fs) f args (au C0 τ C0.drawn) λe w'=>(∃v,e=.returned v/\Post v w')\/∃v L,e=.panicked (gD v)/\dG w' v L):FJ S fs dG ⟨Frame.enter (ah Tryz.prog fs) f args .normal,[],C0⟩:=by
 intro c k v π z A B C j;obtain⟨D,⟨m,L,e1,E⟩,F,H⟩:=FI (S:=S) (Q:=ah Tryz.prog fs) (G:=Tryz.prog.globals.size) (f:=f) (g:=74) (args:=args) (a:=#[v]) (C0:=C0) (Post:=Post) (PreB:=λch w'=>∃m L,ch=gD m/\dG w' m L) (ch0:=gD v)
  (λτ l=>(i τ l).mono λe w' h=>h.imp id λ⟨v,L,q,r⟩=>⟨_,A4 v,q,v,L,rfl,r⟩) z A π B C j (λcs τ l=>by have h:=TX (Q:=ah Tryz.prog fs) v cs (au c.w τ c.w.drawn) ((aJ Tryz.prog fs 125).trans u) y (TZ (l _ (UI _)));obtain⟨n,s,I,w1,q,rfl,rfl,r,J⟩:=h;refine⟨5+n,s,(au c.w τ c.w.drawn).drew,?_,r,J,rfl⟩;rw[IG (Q:=ah Tryz.prog fs) o];exact(Oe v _ _).trans q)
 have:m=v:=by simp only[gD,Xc,PanicEntry.mk.injEq,Value.iface.injEq]at e1;exact e1.1.1.2.symm
 subst this;exact⟨L,p D c.w m L E λb K e M t=>by obtain h|h:=H b;rw[<-h];exact t;rw[h]at t;cases t⟩
end
section
variable {S:Kn} {fs:Array Func} {Post PostR:Zj->x6->Prop} {dG:x6->Zj->List Zj->Prop}
def law_ends(t:Tab S Tryz.prog fs)(l:∀g,S.calm g)(u:∀f,S.ent f=true->Tryz.prog.inits.idxOf? f=none)(y:0<Tryz.prog.globals.size)(z:fs[74]? =some g74){d}(P:Tryz.prog.underlying 125=some d)(Q:∀x,d≠ .interface x) (A:pX dG) (C:nV S fs Post dG) (D:uz S dG) {Pr} {f:FuncId} (M:S.ent f=true) {args} {W} {B} (R:∀b,B b->∃o,W.heap[b]? =some o/\((∃c e F,o=.cells c e F)\/(∀c e F,o≠ .cells c e F)/\fV S (idR Tryz.prog.globals.size B) o o)) (r:∀b,Pr b->B b/\∃c e F,W.heap[b]? =some (.cells c e F)) (m:∀v V w' E (n),Post v w'->aw n v V->bt S Pr n w' E->iZ Pr (idR Tryz.prog.globals.size B) W n E->PostR V E) (T:Tryz.prog.globals.size<=W.heap.size) (N:∃c e F,W.heap[0]? =some (.cells c e F)) (U:∀g,S.dF g=true->B g) (X:∀x∈args,aw (idR Tryz.prog.globals.size B) x x) (p:∀w,w.heap=(dg (idR Tryz.prog.globals.size B) Pr W).heap->Calls (ah Tryz.prog fs) f args w λe w'=>(∃v,e=.returned v/\Post v w')\/∃v L,e=.panicked (gD v)/\dG w' v L):dh Tryz.prog PostR (crowd #[G (Frame.enter Tryz.prog f args .normal) []] W none) #[]:=by
 let C0:x6:=au (dg (idR Tryz.prog.globals.size B) Pr W) (λ_ _=>0) 0;have a:∀τ,Calls (ah Tryz.prog fs) f args (au C0 τ C0.drawn) λe w'=>(∃v,e=.returned v/\Post v w')\/∃v L,e=.panicked (gD v)/\dG w' v L:=λτ=>p _ rfl;have q:Gd S (ah Tryz.prog fs) Post ⟨Frame.enter (ah Tryz.prog fs) f args .normal,[],C0⟩:=CQ (λ_ _=>mS) λτ _=>(a τ).mono λe w' h=>h.imp id λ⟨v,L,k,_⟩=>⟨_,A4 v,k⟩
 have s:=(t.ent f M).1;have H:bj S (idR Tryz.prog.globals.size B) (Frame.enter (ah Tryz.prog fs) f args .normal) (Frame.enter Tryz.prog f args .normal):=by rcases uj (π:=idR Tryz.prog.globals.size B) t f (.inr M) (λx=>by rw[s]at x;cases x) (pB X) (cs:=[aG]) (by simp)with h|⟨_,g,a1,A1,k,_,h3,_⟩;exact h;have e:=Vj Frame.fn h3;have e:f=g:=e;rw[<-e,s]at k;cases k
 have Y:bt S Pr (idR Tryz.prog.globals.size B) C0 W:=(kT (S:=S) (Pr:=Pr) (λb Z=>by obtain⟨o,k,h2⟩:=R b Z;exact⟨o,k,h2.imp id λh=>⟨λI=>by obtain⟨_,c,e,F,O⟩:=r b I;rw[k]at O;cases O;exact h.1 _ _ _ rfl,h.1,h.2⟩⟩) (λb h=>(r b h).1) T N).heap rfl rfl;have J:Cp S Tryz.prog fs Pr Post (idR Tryz.prog.globals.size B) ⟨Frame.enter (ah Tryz.prog fs) f args .normal,[],C0⟩ (Frame.enter Tryz.prog f args .normal) [] W:=⟨H,.nil,Y,yB,q,λg h=>⟨rfl,U g h⟩⟩
 have I:=past_nil.mono (UP W.heap.size);exact join t l u y m (La z P Q A λτ _=>a τ) C D q.UA 0 _ _ _ W _ none #[] (λ_=>False) (λ_=>False) (.refl q.1) (λ_ h=>h.elim) (iZ.refl _ _ _) J
  ⟨rfl,⟨λ_=>0,λi g N k=>by
   have:i<1:=by simpa using(UO.1 k).1
   omega,λj _=>rfl⟩,I,λop K=>by simp at K⟩ λb h=>h.elim
end
def dh.and{P A B m t}(h:dh P A m t)(k:dh P B m t):dh P (λv w=>A v w/\B v w) m t:=by (obtain⟨N,last,o,w',g,b,a,i,j⟩:=h;obtain⟨M,c,l,w2,x,k1,f,y,n⟩:=k;have e:N=M:=by obtain hlt|p|hlt:=X9 N M;(obtain⟨d,rfl⟩:∃d,M=N+1+d:=⟨M-(N+1),by omega⟩);(rw[runN_add]at f;have:runN P (N+1) m=.ended o w':=by rw[<-runNT_fst P (N+1) m t,b]);rw[this]at f;cases f;exact p;(obtain⟨d,rfl⟩:∃d,N=M+1+d:=⟨N-(M+1),by omega⟩);(rw[runN_add]at a;have:runN P (M+1) m=.ended l w2:=by rw[<-runNT_fst P (M+1) m t,k1]);rw[this]at a;cases a);subst e;rw[b]at k1;cases k1;obtain⟨v,rfl,q,r⟩:=j;obtain⟨v2,s,u,_⟩:=n;cases s;exact⟨N,last,_,w',g,b,a,i,v,rfl,⟨q,u⟩,r⟩
end Go.Tm
namespace Go.Tm
section
variable {S:Kn} {P:Program} {fs:Array Func}
def jump(E:Tab S P fs)(W:lx P)(l:∀f,S.stop f=false)(r:∀g,S.calm g){R:Zj->x6->Prop}{f:FuncId}{a ag C cs w wg}{π:Ren P.globals.size} (hf:S.ent f=true) (ha:VsR π ag a) (hw:bt S (λ_=>False) π wg w) (s:∀g,S.dF g=true->π g g) (τ) (aa:∀n<w.drawn,τ n=w.tape n) (hc:Calls P f a (au w τ w.drawn) λe w'=>∃v,e=.returned v/\R v w') (t:∀j,j.heap=wg.heap->Calls (ah P fs) f ag j λe w'=>∃v,e=.returned v):∃V w' N,R V w'/\w'.tape=τ/\w.drawn<=w'.drawn/\∀σ,(∀n<w'.drawn,σ n=τ n)->LR P N (Frame.enter P f a .normal) (C::(cs++[aG])) (au w σ w.drawn) (C.finish V) (cs++[aG]) (au w' σ w'.drawn):=by (have F:=pA (Post:=λ_ _=>True) E l hf ha (hw.heap (Y1:=au w τ w.drawn) rfl rfl) s λj z=>(t j z).mono λe w' ⟨v,h⟩=>⟨v,h,True.intro⟩);(obtain⟨ab,c',G,W',n,H,X,Y,h4,Z⟩:=F.run E W l λn hn=>r _;obtain⟨e,w2,I,⟨v2,rfl,hR⟩,⟨A,p⟩,_,B⟩:=hc [aG];have d:=Z [aG] τ λ_ _ _=>rfl;simp only[Wp]at d;have J:au (au w τ w.drawn) τ (au w τ w.drawn).drawn=au w τ w.drawn:=rfl;have K:au W' τ W'.drawn=W':=by have:=Y.tape;rw[show τ=W'.tape from this.symm];rfl);(rw[J,K]at d;have u:G=I/\W'=w2:=by obtain hlt|rfl|hlt:=X9 n A;exfalso;(have x:=gZ P d p (Xe hlt);obtain⟨k,L⟩:∃k,A-n=k+1:=⟨A-n-1,by omega⟩);rw[L]at x;obtain⟨_,v0,V,w3,y,ev,M,_,_,i,_⟩:=H.returns E X aG [] true;unfold runN at x;rw[step_lone_go (by rw[i];rfl)]at x;exact EY k _ x;rw[d]at p;obtain⟨O,_,Q⟩:=jP (Stepped.next.inj p);exact⟨O,Q⟩;exfalso;(have x:=gZ P p d (Xe hlt);obtain⟨k,L⟩:∃k,n-A=k+1:=⟨n-A-1,by omega⟩);rw[L]at x;exact gone B x);(obtain⟨rfl,rfl⟩:=u;obtain⟨_,v0,V,w3,y,ev,M,_,_,i,_,_,_,T⟩:=H.returns E X C (cs++[aG]) true;have m:=step_leave_returned (c:=C) (cs:=cs++[aG]) B;have q:=step_lone_go (P:=P) (fr:=G) (cs:=C::(cs++[aG])) (w:=W') (fr':=C.finish V) (cs':=cs++[aG]) (w':=y) (by rw[i];rfl);rw[q]at m;obtain⟨O,_,Q⟩:=jP (Stepped.next.inj m);subst Q;rw[O]at i;have o:=H.calm;have D:=vl W true o.1 o.2.1 o.2.2 i rfl rfl (vn T);refine⟨v2,y,n+1,hR,Y.tape,h4,λσ U=>?_⟩;have hA:Agr (au w τ w.drawn) y.drawn σ:=λn _ b=>U n b;have hB:=Z (C::cs++[aG]) σ hA;unfold LR;rw[runN_add];have:runN P n (lone (Frame.enter P f a .normal) (C::(cs++[aG])) (au w σ w.drawn))=.next (lone G (C::cs++[aG]) (au y σ y.drawn)):=hB);rw[this];show runN P 1 _=_;unfold runN;rw[Xs,step_lone_go (by rw[D.2.2 σ λn a b=>by omega];rfl)];rfl
end
end Go.Tm
namespace Go.Tm
open Go.Proofs Go.Conc Go.ConcN
def R77(L:List Zj)(w:x6)(x:Zj)(w':x6):Prop:=w.heap.size<=w'.heap.size/\(∀b,b<w.heap.size->w'.heap[b]? =w.heap[b]?)/\((L=[]/\x=.slice none 0 0)\/(L≠[]/\∃a c,x=.slice (some a) L.length c/\∀j u,(bE L)[j]? =some u->w'.cell? (a.add j)=some u))
def ou(L)(d:∀v∈L,∃a b c,v=fG a b c):(bE L).length=L.length*3:=by induction L with|nil=>rfl|cons v L f=>(obtain⟨a,b,c,rfl⟩:=d v (.head _);have:=f λx g=>d x (.tail _ g);have e:bE (fG a b c::L)=[.i a,.i b,.i c]++bE L:=by simp[bE,fG,Value.cells]);rw[e,U6,this];simp only[UM,UZ];omega
def pY(w:x6)(k:Nat):Nat->Question->Nat:=λn=>if n<w.drawn then w.tape n elseλq=>match q with| .appendCap .. =>k|_=>0
def FL{w k n}(h:n<w.drawn):pY w k n=w.tape n:=UH h
def zN{w k n}(h:w.drawn<=n)(f i:Nat):pY w k n (.order f i)=0:=by unfold pY;rw[UG (by omega)]
def FO{w k n}(h:w.drawn<=n)(a b e):pY w k n (.appendCap a b e)=k:=by unfold pY;rw[UG (by omega)]
def T1{w σ}(h:σ w.drawn (.order 74 1)=0):(au w σ w.drawn).tape (au w σ w.drawn).drawn (.order 74 1)%2=0:=by have e:(au w σ w.drawn).tape (au w σ w.drawn).drawn=σ w.drawn:=rfl;rw[e,h]
def pC{P t ty e i}(a:P.underlying t=some (.slice e))(b:P.info? e=some i)(w):(Builtin.append_ #[t,t] ty #[.slice none 0 0,.slice none 0 0]).run P w=.ok (.slice none 0 0) w:=by simp[Builtin.append_,run_underlying a,sizeOf,typeInfo,b,Builtin.lenOf,run_firstCells_none]
def underlying62:Tryz.prog.underlying 62=some (.slice 66):=by kernel_rfl
section
variable {S Z1:Kn} {fs fs1:Array Func} {Post:Zj->x6->Prop} {dG:x6->Zj->List Zj->Prop}
def FP(U:fs[74]? =some g74){fn}(aK:fs[77]? =some fn)(D:(fn.name== "runtime.NumGoroutine")=false)(q:fn.body.isNone=false) (ht:Tab Z1 (ah Tryz.prog fs) fs1) (hP:lx (ah Tryz.prog fs)) (E:∀f,Z1.stop f=false) (G:∀g,Z1.calm g) (W:Z1.ent 77=true) (X:pX dG) (hG:∀w v L,dG w v L->Tryz.prog.globals.size<=w.heap.size) (hL:∀w v L,dG w v L->L.length<1000/\∀x∈L,∃a b c,x=fG a b c) (Y:∀w v L,dG w v L->∀g,Z1.dF g=true->∃c e F,w.heap[g]? =some (.cells c e F)) (H:∀w v L,dG w v L->dG (dg (idR Tryz.prog.globals.size λb=>∃c e F,w.heap[b]? =some (.cells c e F)) (λ_=>False) w) v L/\aw (idR Tryz.prog.globals.size λb=>∃c e F,w.heap[b]? =some (.cells c e F)) v v) (hc:∀w v L,dG w v L->Calls (ah Tryz.prog fs) 77 #[v] w λe w'=>∃x,e=.returned x/\R77 L w x w') (I:∀w v L,dG w v L->Calls (ah (ah Tryz.prog fs) fs1) 77 #[v] w λe w'=>∃x,e=.returned x):nV S fs Post dG:=by
 intro c v C cs L cap e1 e2 b0 hp Z;obtain⟨τ,o⟩:=ex (pY c.w (cap-L.length));have aa:∀n,n<c.w.drawn->τ n=c.w.tape n:=λn t=>by rw[o];exact FL t
 have B:∀n,c.w.drawn<=n->∀f i,τ n (.order f i)=0:=λn t f i=>by rw[o];exact zN t f i
 have ab:∀n,c.w.drawn<=n->∀a b e,τ n (.appendCap a b e)=cap-L.length:=λn t a b e=>by rw[o];exact FO t a b e
 clear o;obtain⟨W1,p⟩:=ex (au c.w τ (c.w.drawn+1));have l:W1.heap=c.w.heap:=by rw[p];rfl
 have ad:W1.drawn=c.w.drawn+1:=by rw[p];rfl
 have aM:W1.tape=τ:=by rw[p];rfl
 have aR:∀σ d,au W1 σ d=au c.w σ d:=λσ d=>by rw[p];rfl
 have a6:au W1 τ W1.drawn=W1:=by rw[p];rfl
 clear p;have r:=X _ _ v L hp λb cc e F q=>by rw[l];exact q
 obtain⟨a7,a8⟩:=H W1 v L r;have ba:=hG W1 v L r;obtain⟨x,w2,N,hR,af,bb,J⟩:=jump (w:=W1) (C:=gC v) (cs:=C::cs) (τ:=τ) ht hP E G (R:=R77 L W1) (a:=#[v]) (ag:=#[v]) (wg:=dg (idR Tryz.prog.globals.size λb=>∃c e F,W1.heap[b]? =some (.cells c e F)) (λ_=>False) W1)
  (π:=idR Tryz.prog.globals.size λb=>∃c e F,W1.heap[b]? =some (.cells c e F)) W (aY.refl λy hy=>by simp at hy;subst hy;exact a8)
  (kT (λb q=>by obtain⟨cc,e,F,h⟩:=q;exact⟨_,h,.inl ⟨cc,e,F,rfl⟩⟩) (λ_ h=>h.elim) ba (Y W1 v L r 0 ht.xT)) (λg hg=>⟨rfl,Y W1 v L r g hg⟩) (λn t=>by rw[aM])
  (by rw[a6];exact hc W1 v L r) (λak an=>I ak v L (X _ _ v L a7 λb cc e F q=>by rw[an];exact q))
 have bC:=ad▸bb;have K:∀σ:Nat->Question->Nat,σ c.w.drawn=τ c.w.drawn->LR (ah Tryz.prog fs) 15 c.fr (C::cs++[aG]) (au c.w σ c.w.drawn) (Frame.enter (ah Tryz.prog fs) 77 #[v] .normal) (gC v::(C::cs++[aG])) (au c.w σ (c.w.drawn+1)):=by (intro σ m;rw[e1,IG (Q:=ah Tryz.prog fs) U];have h0:σ c.w.drawn (.order 74 1)=0:=by rw[m];exact B _ (UI _) 74 1);have a1:=Oe (Q:=ah Tryz.prog fs) v (C::cs++[aG]) (au c.w σ c.w.drawn);have a2:=Q4 (Q:=ah Tryz.prog fs) v (C::cs++[aG]) (au c.w σ c.w.drawn) aK D q (T1 h0);have a3:=a1.trans a2;exact a3
 have M:∀n,c.w.drawn<=n->S.gq (τ n):=λn t f i _=>B n t f i;obtain⟨z,ao,bk⟩:=hR;have key:∀(V:Zj) (w3:x6) (d:Nat),w2.drawn<=d->w3.drawn=d->w3.tape=τ->(∀σ:Nat->Question->Nat,(∀n<d,σ n=τ n)->(Builtin.append_ #[62,62] 62 #[.slice none 0 0,x]).run (ah Tryz.prog fs) (au w2 σ w2.drawn)=.ok V (au w3 σ d))->
  Nxs S (ah Tryz.prog fs) c ⟨C.finish V,cs,w3⟩ (15+(N+5)):=by
  intro V w3 d hd e3 e4 ar;refine⟨by show c.w.drawn<=w3.drawn;omega,λk hk=>by show S.gq (w3.tape k);rw[e4];exact M k hk,λk hk=>by show w3.tape k=_;rw[e4];exact aa k hk,λσ m=>?_⟩;have s:∀n<d,σ n=τ n:=λn t=>by rw[m n (by show n<w3.drawn;omega)];show w3.tape n=_;rw[e4]
  have h1:=K σ (s _ (by omega));have h2:=J σ λn t=>s n (by omega);rw[aR,ad]at h2;have h3:=TY (Q:=ah Tryz.prog fs) U v x V C (cs++[aG]) _ _ (ar σ s);rw[e2];show LR _ _ _ _ _ _ _ (au w3 σ w3.drawn);rw[e3];exact h1.trans (h2.trans h3)
 obtain⟨bm,rfl⟩|⟨O,a,cx,rfl,A⟩:=bk;refine⟨.slice none 0 0,w2,15+(N+5),by omega,key _ w2 w2.drawn (UI _) rfl af λσ _=>?_,l▸z,λb q=>by rw[<-l];exact ao b (l▸q),.inl ⟨bm,rfl⟩⟩;obtain⟨i,T,_⟩:=nL;exact pC ((aJ _ _ _).trans underlying62) ((tL _ _ _).trans T) _;obtain⟨b1,bo⟩:=Z O;obtain⟨b2,br⟩:=hL _ _ _ hp;obtain⟨i,T,bs,bx,bA⟩:=nL;have ax:=VZ.2 O;have bB:=ou L br;have ay:∀σ:Nat->Question->Nat,(∀n<w2.drawn+1,σ n=τ n)->grownCap (au w2 σ w2.drawn) L.length 0 66=cap:=by intro σ m;show(Question.appendCap L.length 0 66).cut (σ w2.drawn (.appendCap L.length 0 66))=cap;rw[m _ (by omega)];show L.length+τ w2.drawn (.appendCap L.length 0 66)% (2 ^ 63-L.length)=cap;rw[ab _ (by omega)];rw[Nat.mod_eq_of_lt (by simp only[maxLen]at bo;omega)];omega
 have ez:(Builtin.zeroCells (fG 0 0 0).cells (cap-L.length)).toList=cZ kH (cap-L.length):=nn _ _;have ec:(bE L).toArray++Builtin.zeroCells (fG 0 0 0).cells (cap-L.length)=(bE L++cZ kH (cap-L.length)).toArray:=by apply XE;simp[ez]
 refine⟨.slice (some ⟨w2.heap.size,0,none⟩) L.length cap,(w2.drew.alloc (.cells (bE L++cZ kH (cap-L.length)).toArray 66)),15+(N+5),by omega,key _ _ (w2.drawn+1) (by omega) rfl (by rw[<-af];rfl) λσ m=>?_,?_,λb q=>?_,.inr ⟨w2.heap.size,O,l▸z,rfl,?_⟩⟩;have:=run_append_nil (P:=ah Tryz.prog fs) (au w2 σ w2.drawn) 62 62 66 i (fG 0 0 0) ((aJ _ _ _).trans underlying62) ((tL _ _ _).trans T) bs a L.length cx (bE L) (by rw[bB,bx]) (λj u hu=>A j u hu) ax (by omega) (by rw[bA];omega);rw[ay σ m,ec]at this;exact this;rw[l]at z;simp;omega;rw[heap_alloc_old w2.drew _ (show b<w2.drew.heap.size by rw[l]at z;show b<w2.heap.size;omega)];rw[<-l];exact ao b (l▸q);exact heap_alloc_new w2.drew _
end
def qV{G}{π:Ren G}{c C}(h:VsR π c C)(b:∀x∈c,(∃k n,x=.int k n)):C=c:=by obtain⟨d,f⟩:=h;refine Xl d.symm λi g a=>?_;have a1:=Va g;have j:=Va a;obtain⟨k,n,e⟩:=b c[i] (Xm a);have:=f i _ _ j a1;rw[e]at this⊢;generalize C[i]=x at this;cases this;rfl
def FQ{G}{π:Ren G}(h){v}(f:aw π (.tuple #[.agg (py h),.bool h.isSome]) v):v=.tuple #[.agg (py h),.bool h.isSome]:=by cases f with| @tuple _ C g d=>(have b:C.size=2:=g.symm;have e:=d 0 (.agg (py h)) (C[0]'(by omega)) rfl (Va _);have c:=d 1 (.bool h.isSome) (C[1]'(by omega)) rfl (Va _);have e1:C[1]'(by omega)=.bool h.isSome:=by generalize C[1]'(by omega)=x at c;cases c;rfl);(have e0:C[0]'(by omega)=.agg (py h):=by generalize C[0]'(by omega)=x at e;cases e with| @agg _ D ds j=>(have:D=py h:=qV ⟨ds,j⟩ λx a=>by unfold py at a;cases h with|none=>simp at a;exact⟨_,_,a⟩|some y=>simp at a;rcases a with rfl|rfl|rfl<;>exact⟨_,_,rfl⟩);rw[this]);(have:C=#[.agg (py h),.bool h.isSome]:=by refine Xl b λi c k=>?_;have:i<2:=k;match i,this with|0,_=>exact e0|1,_=>exact e1);rw[this]
section
variable {S:Kn} {fs:Array Func}
def Lb(A:Tab S Tryz.prog fs)(k:∀f,S.stop f=false)(l:∀g,S.calm g)(o:S.ent 125=true){W Kold sc}{n:Nat}{H} (p:∀g,S.dF g=true->Kold g/\∃c e F,W.heap[g]? =some (.cells c e F)) (D:Tryz.prog.globals.size<=W.heap.size) (m:∀B,(∀b,Kold b->(∃c e F,W.heap[b]? =some (.cells c e F))->B b)->aw (idR Tryz.prog.globals.size B) (.agg sc) (.agg sc)) (E:∀i,i<n->∀(w u) (B fz),(∀b,Kold b->u.heap[b]? =W.heap[b]?)->(∀b,Kold b->(∃c e F,W.heap[b]? =some (.cells c e F))->B b)->w.heap=(dg (idR Tryz.prog.globals.size B) fz u).heap->Calls (ah Tryz.prog fs) 125 #[.agg sc,.i i] w λe w'=>e=.returned (.tuple #[.agg (py (H i)),.bool (H i).isSome])/\∀b,b<w.heap.size->w'.heap[b]? =w.heap[b]?):yA W Kold sc n H:=by (intro i G Wg K w' k1 I a r j Q C cs q;have s:Wg<w'.heap.size:=by obtain⟨st,sm,h⟩:=a;exact(UO.1 (show w'.heap[Wg]? =some _ from h)).1);(have d:∀b,Kold b->(∃c e F,W.heap[b]? =some (.cells c e F))->K b/\∃c e F,w'.heap[b]? =some (.cells c e F):=λb y ⟨c,e,F,h⟩=>⟨k1 b y,c,e,F,(j b y).trans h⟩);(refine Qr (V:=.tuple #[.agg (py (H i)),.bool (H i).isSome]) A k l o (UJ D r) (λg z=>d g (p g z).1 (p g z).2) I s a (λx t=>?_) (λπ v J=>FQ _ J) (λfz w L=>E i G w w' _ fz j d L) Q C cs q;have t:x=.agg sc\/x=.i i:=by simpa using t);obtain rfl|rfl:=t;exact m _ d;exact .int _ _
def IH(ht:Tab S Tryz.prog fs)(z:∀f,S.stop f=false)(A:∀g,S.calm g)(J:S.ent 128=true){W Kold sc n H Srt} (L:∀g,S.dF g=true->Kold g/\∃c e F,W.heap[g]? =some (.cells c e F)) (hG:Tryz.prog.globals.size<=W.heap.size) (D:∀B,(∀b,Kold b->(∃c e F,W.heap[b]? =some (.cells c e F))->B b)->aw (idR Tryz.prog.globals.size B) (.agg sc) (.agg sc)) (N:∀d,K8 n H d->(Srt d).length=d.length/\∀v∈Srt d,∃a b c,v=fG a b c) (hA:∀d,K8 n H d->∀(w W') (B fz) (k) (N0),(∀b,Kold b->W'.heap[b]? =W.heap[b]?)->(∀b,Kold b->(∃c e F,W.heap[b]? =some (.cells c e F))->B b)->ma W' N0 66 kH k d.length (bE d)->(∀g,k.ownBlock=some g->B g/\¬fz g/\¬Kold g)->w.heap=(dg (idR Tryz.prog.globals.size B) fz W').heap->Calls (ah Tryz.prog fs) 128 #[k,.func (.func 129) #[.agg sc] #[]] w λe w'=>e=.returned k/\(∀g cap,k=.slice (some ⟨g,0,none⟩) d.length cap->w'.heap[g]? =some (.cells (bE (Srt d)++cZ kH (cap-d.length)).toArray 66 (0,0)))/\∀b,b<w.heap.size->k.ownBlock≠some b->w'.heap[b]? =w.heap[b]?):uy W Kold sc n H Srt:=by
 intro d hh Wg N0 K M w' k kK kl aa m ab y j p Q C cs P;have ad:Wg<w'.heap.size:=by obtain⟨st,sm,h⟩:=m;exact(UO.1 (show w'.heap[Wg]? =some _ from h)).1
 have q:∀b,Kold b->(∃c e F,W.heap[b]? =some (.cells c e F))->K b/\∃c e F,w'.heap[b]? =some (.cells c e F):=λb s ⟨c,e,F,h⟩=>⟨(kK b s).1,c,e,F,(y b s).trans h⟩
 have u:∀b,k.ownBlock=some b->K b/\∃c e F,w'.heap[b]? =some (.cells c e F):=λb s=>by refine⟨(p b s).1,?_⟩;obtain⟨rfl,_⟩|⟨g,cap,rfl,_,r,_⟩:=j.2;cases s;cases s;exact⟨_,_,_,r⟩
 obtain⟨E,R⟩:=N d hh;have af:=ou (Srt d) R;refine Ob (O:=λb=>k.ownBlock=some b) (Post:=λv w=>v=k/\∀g cap,k=.slice (some ⟨g,0,none⟩) d.length cap->w.heap[g]? =some (.cells (bE (Srt d)++cZ kH (cap-d.length)).toArray 66 (0,0)))
  (T:=λV h=>V=k/\∀g cap,k=.slice (some ⟨g,0,none⟩) d.length cap->h g=some (.cells (bE (Srt d)++cZ kH (cap-d.length)).toArray 66 (0,0)))
  ht z A J (UJ hG ab) (λg r=>q g (L g r).1 (L g r).2) kl ad m aa (λb s=>(p b s).2.1) u (λx hx=>?_) (λPr π v V w G ag hp hv hw h ak=>?_) (λfz w an hw=>?_) Q C cs (λK' M' G V _ _ _ hT hO=>?_)
 have hx:x=k\/x=.func (.func 129) #[.agg sc] #[]:=by simpa using hx
 obtain rfl|rfl:=hx;obtain⟨rfl,_⟩|⟨g,cap,rfl,_,r,_⟩:=j.2;exact .iT 0 0;exact .slice _ _ (.mk ⟨rfl,u g rfl⟩);have ao:=D _ q
 exact .func (.func 129 (by decide)) rfl (λi x X t I=>by
  match i with
  |0=>simp at t I;subst t I;exact ao
  |i+1=>simp at t) rfl (λi x X t I=>by simp at t)
 obtain⟨rfl,ar⟩:=hp;obtain⟨rfl,_⟩|⟨g,cap,rfl,_,r,_⟩:=j.2;cases hv;exact⟨rfl,λg cap e=>by cases e⟩;have U:=ag g g ⟨rfl,u g rfl⟩;have hV:V=.slice (some ⟨g,0,none⟩) d.length cap:=by cases hv with|slice l c ha=>cases ha with|mk hr=>rw[π.fn _ _ _ hr U]
 refine⟨hV,λg' aR e=>?_⟩;cases e;rw[ak g rfl];obtain⟨o,O,t,I,h3⟩:=hw.obj g g U;rw[ar g cap rfl]at t;cases t;rw[I];cases h3 with| @cells _ CC _ _ F ax ay=>have:CC=_:=qV ax λx hx=>?_;rw[this];obtain rfl|⟨_,h,_⟩:=ay;rfl;exact absurd h (UX _);(have hx:x∈bE (Srt d)++cZ kH (cap-d.length):=by simpa using hx);obtain hx|hx:=Wn.1 hx;obtain⟨v,hv,Y⟩:=W8.1 hx;obtain⟨a,b,c,rfl⟩:=R v hv;simp[fG,Value.cells]at Y;rcases Y with rfl|rfl|rfl<;>exact⟨_,_,rfl⟩;obtain⟨l,hl,Z⟩:=Yw.1 hx;have:=Yx hl;subst this;simp[kH]at Z;subst Z;exact⟨_,_,rfl⟩
 refine(hA d hh w w' _ fz k N0 y q j (λg r=>⟨u g r,an g r,(p g r).2.2⟩) hw).mono λe G ⟨t,I,h3⟩=>⟨k,t,⟨rfl,I⟩,λb s ho=>h3 b s ho⟩
 obtain⟨rfl,aK⟩:=hT;refine P K' M' G V ⟨⟨by rw[af];rfl,?_⟩,hO⟩;obtain⟨rfl,h0⟩|⟨g,cap,rfl,hN,r,a1,aM,a6⟩:=j.2;exact .inl ⟨rfl,by rw[E,h0]⟩;refine .inr ⟨g,cap,by rw[E],hN,?_,by omega,aM,by omega⟩;rw[E];exact aK g cap rfl
end
end Go.Tm
namespace Go.Tm
open Go.Proofs
def jm:List Nat:=[3,4,5,6,7,8,9,10,11,12,13,14,15,16,17,18,19,20,21,22,23,24,25,26,27,28,29,30,31,32,33,34,35,36,37,38,39,40,41,42,43,44,45,46,47,48,49,50,51,52,53,54,55,56,57,58,59,60,61,62,63,64,65,66,67,68,69,70,71,72,73,75,76,77,78,79,80,81,82,83,84,85,86,87,88,89,90,91,92,93,94,95,96,97,98,99,100,101,102,103,104,105,106,107,108,109,110,111,112,113,114,115,116,117,118,119,120,121,125,128,129,130,131,132,133,134,135,136,137,138,139,140,141,142,143,162,163,165,166,167,173,174,175,176,177,178,179,180,181,182,183,184,185,186,187,188,189,190,191,192,193,194,195,197,199,200,201,202,203,204,205,206,207,209,210,212,230,231,232,233,234,235,236,237,238,239,240,241,242,243,244,245]
def hZ:Kn:={dF:=λg=>decide (g<5),ent:=λf=>jm.contains f,stop:=λf=>f==74,own:=λf=>f==74}
def mN:Kn:={dF:=λg=>decide (g<5),ent:=λf=>jm.contains f,stop:=λ_=>false,own:=λ_=>false}
def Ok:(jm.all λi=>(Tryz.prog.funcs[i]?).any λg=>g.name != "runtime.NumGoroutine" &&g.body.any λc=>if i=95 then iW hZ c else codeOk hZ c)=true:=by kernel_rfl
def Ol:(jm.all λi=>(Tryz.prog.funcs[i]?).any λg=>g.name != "runtime.NumGoroutine" &&g.body.any λc=>if i=95 then iW mN c else codeOk mN c)=true:=by kernel_rfl
def ov:Func:={name:= "",origin:= "",params:=#[],resultTypes:=#[],nfree:=0,ntmps:=0,results:=#[],body:=none,norace:=false,tmpNames:=#[]}
noncomputable def gl(g:Func):Array Func:=Tryz.prog.funcs.mapIdx λi f=>if i=74 then g else if i=95 then ow else if gP.contains i then f else ov
def pD(g i):(gl g)[i]? =(Tryz.prog.funcs[i]?).map λf=>if i=74 then g else if i=95 then ow else if gP.contains i then f else ov:=by unfold gl;rw[Array.getElem?_mapIdx]
def UB:(gP.all λi=>i !=74)=true:=by kernel_rfl
def T5(i)(a:i∈gP):i≠74:=by have:=Vp.1 UB i a;simpa using this
def uB(fs)(i:Nat):(Qs fs).funcs[i]? =fs[i]? :=rfl
def wT(g):(gl g)[95]? =some ow:=by rw[pD,Tryz.func95];rfl
def pZ(g):bR (gl g):=⟨λi a b=>by
 rw[uB,pD];have c:gP.contains i=true:=Ws.2 a;cases Tryz.prog.funcs[i]? with
 |none=>rfl
 |some f=>simp[T5 i a,a,b],(uB _ _).trans (wT g)⟩
def uC(g):(gl g).size=Tryz.prog.funcs.size:=by simp[gl]
def Om:(jm.all λi=>gP.contains i)=true:=by kernel_rfl
def JL(Q:Program):Prop:=(∀i,gP.contains i=true->i≠95->Q.funcs[i]? =Tryz.prog.funcs[i]?)/\(Q.funcs[95]? =some Tryz.f95\/Q.funcs[95]? =some ow)
def Lj:∃c,ow.body=some c/\ia c=c:=by refine⟨_,rfl,?_⟩;kernel_rfl
def Lk:(ow.name== "runtime.NumGoroutine")=false:=by kernel_rfl
def Ll:(ow.body.any λc=>iW hZ c)=true:=by kernel_rfl
def Lm:(ow.body.any λc=>iW mN c)=true:=by kernel_rfl
def On{S}(q:(jm.all λi=>(Tryz.prog.funcs[i]?).any λg=>g.name != "runtime.NumGoroutine" &&g.body.any λc=>if i=95 then iW S c else codeOk S c)=true)(k:(ow.body.any λc=>iW S c)=true){f}(h:jm.contains f=true)(g0){Q}(l:JL Q):∃g c,(gl g0)[f]? =some {g with body:=some (ia c)}/\Q.funcs[f]? =some g/\g.name≠ "runtime.NumGoroutine" /\g.body=some c/\iW S c=true:=by have m:f∈jm:=Ws.1 h;have d:=Vp.1 q f m;have n:gP.contains f=true:=Vp.1 Om f m;have o:=(pZ g0).1 f (Ws.1 n);cases j:Tryz.prog.funcs[f]? with|none=>rw[j]at d;cases d|some g=>rw[j]at d;simp only[Yy,UT,WO,ne_eq]at d;obtain⟨p,a⟩:=d;cases b:g.body with|none=>rw[b]at a;cases a|some c=>rw[b]at a;simp only[Yy]at a;by_cases e:f=95;subst e;(simp only[UW]at a;have r:g=Tryz.f95:=Vd (j.symm.trans Tryz.func95);subst r;have e1:{Tryz.f95 with body:=some (ia c)}=ow:=by have:=GC;rw[b]at this;show{Tryz.f95 with body:=some (ia c)}={Tryz.f95 with body:=ow.body};rw[<-this];rfl);obtain h5|h5:=l.2;exact⟨_,c,by rw[wT,e1],h5,p,b,a⟩;obtain⟨c',k1,s⟩:=Lj;refine⟨ow,c',?_,h5,?_,k1,?_⟩;rw[wT,s,<-k1];have:=Lk;intro e;rw[e]at this;simp at this;rw[k1]at k;exact k;simp only[UG e]at a;refine⟨g,c,?_,(l.1 f n e).trans j,p,b,(ic a).2⟩;rw[(ic a).1,<-b];rw[uB]at o;exact(o e).trans j
def Q6:Zj->Bool
 | .agg c=>c.toList.all gp
 |v=>gp v
def Q7:Zj->Bool
 | .agg c=>c.toList.all gp
 | .tuple c=>c.toList.all Q6
 |v=>gp v
def A7{c}(h:c.toList.all gp=true):Plain (.agg c):=by intro G π;refine .Gy (aY.refl λx a=>pc x (Vp.1 h x (X0.2 a)) G π)
def IP(v)(h:Q6 v=true):Plain v:=by cases v with|agg c=>exact A7 h|_=>exact pc _ h
def IQ(v)(h:Q7 v=true):Plain v:=by cases v with|agg c=>exact A7 h|tuple c=>intro G π;exact .tuple' (aY.refl λx a=>IP x (Vp.1 h x (X0.2 a)) G π)|_=>exact pc _ h
def IS:(Tryz.prog.types.toList.all λi=>i.zero.all Q7)=true:=by kernel_rfl
def uD:dH Tryz.prog:=λt i z h a=>IN Tryz.prog.toTables (λt i h z a=>by have b:=Vp.1 IS i (X0.2 (VI h));rw[a]at b;exact IQ z b) t i h z a
def yF(fs):dH (ah Tryz.prog fs):=λt i z h a=>uD t i z h a
def bare:List Nat:=[164,196,198,208,211]
def Lo:(gP.all λi=>jm.contains i||bare.contains i)=true:=by kernel_rfl
def A8:(jm.all λi=>i !=74)=true:=by kernel_rfl
def WG{a b:String}(h:(a==b)=false):a≠b:=λe=>by subst e;simp at h
def Qv:(Tryz.f164.name== "runtime.NumGoroutine")=false:=by kernel_rfl
def Qw:(Tryz.f196.name== "runtime.NumGoroutine")=false:=by kernel_rfl
def Qx:(Tryz.f198.name== "runtime.NumGoroutine")=false:=by kernel_rfl
def Qy:(Tryz.f208.name== "runtime.NumGoroutine")=false:=by kernel_rfl
def Qz:(Tryz.f211.name== "runtime.NumGoroutine")=false:=by kernel_rfl
def RI:(Tryz.f74.name== "runtime.NumGoroutine")=false:=by kernel_rfl
def QA:Extern.findNext Tryz.f164=none:=by kernel_rfl
def QB:Extern.findNext Tryz.f196=none:=by kernel_rfl
def QC:Extern.findNext Tryz.f198=none:=by kernel_rfl
def QD:Extern.findNext Tryz.f208=none:=by kernel_rfl
def QE:Extern.findNext Tryz.f211=none:=by kernel_rfl
def RJ:Extern.find Tryz.f164=some Extern.AbiNoEscape.same:=by kernel_rfl
def RM:Extern.find Tryz.f196=some Extern.BytealgIndex.index:=by kernel_rfl
def RN:Extern.find Tryz.f198=some Extern.BytealgCount.count:=by kernel_rfl
def RP:Extern.find Tryz.f208=some (Extern.BytealgMakeNoZero.makeNoZero Tryz.f208.params Tryz.f208.resultTypes):=by kernel_rfl
def RQ:Extern.find Tryz.f211=some Extern.BytealgIndexByte.indexByte:=by kernel_rfl
def Oo:(Tryz.prog.globals.findIdx? (·.name== "internal/bytealg.MaxLen"))=some 2:=by kernel_rfl
def Oq{S Q fs}(b:Q.globals=Tryz.prog.globals)(d:S.dF 2=true){i}(f:bare.contains i=true):∃g,Tryz.prog.funcs[i]? =some g/\g.name≠ "runtime.NumGoroutine" /\g.body=none/\Extern.findNext g=none/\∃e,Extern.find g=some e/\∀(π:Ren Q.globals.size),(∀g,S.dF g=true->π g g)->∀(a A),VsR π a A->SR S (ah Q fs) Q VQ π (e a) (e A):=by (have h:i=164\/i=196\/i=198\/i=208\/i=211:=by simpa[bare]using f);obtain rfl|rfl|rfl|rfl|rfl:=h;exact⟨_,Tryz.func164,WG Qv,rfl,QA,_,RJ,λπ _ a A h=>Oi h⟩;exact⟨_,Tryz.func196,WG Qw,rfl,QB,_,RM,λπ j a A h=>Li j (λg c=>by rw[b,Oo]at c;cases c;exact d) h⟩;exact⟨_,Tryz.func198,WG Qx,rfl,QC,_,RN,λπ _ a A h=>Oj h⟩;exact⟨_,Tryz.func208,WG Qy,rfl,QD,_,RP,λπ _ a A h=>zO _ _ h⟩;exact⟨_,Tryz.func211,WG Qz,rfl,QE,_,RQ,λπ _ a A h=>Dh h⟩
def JM{S Q g0}(j:Q.globals=Tryz.prog.globals)(n:S.dF 2=true)(o:JL Q)(k:∀i,jm.contains i=true->S.ent i=true)(h74:S.stop 74=true\/Hw g0){f g}(h:(gl g0)[f]? =some g):S.ent f=true\/S.stop f=true\/Hw g\/(Q.funcs[f]? =some g/\g.name≠ "runtime.NumGoroutine" /\g.body=none/\Extern.findNext g=none/\∃e,Extern.find g=some e/\∀(π:Ren Q.globals.size),(∀g,S.dF g=true->π g g)->∀(a A),VsR π a A->SR S (ah Q (gl g0)) Q VQ π (e a) (e A)):=by
 rw[pD]at h;by_cases e:f=74;subst e;obtain h74|h74:=h74;exact .inr (.inl h74);cases c:Tryz.prog.funcs[74]? with|none=>rw[c]at h;cases h|some f=>rw[c]at h;simp at h;subst h;exact .inr (.inr (.inl h74))
 by_cases b:f=95;subst b;exact .inl (k 95 (by kernel_rfl))
 cases d:gP.contains f with
 |false=>cases c:Tryz.prog.funcs[f]? with|none=>rw[c]at h;cases h|some q=>rw[c]at h;simp only[Vv,UG e,UG b,d,U7,U5,Vw]at h;subst h;exact .inr (.inr (.inl ⟨rfl,rfl,rfl⟩))
 |true=>cases l:jm.contains f with|true=>exact .inl (k f l)|false=>have m:=Vp.1 Lo f (Ws.1 d);rw[l,Xu]at m;obtain⟨g',e1,p,e3,e4,x,e5,e6⟩:=Oq (S:=S) (fs:=gl g0) j n m;rw[e1]at h;simp only[Vv,UG e,UG b,d,UW,Vw]at h;subst h;exact .inr (.inr (.inr ⟨(o.1 f d b).trans e1,p,e3,e4,x,e5,e6⟩))
def FU{Q:Program}(d:dH Q)(a:Q.globals=Tryz.prog.globals)(b:Q.funcs.size=Tryz.prog.funcs.size)(c:JL Q)(e:Q.underlying ra=none):Tab mN Q (gl ov) where
 zero:=d
 bad:=e
 xT:=rfl
 size:=(uC _).trans b.symm
 ent f h:=by exact⟨rfl,On Ol Lm h ov c⟩
 stop f h:=by cases h
 rest f g h:=JM a rfl c (λ_ h=>h) (.inr ⟨rfl,rfl,rfl⟩) h
def tp(g):(gl g)[74]? =some g:=by rw[pD,Tryz.func74];rfl
def yG:Tryz.prog.underlying ra=none:=by kernel_rfl
def uE:JL Tryz.prog:=⟨λ_ _ _=>rfl,.inl Tryz.func95⟩
def FV:Tab hZ Tryz.prog (gl g74) where
 zero:=uD
 bad:=yG
 xT:=rfl
 size:=uC _
 ent f h:=by
  refine⟨?_,On Ok Ll h g74 uE⟩;have:=Vp.1 A8 f (Ws.1 h);have a:f≠74:=by simpa using this
  show(f==74)=false;simpa using a
 stop f h:=by
  have b:f=74:=by have h:(f==74)=true:=h;simpa using h
  subst b;exact⟨rfl,g74,Tryz.f74,tp _,Tryz.func74,WG (by kernel_rfl),WG RI,rfl,rfl⟩
 rest f g h:=JM rfl rfl uE (λ_ h=>h) (.inl rfl) h
def A9:Tab mN Tryz.prog (gl ov):=FU (Q:=Tryz.prog) uD (Eq.refl _) (Eq.refl _) uE yG
def Lp(P fs):(ah P fs).globals=P.globals:=rfl
def lG(P fs):(ah P fs).funcs=fs:=rfl
def Lr:Tab mN (ah Tryz.prog (gl g74)) (gl ov):=FU (yF _) (Lp _ _) (by rw[lG];exact uC _) ⟨λi b a=>by rw[lG];exact(uB _ _).symm.trans ((pZ g74).1 i (Ws.1 b) a),.inr (by rw[lG];exact wT _)⟩ ((jX _ _ _).trans yG)
def uF(g):mN.calm g:=λ_ _ _ h=>by cases h
def Bd(g):hZ.calm g:=λf h a b=>by (have c:=Vp.1 A8 f (Ws.1 a);have d:f≠74:=by simpa using c);have e:(f==74)=true:=b;exact absurd (by simpa using e) d
def FW:(gP.all λi=>(Tryz.prog.funcs[i]?).all λf=> !f.norace)=true:=by kernel_rfl
def IT:(gP.all λi=>(Tryz.prog.funcs[i]?).all λf=>(f.body.map readies).all (·.isEmpty))=true:=by kernel_rfl
def zQ:Tryz.prog.follows .staticDataAhead=true:=by kernel_rfl
def Ot{Q:Program}(b:∀f∈Q.funcs,f.norace=false)(d:Q.follows .staticDataAhead=true)(e:∀f∈Q.funcs,∀c,f.body=some c->(readies c).isEmpty=true):lx Q where
 norace f:=by
  cases a:Q.funcs[f]? with
  |none=>rfl
  |some g=>exact b g (VI a)
 follows:=d
 stepOf g:=by
  unfold Program.stepOf;rw[Array.findIdx?_eq_none_iff];intro f a;cases h:f.body with
  |none=>rfl
  |some c=>
   have:=e f a c h;simp only[Vv,Yy];cases i:readies c with
   |nil=>rfl
   |cons _ _=>rw[i]at this;cases this
def FX{g f}(h:f∈gl g):f=g\/f=ov\/f=ow\/∃i,i∈gP/\Tryz.prog.funcs[i]? =some f:=by obtain⟨i,a⟩:=XB.1 h;rw[pD]at a;cases b:Tryz.prog.funcs[i]? with|none=>rw[b]at a;cases a|some d=>rw[b]at a;simp only[Vv,Vw]at a;split at a;exact .inl a.symm;split at a;exact .inr (.inr (.inl a.symm));split at a;rename_i c;subst a;exact .inr (.inr (.inr ⟨i,Ws.1 c,b⟩));exact .inr (.inl a.symm)
def Ls:ow.norace=false:=by kernel_rfl
def Ou:(ow.body.map readies).all (·.isEmpty)=true:=by kernel_rfl
def QF:(readies A3).isEmpty=true:=by kernel_rfl
def IU:lx (ah Tryz.prog (gl g74)):=by refine Ot (λf a=>?_) zQ λf a c b=>?_;rw[lG]at a;obtain rfl|rfl|rfl|⟨i,d,a⟩:=FX a;rfl;rfl;exact Ls;have:=Vp.1 FW i d;rw[a]at this;simpa using this;rw[lG]at a;obtain rfl|rfl|rfl|⟨i,d,a⟩:=FX a;(have:c=A3:=by cases b;rfl);subst this;exact QF;cases b;have:=Ou;simp only[b,Vv]at this;exact this;have:=Vp.1 IT i d;rw[a]at this;simp only[Option.all_some,b,Vv]at this;exact this
def Lt:(jm.all λi=>(Tryz.prog.inits.idxOf? i).isNone)=true:=by kernel_rfl
def yH(f)(h:hZ.ent f=true):Tryz.prog.inits.idxOf? f=none:=Option.isNone_iff_eq_none.1 (Vp.1 Lt f (Ws.1 h))
def kJ:Tryz.prog.globals.size=5:=by kernel_rfl
def vv:0<Tryz.prog.globals.size:=by rw[kJ];decide
end Go.Tm

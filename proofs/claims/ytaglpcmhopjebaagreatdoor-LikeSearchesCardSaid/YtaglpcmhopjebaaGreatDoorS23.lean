import Derived.Conc.WalkWords
import Derived.Test.YtaglpcmhopjebaaGreatDoorS11
import Derived.Test.YtaglpcmhopjebaaGreatDoorS12
set_option linter.all false
set_option maxRecDepth 100000
set_option maxHeartbeats 20000000
namespace Go.Tm
open Go.Proofs Go.Conc
def SD:Array Oper:=#[{dst:=some 3,op:=.assign (.const (.bool false)),type:=4,pos:= "",after:=#[],guard:=none}]
def qy:Array Oper:=#[{dst:=some 3,op:=.assign (.const (.bool true)),type:=4,pos:= "",after:=#[],guard:=none},{dst:=some 4,op:=.move (.tmp 3),type:=4,pos:= "",after:=#[],guard:=none}]
def EY:Array Oper:=#[{dst:=some 5,op:=.makeInterface 125 (.tmp 0),type:=0,pos:= "",after:=#[],guard:=none},{dst:=none,op:=.defer {callee:=.builtin .panic,args:=#[.tmp 5],argTypes:=#[0]},type:=0,pos:= "",after:=#[],guard:=none},{dst:=none,op:=.panic (.tmp 5),type:=0,pos:= "",after:=#[],guard:=none}]
def nT:Array Oper:=#[{dst:=some 6,op:=.call {callee:=.value (.func 77),args:=#[.tmp 0],argTypes:=#[60]},type:=62,pos:= "",after:=#[],guard:=none},{dst:=some 7,op:=.call {callee:=.builtin .append,args:=#[.const (.slice none 0 0),.tmp 6],argTypes:=#[62,62]},type:=62,pos:= "",after:=#[],guard:=none},{dst:=some 2,op:=.assign (.tmp 7),type:=62,pos:= "",after:=#[],guard:=none}]
def uT:Code:=.seq (.cond (.tmp 4) .skip (.region 2 EY false)) (.seq (.region 3 nT false) .ret)
def Ay:Code:=.seq (.region 0 SD false) (.seq (.region 1 qy true) uT)
def g74:Func:={name:= "g",origin:= "",params:=#[125],resultTypes:=#[62],nfree:=0,ntmps:=8,results:=#[.tmp 2],body:=some Ay,norace:=false,tmpNames:=#[]}
def ik(v:Value):List PanicEntry:=[{v:=.iface 125 v,recovered:=false},{v:=.iface 125 v,recovered:=false}]
def Az(v):Off (ik v):=Tw 2
def LR(Q:Program)(n:Nat)(fr:Frame)(cs:List Frame)(w:World)(fr':Frame)(cs':List Frame)(w':World):Prop:=runN Q n (lone fr cs w)=.next (lone fr' cs' w')
def LR.refl{Q fr cs w}:LR Q 0 fr cs w fr cs w:=rfl
def LR.step{Q n fr fr' a cs cs' b w w' w2 es}(h:stepG Q true ⟨fr,cs,.running,none,none⟩ w=.go ⟨fr',cs',.running,none,none⟩ w' es)(k:LR Q n fr' cs' w' a b w2):LR Q (n+1) fr cs w a b w2:=by unfold LR runN;rw[step_lone_go (by rw[h];rfl)];exact k
def LR.trans{Q n m f c d cs a b w w1 w2}(h:LR Q n f cs w c a w1)(k:LR Q m c a w1 d b w2):LR Q (n+m) f cs w d b w2:=by unfold LR at*;rw[runN_add,h];exact k
def Hh(m t):Region.schedule m qy t=if t%2=0 then[0,1]else[1,0]:=by (have a:Region.departs qy=false:=by simp[Region.departs,qy]);unfold Region.schedule;rw[a];simp only[Vo,Bool.or_true,↓reduceIte];have e:List.range 2=[0,1]:=rfl;obtain h|h:=Xg t;rw[Tv h];simp[Region.linearise,Region.linearise.go,qy,e,h,WJ,Nat.mod_one];rw[Tu (by omega)];simp[Region.linearise,Region.linearise.go,qy,e,h,WJ,Nat.mod_one]
def ru{P main}{b:Frame}{a k cs w c ops}:stepG P main (G (b.at a (.code (.region c ops true)::k)) cs) w=.go (G (b.at a (.inRegion ops (Region.schedule (P.follows .mixedOrders) ops (w.tape w.drawn (.order b.fn c)))::k)) cs) w.drew:=by simp[G,stepG,stepG.exec,Frame.at,Question.forced,Question.cut]
def jo{P main}{b:Frame}{a k cs w c ops l}(h:List.range ops.size=l):stepG P main (G (b.at a (.code (.region c ops false)::k)) cs) w=.go (G (b.at a (.inRegion ops l::k)) cs) w:=by rw[<-h];exact stepG_region
def eh(f):(base f).kind≠ .early:=by intro h;cases h
section
variable {Q:Program} (h74:Q.funcs[74]? =some g74)
def gT(v a b c d e f:Value):Array Value:=#[v,bi,a,b,c,d,e,f]
def Hi(v:Value):Frame.enter Q 74 #[v] .normal=(base 74).at ⟨gT v bi bi bi bi bi bi,[]⟩ [.code Ay]:=by rw[enter_at (c:=Ay) #[v] h74 rfl];rfl
def Nh(v cs w):LR Q 5 ((base 74).at ⟨gT v bi bi bi bi bi bi,[]⟩ [.code Ay]) cs w ((base 74).at ⟨gT v bi (.bool false) bi bi bi bi,[]⟩ [.code (.region 1 qy true),.code uT]) cs w:=by refine .step stepG_seq ?_;refine .step (jo (l:=[0]) rfl) ?_;refine .step (stepG_value (v:=.bool false) (w':=w) rfl rfl (eh 74) rfl) ?_;refine .step stepG_region_end ?_;exact .step stepG_seq .refl
def pR(Q:Program)(fr:Frame)(cs:List Frame)(w:World)(K:Frame->List Frame->World->Prop):Prop:=∃n fr' cs' w',LR Q n fr cs w fr' cs' w'/\K fr' cs' w'
def pR.done{Q fr cs w K}(h:K fr cs w):pR Q fr cs w K:=⟨0,fr,cs,w,.refl,h⟩
def pR.step{Q fr fr' cs cs' w w' es K}(h:stepG Q true ⟨fr,cs,.running,none,none⟩ w=.go ⟨fr',cs',.running,none,none⟩ w' es)(k:pR Q fr' cs' w' K):pR Q fr cs w K:=by obtain⟨n,a,b,w2,c,d⟩:=k;exact⟨n+1,a,b,w2,.step h c,d⟩
def pR.jY{Q fr fr' cs cs' w w' K}(h:∃es,stepG Q true ⟨fr,cs,.running,none,none⟩ w=.go ⟨fr',cs',.running,none,none⟩ w' es)(k:pR Q fr' cs' w' K):pR Q fr cs w K:=h.elim λ_ h=>.step h k
def sR{P main}{b:Frame}{a k cs w ops i rest o d}(f:ops[i]? =some o)(g:Region.wanted o (yielded ops a.tmps)=true)(h:b.kind≠ .early) (j:(execOp a.eval o).run P w=.ok (.defer d) w):∃es,stepG P main (G (b.at a (.inRegion ops (i::rest)::k)) cs) w=.go (G (b.at (Act.put ⟨a.tmps,d::a.defers⟩ o.dst bi) (.inRegion ops rest::k)) cs) w es:=by (have e:(b.kind==CallKind.early)=false:=by simpa using h);(have c:({b.at a (.inRegion ops (i::rest)::k)with defers:=d::a.defers}:Frame).finish bi=b.at (Act.put ⟨a.tmps,d::a.defers⟩ o.dst bi) (.inRegion ops rest::k):=by have:=Frame.finish_at (b:=b) (a:=⟨a.tmps,d::a.defers⟩) (ops:=ops) (i:=i) (rest:=rest) (k:=k) bi;rw[f]at this;exact this);refine⟨listed P b.fn a o w,?_⟩;rw[stepG_oper f g,<-c];simp[stepG.apply,j,G,Frame.at,e,GStep.after,listed]
def sS{P:Program}{main:Bool}{b:Frame}{a:Act}{k:List Item}{cs:List Frame}{w:World}{ops:Array Oper}{i:Nat}{rest:List Nat}{o:Oper}{x:Value}(d:ops[i]? =some o)(e:Region.wanted o (yielded ops a.tmps)=true)(f:b.kind≠ .early) (g:(execOp a.eval o).run P w=.halt (.panic x) w):∃es,stepG P main (G (b.at a (.inRegion ops (i::rest)::k)) cs) w=.go (G {b.at a (.inRegion ops (i::rest)::k)with mode:=.panicking [{v:=x,recovered:=false}]} cs) w es:=by (have c:(b.kind==CallKind.early)=false:=by simpa using f);refine⟨listed P b.fn a o w,?_⟩;rw[stepG_oper d e];simp[stepG.apply,g,G,Frame.at,c,GStep.after,listed,Frame.raise]
def lh{P main fr cs w ds ts t bs}{x:Value}{ch}(a:fr.defers=⟨.builtin .panic ts t bs,#[x]⟩::ds)(b:fr.mode=.panicking ch)(c:∃T v,x=.iface T v):∃es,stepG P main ⟨fr,cs,.running,none,none⟩ w=.go ⟨{fr with defers:=ds,mode:=.panicking ({v:=x,recovered:=false}::ch)},cs,.running,none,none⟩ w es:=by (obtain⟨T,v,rfl⟩:=c;have d:(invoke (.builtin .panic ts t bs) #[.iface T v]).run P w=.halt (.panic (.iface T v)) w:=by simp[invoke,builtin,Instr.panic,goPanic]);refine⟨seen P fr.fn ((invoke (.builtin .panic ts t bs) #[.iface T v]).events P w #[]),?_⟩;simp[stepG,b,unwind,a,callDeferred,d,GStep.after,Frame.raise]
def SE(v cs w){d}(c:Q.underlying 125=some d)(e:∀x,d≠ .interface x)(h:w.tape w.drawn (.order 74 1)%2=1):pR Q ((base 74).at ⟨gT v bi (.bool false) bi bi bi bi,[]⟩ [.code (.region 1 qy true),.code uT]) cs w λa b w1=>b=cs/\w1=w.drew/\a.mode=.panicking (ik v)/\a.defers=[]:=by refine .step ru ?_;rw[show(base 74).fn=74 from rfl,Hh,Tu (by omega)];refine .step (stepG_value (v:=.bool false) (w':=w.drew) rfl rfl (eh 74) rfl) ?_;refine .step (stepG_value (v:=.bool true) (w':=w.drew) rfl rfl (eh 74) rfl) ?_;refine .step stepG_region_end ?_;show pR Q ((base 74).at ⟨gT v bi (.bool true) (.bool false) bi bi bi,[]⟩ [.code uT]) cs w.drew _;refine .step stepG_seq ?_;refine .step (stepG_cond (t:=false) rfl) ?_;refine .step (jo (l:=[0,1,2]) rfl) ?_;refine .step (stepG_value (v:=.iface 125 v) (w':=w.drew) rfl rfl (eh 74) ?_) ?_;show(do pure (.value (<-Instr.makeInterface 125 v)):Sem Next).run Q w.drew=_;(simp only[Instr.makeInterface,underlying];cases d with|interface x=>exact absurd rfl (e x)|_=>simp[c]);show pR Q ((base 74).at ⟨gT v bi (.bool true) (.bool false) (.iface 125 v) bi bi,[]⟩ (.inRegion EY [1,2]::[.code (.seq (.region 3 nT false) .ret)])) cs w.drew _;refine .jY (sR (d:=⟨.builtin .panic #[0] 0 #[false],#[.iface 125 v]⟩) rfl rfl (eh 74) ?_) ?_;show(do pure (.defer (<-resolve (Act.eval ⟨gT v bi (.bool true) (.bool false) (.iface 125 v) bi bi,[]⟩) {callee:=.builtin .panic,args:=#[.tmp 5],argTypes:=#[0]} 0)):Sem Next).run Q w.drew=_;simp[resolve,Act.eval,gT];show pR Q ((base 74).at ⟨gT v bi (.bool true) (.bool false) (.iface 125 v) bi bi,[⟨.builtin .panic #[0] 0 #[false],#[.iface 125 v]⟩]⟩ (.inRegion EY [2]::[.code (.seq (.region 3 nT false) .ret)])) cs w.drew _;refine .jY (sS (x:=.iface 125 v) rfl rfl (eh 74) rfl) ?_;refine .jY (lh (ds:=[]) (ts:=#[0]) (t:=0) (bs:=#[false]) (x:=.iface 125 v) (ch:=[{v:=.iface 125 v,recovered:=false}]) rfl rfl ⟨_,_,rfl⟩) ?_;exact .done ⟨rfl,rfl,rfl,rfl⟩
def gC(v:Value):Frame:=(base 74).at ⟨gT v bi (.bool true) (.bool true) bi bi bi,[]⟩ [.inRegion nT [0,1,2],.code .ret]
def P8(v cs w){fn}(b:Q.funcs[77]? =some fn)(a:(fn.name== "runtime.NumGoroutine")=false)(c:fn.body.isNone=false)(h:w.tape w.drawn (.order 74 1)%2=0):LR Q 10 ((base 74).at ⟨gT v bi (.bool false) bi bi bi bi,[]⟩ [.code (.region 1 qy true),.code uT]) cs w (Frame.enter Q 77 #[v] .normal) (gC v::cs) w.drew:=by (refine .step ru ?_;rw[show(base 74).fn=74 from rfl,Hh,Tv h];refine .step (stepG_value (v:=.bool true) (w':=w.drew) rfl rfl (eh 74) rfl) ?_;refine .step (stepG_value (v:=.bool true) (w':=w.drew) rfl rfl (eh 74) rfl) ?_;refine .step stepG_region_end ?_;show LR Q _ ((base 74).at ⟨gT v bi (.bool true) (.bool true) bi bi bi,[]⟩ [.code uT]) cs w.drew _ _ _;refine .step stepG_seq ?_;refine .step (stepG_cond (t:=true) rfl) ?_;refine .step stepG_skip ?_;refine .step stepG_seq ?_;refine .step (jo (l:=[0,1,2]) rfl) ?_;have e:(#[Operand.tmp 0]).map (Act.eval ⟨gT v bi (.bool true) (.bool true) bi bi bi,[]⟩)=#[v]:=by simp[Act.eval,gT]);refine .step (tZ rfl rfl (eh 74) rfl b a c) ?_;rw[e];exact .refl
def SF(v x V:Value)(C:Frame)(cs:List Frame)(w w':World)(a:(Builtin.append_ #[62,62] 62 #[.slice none 0 0,x]).run Q w=.ok V w'):LR Q 5 ((gC v).finish x) (C::cs) w (C.finish V) cs w':=by unfold gC;rw[Frame.finish_at];show LR Q _ ((base 74).at ⟨gT v bi (.bool true) (.bool true) bi x bi,[]⟩ [.inRegion nT [1,2],.code .ret]) (C::cs) w _ _ _;refine .step (stepG_value (v:=V) (w':=w') rfl rfl (eh 74) ?_) ?_;show(execOp (Act.eval ⟨gT v bi (.bool true) (.bool true) bi x bi,[]⟩) {dst:=some 7,op:=.call {callee:=.builtin .append,args:=#[.const (.slice none 0 0),.tmp 6],argTypes:=#[62,62]},type:=62,pos:= "",after:=#[],guard:=none}).run Q w=_;simp[execOp,resolve,invoke,builtin,Act.eval,gT,a];show LR Q _ ((base 74).at ⟨gT v bi (.bool true) (.bool true) bi x V,[]⟩ [.inRegion nT [2],.code .ret]) (C::cs) w' _ _ _;refine .step (stepG_value (v:=V) (w':=w') rfl rfl (eh 74) rfl) ?_;show LR Q _ ((base 74).at ⟨gT v V (.bool true) (.bool true) bi x V,[]⟩ [.inRegion nT [],.code .ret]) (C::cs) w' _ _ _;refine .step stepG_region_end ?_;refine .step stepG_ret' ?_;refine .step (stepG_leave (v:=V) rfl rfl h74 (results_tmp (t:=2) rfl _ _ _) (events_results_tmp (t:=2) rfl _ _)) ?_;exact .refl
end
end Go.Tm
namespace Go.Tm
open Go.Proofs Go.Conc Go.ConcN
def pH(dJ:World->Value->List Value->Prop):Prop:=∀w w' v L,dJ w v L->(∀(b:Nat) c e f,w.heap[b]? =some (.cells c e f)->w'.heap[b]? =some (.cells c e f))->dJ w' v L
def SG{w τ}(h:τ w.drawn=λ_=>1):(av w τ w.drawn).tape (av w τ w.drawn).drawn (.order 74 1)%2=1:=by have e:(av w τ w.drawn).tape (av w τ w.drawn).drawn=τ w.drawn:=rfl;rw[e,h];rfl
section
variable {S:Kn} {fs:Array Func} {Post:Value->World->Prop} {dJ:World->Value->List Value->Prop}
def Kj(o:fs[74]? =some g74){d}(u:Tryz.prog.underlying 125=some d)(y:∀x,d≠ .interface x)(p:pH dJ){f args F0} (i:∀τ,(∀n<F0.drawn,τ n=F0.tape n)->Calls (ai Tryz.prog fs) f args (av F0 τ F0.drawn) λe w'=>(∃v,e=.returned v/\Post v w')\/∃v L,e=.panicked (ik v)/\dJ w' v L):EX S fs dJ ⟨Frame.enter (ai Tryz.prog fs) f args .normal,[],F0⟩:=by
 intro c k v π z A B C j;obtain⟨D,⟨m,L,e1,E⟩,F,H⟩:=EW (S:=S) (Q:=ai Tryz.prog fs) (G:=Tryz.prog.globals.size) (f:=f) (g:=74) (args:=args) (a:=#[v]) (F0:=F0) (Post:=Post) (PreB:=λch w'=>∃m L,ch=ik m/\dJ w' m L) (ch0:=ik v)
  (λτ l=>(i τ l).mono λe w' h=>h.imp id λ⟨v,L,q,r⟩=>⟨_,Az v,q,v,L,rfl,r⟩) z A π B C j (λcs τ l=>by have h:=SE (Q:=ai Tryz.prog fs) v cs (av c.w τ c.w.drawn) ((aK Tryz.prog fs 125).trans u) y (SG (l _ (Tw _)));obtain⟨n,s,I,w1,q,rfl,rfl,r,J⟩:=h;refine⟨5+n,s,(av c.w τ c.w.drawn).drew,?_,r,J,rfl⟩;rw[Hi (Q:=ai Tryz.prog fs) o];exact(Nh v _ _).trans q)
 have:m=v:=by simp only[ik,Wr,PanicEntry.mk.injEq,Value.iface.injEq]at e1;exact e1.1.1.2.symm
 subst this;exact⟨L,p D c.w m L E λb K e M t=>by obtain h|h:=H b;rw[<-h];exact t;rw[h]at t;cases t⟩
end
section
variable {S:Kn} {fs:Array Func} {Post PostR:Value->World->Prop} {dJ:World->Value->List Value->Prop}
def law_ends(t:Tab S Tryz.prog fs)(l:∀g,S.calm g)(u:∀f,S.ent f=true->Tryz.prog.inits.idxOf? f=none)(y:0<Tryz.prog.globals.size)(z:fs[74]? =some g74){d}(P:Tryz.prog.underlying 125=some d)(Q:∀x,d≠ .interface x) (A:pH dJ) (C:nD S fs Post dJ) (D:uf S dJ) {Pr} {f:FuncId} (M:S.ent f=true) {args} {W} {B} (R:∀b,B b->∃o,W.heap[b]? =some o/\((∃c e F,o=.cells c e F)\/(∀c e F,o≠ .cells c e F)/\fR S (idR Tryz.prog.globals.size B) o o)) (r:∀b,Pr b->B b/\∃c e F,W.heap[b]? =some (.cells c e F)) (m:∀v V w' E (n),Post v w'->az n v V->bq S Pr n w' E->iR Pr (idR Tryz.prog.globals.size B) W n E->PostR V E) (T:Tryz.prog.globals.size<=W.heap.size) (N:∃c e F,W.heap[0]? =some (.cells c e F)) (U:∀g,S.dB g=true->B g) (X:∀x∈args,az (idR Tryz.prog.globals.size B) x x) (p:∀w,w.heap=(db (idR Tryz.prog.globals.size B) Pr W).heap->Calls (ai Tryz.prog fs) f args w λe w'=>(∃v,e=.returned v/\Post v w')\/∃v L,e=.panicked (ik v)/\dJ w' v L):de Tryz.prog PostR (crowd #[G (Frame.enter Tryz.prog f args .normal) []] W none) #[]:=by
 let F0:World:=av (db (idR Tryz.prog.globals.size B) Pr W) (λ_ _=>0) 0;have a:∀τ,Calls (ai Tryz.prog fs) f args (av F0 τ F0.drawn) λe w'=>(∃v,e=.returned v/\Post v w')\/∃v L,e=.panicked (ik v)/\dJ w' v L:=λτ=>p _ rfl;have q:Gd S (ai Tryz.prog fs) Post ⟨Frame.enter (ai Tryz.prog fs) f args .normal,[],F0⟩:=Cb (λ_ _=>my) λτ _=>(a τ).mono λe w' h=>h.imp id λ⟨v,L,k,_⟩=>⟨_,Az v,k⟩
 have s:=(t.ent f M).1;have H:bf S (idR Tryz.prog.globals.size B) (Frame.enter (ai Tryz.prog fs) f args .normal) (Frame.enter Tryz.prog f args .normal):=by rcases tU (π:=idR Tryz.prog.globals.size B) t f (.inr M) (λx=>by rw[s]at x;cases x) (o7 X) (cs:=[aH]) (by simp)with h|⟨_,g,a1,A1,k,_,h3,_⟩;exact h;have e:=T7 Frame.fn h3;have e:f=g:=e;rw[<-e,s]at k;cases k
 have Y:bq S Pr (idR Tryz.prog.globals.size B) F0 W:=(kD (S:=S) (Pr:=Pr) (λb Z=>by obtain⟨o,k,h2⟩:=R b Z;exact⟨o,k,h2.imp id λh=>⟨λI=>by obtain⟨_,c,e,F,O⟩:=r b I;rw[k]at O;cases O;exact h.1 _ _ _ rfl,h.1,h.2⟩⟩) (λb h=>(r b h).1) T N).heap rfl rfl;have J:Cp S Tryz.prog fs Pr Post (idR Tryz.prog.globals.size B) ⟨Frame.enter (ai Tryz.prog fs) f args .normal,[],F0⟩ (Frame.enter Tryz.prog f args .normal) [] W:=⟨H,.nil,Y,xY,q,λg h=>⟨rfl,U g h⟩⟩
 have I:=past_nil.mono (TE W.heap.size);exact join t l u y m (Kj z P Q A λτ _=>a τ) C D q.Tq 0 _ _ _ W _ none #[] (λ_=>False) (λ_=>False) (.refl q.1) (λ_ h=>h.elim) (iR.refl _ _ _) J
  ⟨rfl,⟨λ_=>0,λi g N k=>by
   have:i<1:=by simpa using(TC.1 k).1
   omega,λj _=>rfl⟩,I,λop K=>by simp at K⟩ λb h=>h.elim
end
def de.and{P A B m t}(h:de P A m t)(k:de P B m t):de P (λv w=>A v w/\B v w) m t:=by (obtain⟨N,last,o,w',g,b,a,i,j⟩:=h;obtain⟨M,c,l,w2,x,k1,f,y,n⟩:=k;have e:N=M:=by obtain hlt|p|hlt:=Wx N M;(obtain⟨d,rfl⟩:∃d,M=N+1+d:=⟨M-(N+1),by omega⟩);(rw[runN_add]at f;have:runN P (N+1) m=.ended o w':=by rw[<-runNT_fst P (N+1) m t,b]);rw[this]at f;cases f;exact p;(obtain⟨d,rfl⟩:∃d,N=M+1+d:=⟨N-(M+1),by omega⟩);(rw[runN_add]at a;have:runN P (M+1) m=.ended l w2:=by rw[<-runNT_fst P (M+1) m t,k1]);rw[this]at a;cases a);subst e;rw[b]at k1;cases k1;obtain⟨v,rfl,q,r⟩:=j;obtain⟨v2,s,u,_⟩:=n;cases s;exact⟨N,last,_,w',g,b,a,i,v,rfl,⟨q,u⟩,r⟩
end Go.Tm
namespace Go.Tm
section
variable {S:Kn} {P:Program} {fs:Array Func}
def jump(E:Tab S P fs)(W:kT P)(l:∀f,S.stop f=false)(r:∀g,S.calm g){R:Value->World->Prop}{f:FuncId}{a ag C cs w wg}{π:Ren P.globals.size} (hf:S.ent f=true) (ha:VsR π ag a) (hw:bq S (λ_=>False) π wg w) (s:∀g,S.dB g=true->π g g) (τ) (aa:∀n<w.drawn,τ n=w.tape n) (hc:Calls P f a (av w τ w.drawn) λe w'=>∃v,e=.returned v/\R v w') (t:∀j,j.heap=wg.heap->Calls (ai P fs) f ag j λe w'=>∃v,e=.returned v):∃V w' N,R V w'/\w'.tape=τ/\w.drawn<=w'.drawn/\∀σ,(∀n<w'.drawn,σ n=τ n)->LR P N (Frame.enter P f a .normal) (C::(cs++[aH])) (av w σ w.drawn) (C.finish V) (cs++[aH]) (av w' σ w'.drawn):=by (have F:=oZ (Post:=λ_ _=>True) E l hf ha (hw.heap (Y1:=av w τ w.drawn) rfl rfl) s λj z=>(t j z).mono λe w' ⟨v,h⟩=>⟨v,h,True.intro⟩);(obtain⟨ab,c',G,W',n,H,X,Y,h4,Z⟩:=F.run E W l λn hn=>r _;obtain⟨e,w2,I,⟨v2,rfl,hR⟩,⟨A,p⟩,_,B⟩:=hc [aH];have d:=Z [aH] τ λ_ _ _=>rfl;simp only[Vy]at d;have J:av (av w τ w.drawn) τ (av w τ w.drawn).drawn=av w τ w.drawn:=rfl;have K:av W' τ W'.drawn=W':=by have:=Y.tape;rw[show τ=W'.tape from this.symm];rfl);(rw[J,K]at d;have u:G=I/\W'=w2:=by obtain hlt|rfl|hlt:=Wx n A;exfalso;(have x:=gP P d p (Ws hlt);obtain⟨k,L⟩:∃k,A-n=k+1:=⟨A-n-1,by omega⟩);rw[L]at x;obtain⟨_,v0,V,w3,y,ev,M,_,_,i,_⟩:=H.returns E X aH [] true;unfold runN at x;rw[step_lone_go (by rw[i];rfl)]at x;exact Ei k _ x;rw[d]at p;obtain⟨O,_,Q⟩:=jD (Stepped.next.inj p);exact⟨O,Q⟩;exfalso;(have x:=gP P p d (Ws hlt);obtain⟨k,L⟩:∃k,n-A=k+1:=⟨n-A-1,by omega⟩);rw[L]at x;exact gone B x);(obtain⟨rfl,rfl⟩:=u;obtain⟨_,v0,V,w3,y,ev,M,_,_,i,_,_,_,T⟩:=H.returns E X C (cs++[aH]) true;have m:=step_leave_returned (c:=C) (cs:=cs++[aH]) B;have q:=step_lone_go (P:=P) (fr:=G) (cs:=C::(cs++[aH])) (w:=W') (fr':=C.finish V) (cs':=cs++[aH]) (w':=y) (by rw[i];rfl);rw[q]at m;obtain⟨O,_,Q⟩:=jD (Stepped.next.inj m);subst Q;rw[O]at i;have o:=H.calm;have D:=uN W true o.1 o.2.1 o.2.2 i rfl rfl (uO T);refine⟨v2,y,n+1,hR,Y.tape,h4,λσ U=>?_⟩;have hA:Agr (av w τ w.drawn) y.drawn σ:=λn _ b=>U n b;have hB:=Z (C::cs++[aH]) σ hA;unfold LR;rw[runN_add];have:runN P n (lone (Frame.enter P f a .normal) (C::(cs++[aH])) (av w σ w.drawn))=.next (lone G (C::cs++[aH]) (av y σ y.drawn)):=hB);rw[this];show runN P 1 _=_;unfold runN;rw[VN,step_lone_go (by rw[D.2.2 σ λn a b=>by omega];rfl)];rfl
end
end Go.Tm
namespace Go.Tm
open Go.Proofs Go.Conc Go.ConcN
def R77(L:List Value)(w:World)(x:Value)(w':World):Prop:=w.heap.size<=w'.heap.size/\(∀b,b<w.heap.size->w'.heap[b]? =w.heap[b]?)/\((L=[]/\x=.slice none 0 0)\/(L≠[]/\∃a c,x=.slice (some a) L.length c/\∀j u,(bz L)[j]? =some u->w'.cell? (a.add j)=some u))
def nU(L)(d:∀v∈L,∃a b c,v=fA a b c):(bz L).length=L.length*3:=by induction L with|nil=>rfl|cons v L f=>(obtain⟨a,b,c,rfl⟩:=d v (.head _);have:=f λx g=>d x (.tail _ g);have e:bz (fA a b c::L)=[.int .i64 a,.int .i64 b,.int .i64 c]++bz L:=by simp[bz,fA,Value.cells]);rw[e,TR,this];simp only[TA,TN];omega
def pI(w:World)(k:Nat):Nat->Question->Nat:=λn=>if n<w.drawn then w.tape n elseλq=>match q with| .appendCap .. =>k|_=>0
def EZ{w k n}(h:n<w.drawn):pI w k n=w.tape n:=Tv h
def zg{w k n}(h:w.drawn<=n)(f i:Nat):pI w k n (.order f i)=0:=by unfold pI;rw[Tu (by omega)]
def E0{w k n}(h:w.drawn<=n)(a b e):pI w k n (.appendCap a b e)=k:=by unfold pI;rw[Tu (by omega)]
def SH{w σ}(h:σ w.drawn (.order 74 1)=0):(av w σ w.drawn).tape (av w σ w.drawn).drawn (.order 74 1)%2=0:=by have e:(av w σ w.drawn).tape (av w σ w.drawn).drawn=σ w.drawn:=rfl;rw[e,h]
def o8{P t ty e i}(a:P.underlying t=some (.slice e))(b:P.info? e=some i)(w):(Builtin.append_ #[t,t] ty #[.slice none 0 0,.slice none 0 0]).run P w=.ok (.slice none 0 0) w:=by simp[Builtin.append_,run_underlying a,sizeOf,typeInfo,b,Builtin.lenOf,run_firstCells_none]
def underlying62:Tryz.prog.underlying 62=some (.slice 66):=by kernel_rfl
section
variable {S i1:Kn} {fs fs1:Array Func} {Post:Value->World->Prop} {dJ:World->Value->List Value->Prop}
def E1(U:fs[74]? =some g74){fn}(ay:fs[77]? =some fn)(D:(fn.name== "runtime.NumGoroutine")=false)(q:fn.body.isNone=false) (ht:Tab i1 (ai Tryz.prog fs) fs1) (hP:kT (ai Tryz.prog fs)) (E:∀f,i1.stop f=false) (G:∀g,i1.calm g) (W:i1.ent 77=true) (X:pH dJ) (hG:∀w v L,dJ w v L->Tryz.prog.globals.size<=w.heap.size) (hL:∀w v L,dJ w v L->L.length<1000/\∀x∈L,∃a b c,x=fA a b c) (Y:∀w v L,dJ w v L->∀g,i1.dB g=true->∃c e F,w.heap[g]? =some (.cells c e F)) (H:∀w v L,dJ w v L->dJ (db (idR Tryz.prog.globals.size λb=>∃c e F,w.heap[b]? =some (.cells c e F)) (λ_=>False) w) v L/\az (idR Tryz.prog.globals.size λb=>∃c e F,w.heap[b]? =some (.cells c e F)) v v) (hc:∀w v L,dJ w v L->Calls (ai Tryz.prog fs) 77 #[v] w λe w'=>∃x,e=.returned x/\R77 L w x w') (I:∀w v L,dJ w v L->Calls (ai (ai Tryz.prog fs) fs1) 77 #[v] w λe w'=>∃x,e=.returned x):nD S fs Post dJ:=by
 intro c v C cs L cap e1 e2 b1 hp Z;obtain⟨τ,o⟩:=ex (pI c.w (cap-L.length));have aa:∀n,n<c.w.drawn->τ n=c.w.tape n:=λn t=>by rw[o];exact EZ t
 have B:∀n,c.w.drawn<=n->∀f i,τ n (.order f i)=0:=λn t f i=>by rw[o];exact zg t f i
 have ab:∀n,c.w.drawn<=n->∀a b e,τ n (.appendCap a b e)=cap-L.length:=λn t a b e=>by rw[o];exact E0 t a b e
 clear o;obtain⟨W1,p⟩:=ex (av c.w τ (c.w.drawn+1));have l:W1.heap=c.w.heap:=by rw[p];rfl
 have ad:W1.drawn=c.w.drawn+1:=by rw[p];rfl
 have aM:W1.tape=τ:=by rw[p];rfl
 have a6:∀σ d,av W1 σ d=av c.w σ d:=λσ d=>by rw[p];rfl
 have a7:av W1 τ W1.drawn=W1:=by rw[p];rfl
 clear p;have r:=X _ _ v L hp λb cc e F q=>by rw[l];exact q
 obtain⟨a8,ba⟩:=H W1 v L r;have bb:=hG W1 v L r;obtain⟨x,w2,N,hR,af,bk,J⟩:=jump (w:=W1) (C:=gC v) (cs:=C::cs) (τ:=τ) ht hP E G (R:=R77 L W1) (a:=#[v]) (ag:=#[v]) (wg:=db (idR Tryz.prog.globals.size λb=>∃c e F,W1.heap[b]? =some (.cells c e F)) (λ_=>False) W1)
  (π:=idR Tryz.prog.globals.size λb=>∃c e F,W1.heap[b]? =some (.cells c e F)) W (aY.refl λy hy=>by simp at hy;subst hy;exact ba)
  (kD (λb q=>by obtain⟨cc,e,F,h⟩:=q;exact⟨_,h,.inl ⟨cc,e,F,rfl⟩⟩) (λ_ h=>h.elim) bb (Y W1 v L r 0 ht.xq)) (λg hg=>⟨rfl,Y W1 v L r g hg⟩) (λn t=>by rw[aM])
  (by rw[a7];exact hc W1 v L r) (λah ak=>I ah v L (X _ _ v L a8 λb cc e F q=>by rw[ak];exact q))
 have b0:=ad▸bk;have K:∀σ:Nat->Question->Nat,σ c.w.drawn=τ c.w.drawn->LR (ai Tryz.prog fs) 15 c.fr (C::cs++[aH]) (av c.w σ c.w.drawn) (Frame.enter (ai Tryz.prog fs) 77 #[v] .normal) (gC v::(C::cs++[aH])) (av c.w σ (c.w.drawn+1)):=by (intro σ m;rw[e1,Hi (Q:=ai Tryz.prog fs) U];have h0:σ c.w.drawn (.order 74 1)=0:=by rw[m];exact B _ (Tw _) 74 1);have a1:=Nh (Q:=ai Tryz.prog fs) v (C::cs++[aH]) (av c.w σ c.w.drawn);have a2:=P8 (Q:=ai Tryz.prog fs) v (C::cs++[aH]) (av c.w σ c.w.drawn) ay D q (SH h0);have a3:=a1.trans a2;exact a3
 have M:∀n,c.w.drawn<=n->S.gi (τ n):=λn t f i _=>B n t f i;obtain⟨z,an,bm⟩:=hR;have key:∀(V:Value) (w3:World) (d:Nat),w2.drawn<=d->w3.drawn=d->w3.tape=τ->(∀σ:Nat->Question->Nat,(∀n<d,σ n=τ n)->(Builtin.append_ #[62,62] 62 #[.slice none 0 0,x]).run (ai Tryz.prog fs) (av w2 σ w2.drawn)=.ok V (av w3 σ d))->
  Nxs S (ai Tryz.prog fs) c ⟨C.finish V,cs,w3⟩ (15+(N+5)):=by
  intro V w3 d hd e3 e4 ao;refine⟨by show c.w.drawn<=w3.drawn;omega,λk hk=>by show S.gi (w3.tape k);rw[e4];exact M k hk,λk hk=>by show w3.tape k=_;rw[e4];exact aa k hk,λσ m=>?_⟩;have s:∀n<d,σ n=τ n:=λn t=>by rw[m n (by show n<w3.drawn;omega)];show w3.tape n=_;rw[e4]
  have h1:=K σ (s _ (by omega));have h2:=J σ λn t=>s n (by omega);rw[a6,ad]at h2;have h3:=SF (Q:=ai Tryz.prog fs) U v x V C (cs++[aH]) _ _ (ao σ s);rw[e2];show LR _ _ _ _ _ _ _ (av w3 σ w3.drawn);rw[e3];exact h1.trans (h2.trans h3)
 obtain⟨bo,rfl⟩|⟨O,a,cx,rfl,A⟩:=bm;refine⟨.slice none 0 0,w2,15+(N+5),by omega,key _ w2 w2.drawn (Tw _) rfl af λσ _=>?_,l▸z,λb q=>by rw[<-l];exact an b (l▸q),.inl ⟨bo,rfl⟩⟩;obtain⟨i,T,_⟩:=np;exact o8 ((aK _ _ _).trans underlying62) ((tt _ _ _).trans T) _;obtain⟨b2,br⟩:=Z O;obtain⟨b3,bs⟩:=hL _ _ _ hp;obtain⟨i,T,bx,bA,bB⟩:=np;have ar:=UF.2 O;have bC:=nU L bs;have ax:∀σ:Nat->Question->Nat,(∀n<w2.drawn+1,σ n=τ n)->grownCap (av w2 σ w2.drawn) L.length 0 66=cap:=by intro σ m;show(Question.appendCap L.length 0 66).cut (σ w2.drawn (.appendCap L.length 0 66))=cap;rw[m _ (by omega)];show L.length+τ w2.drawn (.appendCap L.length 0 66)% (2 ^ 63-L.length)=cap;rw[ab _ (by omega)];rw[Nat.mod_eq_of_lt (by simp only[maxLen]at br;omega)];omega
 have ez:(Builtin.zeroCells (fA 0 0 0).cells (cap-L.length)).toList=cP kp (cap-L.length):=mO _ _;have ec:(bz L).toArray++Builtin.zeroCells (fA 0 0 0).cells (cap-L.length)=(bz L++cP kp (cap-L.length)).toArray:=by apply V5;simp[ez]
 refine⟨.slice (some ⟨w2.heap.size,0,none⟩) L.length cap,(w2.drew.alloc (.cells (bz L++cP kp (cap-L.length)).toArray 66)),15+(N+5),by omega,key _ _ (w2.drawn+1) (by omega) rfl (by rw[<-af];rfl) λσ m=>?_,?_,λb q=>?_,.inr ⟨w2.heap.size,O,l▸z,rfl,?_⟩⟩;have:=run_append_nil (P:=ai Tryz.prog fs) (av w2 σ w2.drawn) 62 62 66 i (fA 0 0 0) ((aK _ _ _).trans underlying62) ((tt _ _ _).trans T) bx a L.length cx (bz L) (by rw[bC,bA]) (λj u hu=>A j u hu) ar (by omega) (by rw[bB];omega);rw[ax σ m,ec]at this;exact this;rw[l]at z;simp;omega;rw[heap_alloc_old w2.drew _ (show b<w2.drew.heap.size by rw[l]at z;show b<w2.heap.size;omega)];rw[<-l];exact an b (l▸q);exact heap_alloc_new w2.drew _
end
def qz{G}{π:Ren G}{c C}(h:VsR π c C)(b:∀x∈c,(∃k n,x=.int k n)):C=c:=by obtain⟨d,f⟩:=h;refine VF d.symm λi g a=>?_;have a1:=TW g;have j:=TW a;obtain⟨k,n,e⟩:=b c[i] (VG a);have:=f i _ _ j a1;rw[e]at this⊢;generalize C[i]=x at this;cases this;rfl
def E2{G}{π:Ren G}(h){v}(f:az π (.tuple #[.agg (oY h),.bool h.isSome]) v):v=.tuple #[.agg (oY h),.bool h.isSome]:=by cases f with| @tuple _ C g d=>(have b:C.size=2:=g.symm;have e:=d 0 (.agg (oY h)) (C[0]'(by omega)) rfl (TW _);have c:=d 1 (.bool h.isSome) (C[1]'(by omega)) rfl (TW _);have e1:C[1]'(by omega)=.bool h.isSome:=by generalize C[1]'(by omega)=x at c;cases c;rfl);(have e0:C[0]'(by omega)=.agg (oY h):=by generalize C[0]'(by omega)=x at e;cases e with| @agg _ D ds j=>(have:D=oY h:=qz ⟨ds,j⟩ λx a=>by unfold oY at a;cases h with|none=>simp at a;exact⟨_,_,a⟩|some y=>simp at a;rcases a with rfl|rfl|rfl<;>exact⟨_,_,rfl⟩);rw[this]);(have:C=#[.agg (oY h),.bool h.isSome]:=by refine VF b λi c k=>?_;have:i<2:=k;match i,this with|0,_=>exact e0|1,_=>exact e1);rw[this]
section
variable {S:Kn} {fs:Array Func}
def Kk(A:Tab S Tryz.prog fs)(k:∀f,S.stop f=false)(l:∀g,S.calm g)(o:S.ent 125=true){W Kold sc}{n:Nat}{H} (p:∀g,S.dB g=true->Kold g/\∃c e F,W.heap[g]? =some (.cells c e F)) (D:Tryz.prog.globals.size<=W.heap.size) (m:∀B,(∀b,Kold b->(∃c e F,W.heap[b]? =some (.cells c e F))->B b)->az (idR Tryz.prog.globals.size B) (.agg sc) (.agg sc)) (E:∀i,i<n->∀(w u) (B fz),(∀b,Kold b->u.heap[b]? =W.heap[b]?)->(∀b,Kold b->(∃c e F,W.heap[b]? =some (.cells c e F))->B b)->w.heap=(db (idR Tryz.prog.globals.size B) fz u).heap->Calls (ai Tryz.prog fs) 125 #[.agg sc,.int .i64 i] w λe w'=>e=.returned (.tuple #[.agg (oY (H i)),.bool (H i).isSome])/\∀b,b<w.heap.size->w'.heap[b]? =w.heap[b]?):xX W Kold sc n H:=by (intro i G Wg K w' k1 I a r j Q C cs q;have s:Wg<w'.heap.size:=by obtain⟨st,sm,h⟩:=a;exact(TC.1 (show w'.heap[Wg]? =some _ from h)).1);(have d:∀b,Kold b->(∃c e F,W.heap[b]? =some (.cells c e F))->K b/\∃c e F,w'.heap[b]? =some (.cells c e F):=λb y ⟨c,e,F,h⟩=>⟨k1 b y,c,e,F,(j b y).trans h⟩);(refine Pn (V:=.tuple #[.agg (oY (H i)),.bool (H i).isSome]) A k l o (Tx D r) (λg z=>d g (p g z).1 (p g z).2) I s a (λx t=>?_) (λπ v J=>E2 _ J) (λfz w L=>E i G w w' _ fz j d L) Q C cs q;have t:x=.agg sc\/x=.int .i64 i:=by simpa using t);obtain rfl|rfl:=t;exact m _ d;exact .int _ _
def Hj(ht:Tab S Tryz.prog fs)(z:∀f,S.stop f=false)(A:∀g,S.calm g)(J:S.ent 128=true){W Kold sc n H Srt} (L:∀g,S.dB g=true->Kold g/\∃c e F,W.heap[g]? =some (.cells c e F)) (hG:Tryz.prog.globals.size<=W.heap.size) (D:∀B,(∀b,Kold b->(∃c e F,W.heap[b]? =some (.cells c e F))->B b)->az (idR Tryz.prog.globals.size B) (.agg sc) (.agg sc)) (N:∀d,Kh n H d->(Srt d).length=d.length/\∀v∈Srt d,∃a b c,v=fA a b c) (hA:∀d,Kh n H d->∀(w W') (B fz) (k) (N0),(∀b,Kold b->W'.heap[b]? =W.heap[b]?)->(∀b,Kold b->(∃c e F,W.heap[b]? =some (.cells c e F))->B b)->lJ W' N0 66 kp k d.length (bz d)->(∀g,k.ownBlock=some g->B g/\¬fz g/\¬Kold g)->w.heap=(db (idR Tryz.prog.globals.size B) fz W').heap->Calls (ai Tryz.prog fs) 128 #[k,.func (.func 129) #[.agg sc] #[]] w λe w'=>e=.returned k/\(∀g cap,k=.slice (some ⟨g,0,none⟩) d.length cap->w'.heap[g]? =some (.cells (bz (Srt d)++cP kp (cap-d.length)).toArray 66 (0,0)))/\∀b,b<w.heap.size->k.ownBlock≠some b->w'.heap[b]? =w.heap[b]?):ue W Kold sc n H Srt:=by
 intro d hh Wg N0 K M w' k kK kl aa m ab y j p Q C cs P;have ad:Wg<w'.heap.size:=by obtain⟨st,sm,h⟩:=m;exact(TC.1 (show w'.heap[Wg]? =some _ from h)).1
 have q:∀b,Kold b->(∃c e F,W.heap[b]? =some (.cells c e F))->K b/\∃c e F,w'.heap[b]? =some (.cells c e F):=λb s ⟨c,e,F,h⟩=>⟨(kK b s).1,c,e,F,(y b s).trans h⟩
 have u:∀b,k.ownBlock=some b->K b/\∃c e F,w'.heap[b]? =some (.cells c e F):=λb s=>by refine⟨(p b s).1,?_⟩;obtain⟨rfl,_⟩|⟨g,cap,rfl,_,r,_⟩:=j.2;cases s;cases s;exact⟨_,_,_,r⟩
 obtain⟨E,R⟩:=N d hh;have af:=nU (Srt d) R;refine Nd (O:=λb=>k.ownBlock=some b) (Post:=λv w=>v=k/\∀g cap,k=.slice (some ⟨g,0,none⟩) d.length cap->w.heap[g]? =some (.cells (bz (Srt d)++cP kp (cap-d.length)).toArray 66 (0,0)))
  (T:=λV h=>V=k/\∀g cap,k=.slice (some ⟨g,0,none⟩) d.length cap->h g=some (.cells (bz (Srt d)++cP kp (cap-d.length)).toArray 66 (0,0)))
  ht z A J (Tx hG ab) (λg r=>q g (L g r).1 (L g r).2) kl ad m aa (λb s=>(p b s).2.1) u (λx hx=>?_) (λPr π v V w G ag hp hv hw h ah=>?_) (λfz w ak hw=>?_) Q C cs (λK' M' G V _ _ _ hT hO=>?_)
 have hx:x=k\/x=.func (.func 129) #[.agg sc] #[]:=by simpa using hx
 obtain rfl|rfl:=hx;obtain⟨rfl,_⟩|⟨g,cap,rfl,_,r,_⟩:=j.2;exact .iM 0 0;exact .slice _ _ (.mk ⟨rfl,u g rfl⟩);have an:=D _ q
 exact .func (.func 129 (by decide)) rfl (λi x X t I=>by
  match i with
  |0=>simp at t I;subst t I;exact an
  |i+1=>simp at t) rfl (λi x X t I=>by simp at t)
 obtain⟨rfl,ao⟩:=hp;obtain⟨rfl,_⟩|⟨g,cap,rfl,_,r,_⟩:=j.2;cases hv;exact⟨rfl,λg cap e=>by cases e⟩;have U:=ag g g ⟨rfl,u g rfl⟩;have hV:V=.slice (some ⟨g,0,none⟩) d.length cap:=by cases hv with|slice l c ha=>cases ha with|mk hr=>rw[π.fn _ _ _ hr U]
 refine⟨hV,λg' a1 e=>?_⟩;cases e;rw[ah g rfl];obtain⟨o,O,t,I,h3⟩:=hw.obj g g U;rw[ao g cap rfl]at t;cases t;rw[I];cases h3 with| @cells _ CC _ _ F ar ax=>have:CC=_:=qz ar λx hx=>?_;rw[this];obtain rfl|⟨_,h,_⟩:=ax;rfl;exact absurd h (TL _);(have hx:x∈bz (Srt d)++cP kp (cap-d.length):=by simpa using hx);obtain hx|hx:=UU.1 hx;obtain⟨v,hv,Y⟩:=WK.1 hx;obtain⟨a,b,c,rfl⟩:=R v hv;simp[fA,Value.cells]at Y;rcases Y with rfl|rfl|rfl<;>exact⟨_,_,rfl⟩;obtain⟨l,hl,Z⟩:=WY.1 hx;have:=W4 hl;subst this;simp[kp]at Z;subst Z;exact⟨_,_,rfl⟩
 refine(hA d hh w w' _ fz k N0 y q j (λg r=>⟨u g r,ak g r,(p g r).2.2⟩) hw).mono λe G ⟨t,I,h3⟩=>⟨k,t,⟨rfl,I⟩,λb s ho=>h3 b s ho⟩
 obtain⟨rfl,ay⟩:=hT;refine P K' M' G V ⟨⟨by rw[af];rfl,?_⟩,hO⟩;obtain⟨rfl,h0⟩|⟨g,cap,rfl,hN,r,a6,aM,a7⟩:=j.2;exact .inl ⟨rfl,by rw[E,h0]⟩;refine .inr ⟨g,cap,by rw[E],hN,?_,by omega,aM,by omega⟩;rw[E];exact ay g cap rfl
end
end Go.Tm
namespace Go.Tm
open Go.Proofs
def jb:List Nat:=[3,4,5,6,7,8,9,10,11,12,13,14,15,16,17,18,19,20,21,22,23,24,25,26,27,28,29,30,31,32,33,34,35,36,37,38,39,40,41,42,43,44,45,46,47,48,49,50,51,52,53,54,55,56,57,58,59,60,61,62,63,64,65,66,67,68,69,70,71,72,73,75,76,77,78,79,80,81,82,83,84,85,86,87,88,89,90,91,92,93,94,95,96,97,98,99,100,101,102,103,104,105,106,107,108,109,110,111,112,113,114,115,116,117,118,119,120,121,125,128,129,130,131,132,133,134,135,136,137,138,139,140,141,142,143,162,163,165,166,167,173,174,175,176,177,178,179,180,181,182,183,184,185,186,187,188,189,190,191,192,193,194,195,197,199,200,201,202,203,204,205,206,207,209,210,212,230,231,232,233,234,235,236,237,238,239,240,241,242,243,244,245]
def gQ:Kn:={dB:=λg=>decide (g<5),ent:=λf=>jb.contains f,stop:=λf=>f==74,own:=λf=>f==74}
def mj:Kn:={dB:=λg=>decide (g<5),ent:=λf=>jb.contains f,stop:=λ_=>false,own:=λ_=>false}
def No:(jb.all λi=>(Tryz.prog.funcs[i]?).any λg=>g.name != "runtime.NumGoroutine" &&g.body.any λc=>if i=95 then iP gQ c else codeOk gQ c)=true:=by kernel_rfl
def Np:(jb.all λi=>(Tryz.prog.funcs[i]?).any λg=>g.name != "runtime.NumGoroutine" &&g.body.any λc=>if i=95 then iP mj c else codeOk mj c)=true:=by kernel_rfl
def nV:Func:={name:= "",origin:= "",params:=#[],resultTypes:=#[],nfree:=0,ntmps:=0,results:=#[],body:=none,norace:=false,tmpNames:=#[]}
noncomputable def fY(g:Func):Array Func:=Tryz.prog.funcs.mapIdx λi f=>if i=74 then g else if i=95 then nW else if gJ.contains i then f else nV
def pb(g i):(fY g)[i]? =(Tryz.prog.funcs[i]?).map λf=>if i=74 then g else if i=95 then nW else if gJ.contains i then f else nV:=by unfold fY;rw[Array.getElem?_mapIdx]
def Tr:(gJ.all λi=>i !=74)=true:=by kernel_rfl
def SL(i)(a:i∈gJ):i≠74:=by have:=T8.1 Tr i a;simpa using this
def uh(fs)(i:Nat):(Qs fs).funcs[i]? =fs[i]? :=rfl
def vV(g):(fY g)[95]? =some nW:=by rw[pb,Tryz.func95];rfl
def pJ(g):bM (fY g):=⟨λi a b=>by
 rw[uh,pb];have c:gJ.contains i=true:=U4.2 a;cases Tryz.prog.funcs[i]? with
 |none=>rfl
 |some f=>simp[SL i a,a,b],(uh _ _).trans (vV g)⟩
def ui(g):(fY g).size=Tryz.prog.funcs.size:=by simp[fY]
def Nq:(jb.all λi=>gJ.contains i)=true:=by kernel_rfl
def I2(Q:Program):Prop:=(∀i,gJ.contains i=true->i≠95->Q.funcs[i]? =Tryz.prog.funcs[i]?)/\(Q.funcs[95]? =some Tryz.f95\/Q.funcs[95]? =some nW)
def Kt:∃c,nW.body=some c/\gR c=c:=by refine⟨_,rfl,?_⟩;kernel_rfl
def Ku:(nW.name== "runtime.NumGoroutine")=false:=by kernel_rfl
def Kv:(nW.body.any λc=>iP gQ c)=true:=by kernel_rfl
def Kw:(nW.body.any λc=>iP mj c)=true:=by kernel_rfl
def Nr{S}(q:(jb.all λi=>(Tryz.prog.funcs[i]?).any λg=>g.name != "runtime.NumGoroutine" &&g.body.any λc=>if i=95 then iP S c else codeOk S c)=true)(k:(nW.body.any λc=>iP S c)=true){f}(h:jb.contains f=true)(g0){Q}(l:I2 Q):∃g c,(fY g0)[f]? =some {g with body:=some (gR c)}/\Q.funcs[f]? =some g/\g.name≠ "runtime.NumGoroutine" /\g.body=some c/\iP S c=true:=by have m:f∈jb:=U4.1 h;have d:=T8.1 q f m;have n:gJ.contains f=true:=T8.1 Nq f m;have o:=(pJ g0).1 f (U4.1 n);cases j:Tryz.prog.funcs[f]? with|none=>rw[j]at d;cases d|some g=>rw[j]at d;simp only[W5,TH,UN,ne_eq]at d;obtain⟨p,a⟩:=d;cases b:g.body with|none=>rw[b]at a;cases a|some c=>rw[b]at a;simp only[W5]at a;by_cases e:f=95;subst e;(simp only[TK]at a;have r:g=Tryz.f95:=TY (j.symm.trans Tryz.func95);subst r;have e1:{Tryz.f95 with body:=some (gR c)}=nW:=by have:=FK;rw[b]at this;show{Tryz.f95 with body:=some (gR c)}={Tryz.f95 with body:=nW.body};rw[<-this];rfl);obtain h5|h5:=l.2;exact⟨_,c,by rw[vV,e1],h5,p,b,a⟩;obtain⟨c',k1,s⟩:=Kt;refine⟨nW,c',?_,h5,?_,k1,?_⟩;rw[vV,s,<-k1];have:=Ku;intro e;rw[e]at this;simp at this;rw[k1]at k;exact k;simp only[Tu e]at a;refine⟨g,c,?_,(l.1 f n e).trans j,p,b,(gS a).2⟩;rw[(gS a).1,<-b];rw[uh]at o;exact(o e).trans j
def Qa:Value->Bool
 | .agg c=>c.toList.all ga
 |v=>ga v
def Qb:Value->Bool
 | .agg c=>c.toList.all ga
 | .tuple c=>c.toList.all Qa
 |v=>ga v
def AD{c}(h:c.toList.all ga=true):Plain (.agg c):=by intro G π;refine .FG (aY.refl λx a=>oM x (T8.1 h x (Wu.2 a)) G π)
def Ht(v)(h:Qa v=true):Plain v:=by cases v with|agg c=>exact AD h|_=>exact oM _ h
def Hu(v)(h:Qb v=true):Plain v:=by cases v with|agg c=>exact AD h|tuple c=>intro G π;exact .tuple' (aY.refl λx a=>Ht x (T8.1 h x (Wu.2 a)) G π)|_=>exact oM _ h
def Hv:(Tryz.prog.types.toList.all λi=>i.zero.all Qb)=true:=by kernel_rfl
def uj:dD Tryz.prog:=λt i z h a=>Hs Tryz.prog.toTables (λt i h z a=>by have b:=T8.1 Hv i (Wu.2 (Uq h));rw[a]at b;exact Hu z b) t i h z a
def yc(fs):dD (ai Tryz.prog fs):=λt i z h a=>uj t i z h a
def bare:List Nat:=[164,196,198,208,211]
def Ky:(gJ.all λi=>jb.contains i||bare.contains i)=true:=by kernel_rfl
def AE:(jb.all λi=>i !=74)=true:=by kernel_rfl
def Vd{a b:String}(h:(a==b)=false):a≠b:=λe=>by subst e;simp at h
def Pq:(Tryz.f164.name== "runtime.NumGoroutine")=false:=by kernel_rfl
def Pt:(Tryz.f196.name== "runtime.NumGoroutine")=false:=by kernel_rfl
def Pu:(Tryz.f198.name== "runtime.NumGoroutine")=false:=by kernel_rfl
def Pv:(Tryz.f208.name== "runtime.NumGoroutine")=false:=by kernel_rfl
def Pw:(Tryz.f211.name== "runtime.NumGoroutine")=false:=by kernel_rfl
def QF:(Tryz.f74.name== "runtime.NumGoroutine")=false:=by kernel_rfl
def Px:Extern.findNext Tryz.f164=none:=by kernel_rfl
def Py:Extern.findNext Tryz.f196=none:=by kernel_rfl
def Pz:Extern.findNext Tryz.f198=none:=by kernel_rfl
def PC:Extern.findNext Tryz.f208=none:=by kernel_rfl
def PD:Extern.findNext Tryz.f211=none:=by kernel_rfl
def QG:Extern.find Tryz.f164=some Extern.AbiNoEscape.same:=by kernel_rfl
def QH:Extern.find Tryz.f196=some Extern.BytealgIndex.index:=by kernel_rfl
def QI:Extern.find Tryz.f198=some Extern.BytealgCount.count:=by kernel_rfl
def QJ:Extern.find Tryz.f208=some (Extern.BytealgMakeNoZero.makeNoZero Tryz.f208.params Tryz.f208.resultTypes):=by kernel_rfl
def QK:Extern.find Tryz.f211=some Extern.BytealgIndexByte.indexByte:=by kernel_rfl
def Ns:(Tryz.prog.globals.findIdx? (·.name== "internal/bytealg.MaxLen"))=some 2:=by kernel_rfl
def Nt{S Q fs}(b:Q.globals=Tryz.prog.globals)(d:S.dB 2=true){i}(f:bare.contains i=true):∃g,Tryz.prog.funcs[i]? =some g/\g.name≠ "runtime.NumGoroutine" /\g.body=none/\Extern.findNext g=none/\∃e,Extern.find g=some e/\∀(π:Ren Q.globals.size),(∀g,S.dB g=true->π g g)->∀(a A),VsR π a A->SR S (ai Q fs) Q VQ π (e a) (e A):=by (have h:i=164\/i=196\/i=198\/i=208\/i=211:=by simpa[bare]using f);obtain rfl|rfl|rfl|rfl|rfl:=h;exact⟨_,Tryz.func164,Vd Pq,rfl,Px,_,QG,λπ _ a A h=>Nl h⟩;exact⟨_,Tryz.func196,Vd Pt,rfl,Py,_,QH,λπ j a A h=>Ks j (λg c=>by rw[b,Ns]at c;cases c;exact d) h⟩;exact⟨_,Tryz.func198,Vd Pu,rfl,Pz,_,QI,λπ _ a A h=>Nn h⟩;exact⟨_,Tryz.func208,Vd Pv,rfl,PC,_,QJ,λπ _ a A h=>zh _ _ h⟩;exact⟨_,Tryz.func211,Vd Pw,rfl,PD,_,QK,λπ _ a A h=>Cz h⟩
def I3{S Q g0}(j:Q.globals=Tryz.prog.globals)(n:S.dB 2=true)(o:I2 Q)(k:∀i,jb.contains i=true->S.ent i=true)(h74:S.stop 74=true\/GA g0){f g}(h:(fY g0)[f]? =some g):S.ent f=true\/S.stop f=true\/GA g\/(Q.funcs[f]? =some g/\g.name≠ "runtime.NumGoroutine" /\g.body=none/\Extern.findNext g=none/\∃e,Extern.find g=some e/\∀(π:Ren Q.globals.size),(∀g,S.dB g=true->π g g)->∀(a A),VsR π a A->SR S (ai Q (fY g0)) Q VQ π (e a) (e A)):=by
 rw[pb]at h;by_cases e:f=74;subst e;obtain h74|h74:=h74;exact .inr (.inl h74);cases c:Tryz.prog.funcs[74]? with|none=>rw[c]at h;cases h|some f=>rw[c]at h;simp at h;subst h;exact .inr (.inr (.inl h74))
 by_cases b:f=95;subst b;exact .inl (k 95 (by kernel_rfl))
 cases d:gJ.contains f with
 |false=>cases c:Tryz.prog.funcs[f]? with|none=>rw[c]at h;cases h|some q=>rw[c]at h;simp only[Ud,Tu e,Tu b,d,TS,TP,Ug]at h;subst h;exact .inr (.inr (.inl ⟨rfl,rfl,rfl⟩))
 |true=>cases l:jb.contains f with|true=>exact .inl (k f l)|false=>have m:=T8.1 Ky f (U4.1 d);rw[l,VR]at m;obtain⟨g',e1,p,e3,e4,x,e5,e6⟩:=Nt (S:=S) (fs:=fY g0) j n m;rw[e1]at h;simp only[Ud,Tu e,Tu b,d,TK,Ug]at h;subst h;exact .inr (.inr (.inr ⟨(o.1 f d b).trans e1,p,e3,e4,x,e5,e6⟩))
def E4{Q:Program}(d:dD Q)(a:Q.globals=Tryz.prog.globals)(b:Q.funcs.size=Tryz.prog.funcs.size)(c:I2 Q)(e:Q.underlying qM=none):Tab mj Q (fY nV) where
 zero:=d
 bad:=e
 xq:=rfl
 size:=(ui _).trans b.symm
 ent f h:=by exact⟨rfl,Nr Np Kw h nV c⟩
 stop f h:=by cases h
 rest f g h:=I3 a rfl c (λ_ h=>h) (.inr ⟨rfl,rfl,rfl⟩) h
def sU(g):(fY g)[74]? =some g:=by rw[pb,Tryz.func74];rfl
def yd:Tryz.prog.underlying qM=none:=by kernel_rfl
def uk:I2 Tryz.prog:=⟨λ_ _ _=>rfl,.inl Tryz.func95⟩
def E5:Tab gQ Tryz.prog (fY g74) where
 zero:=uj
 bad:=yd
 xq:=rfl
 size:=ui _
 ent f h:=by
  refine⟨?_,Nr No Kv h g74 uk⟩;have:=T8.1 AE f (U4.1 h);have a:f≠74:=by simpa using this
  show(f==74)=false;simpa using a
 stop f h:=by
  have b:f=74:=by have h:(f==74)=true:=h;simpa using h
  subst b;exact⟨rfl,g74,Tryz.f74,sU _,Tryz.func74,Vd (by kernel_rfl),Vd QF,rfl,rfl⟩
 rest f g h:=I3 rfl rfl uk (λ_ h=>h) (.inl rfl) h
def AF:Tab mj Tryz.prog (fY nV):=E4 (Q:=Tryz.prog) uj (Eq.refl _) (Eq.refl _) uk yd
def Kz(P fs):(ai P fs).globals=P.globals:=rfl
def lj(P fs):(ai P fs).funcs=fs:=rfl
def KA:Tab mj (ai Tryz.prog (fY g74)) (fY nV):=E4 (yc _) (Kz _ _) (by rw[lj];exact ui _) ⟨λi b a=>by rw[lj];exact(uh _ _).symm.trans ((pJ g74).1 i (U4.1 b) a),.inr (by rw[lj];exact vV _)⟩ ((jL _ _ _).trans yd)
def um(g):mj.calm g:=λ_ _ _ h=>by cases h
def AG(g):gQ.calm g:=λf h a b=>by (have c:=T8.1 AE f (U4.1 a);have d:f≠74:=by simpa using c);have e:(f==74)=true:=b;exact absurd (by simpa using e) d
def E6:(gJ.all λi=>(Tryz.prog.funcs[i]?).all λf=> !f.norace)=true:=by kernel_rfl
def Hw:(gJ.all λi=>(Tryz.prog.funcs[i]?).all λf=>(f.body.map readies).all (·.isEmpty))=true:=by kernel_rfl
def zk:Tryz.prog.follows .staticDataAhead=true:=by kernel_rfl
def Nu{Q:Program}(b:∀f∈Q.funcs,f.norace=false)(d:Q.follows .staticDataAhead=true)(e:∀f∈Q.funcs,∀c,f.body=some c->(readies c).isEmpty=true):kT Q where
 norace f:=by
  cases a:Q.funcs[f]? with
  |none=>rfl
  |some g=>exact b g (Uq a)
 follows:=d
 stepOf g:=by
  unfold Program.stepOf;rw[Array.findIdx?_eq_none_iff];intro f a;cases h:f.body with
  |none=>rfl
  |some c=>
   have:=e f a c h;simp only[Ud,W5];cases i:readies c with
   |nil=>rfl
   |cons _ _=>rw[i]at this;cases this
def E7{g f}(h:f∈fY g):f=g\/f=nV\/f=nW\/∃i,i∈gJ/\Tryz.prog.funcs[i]? =some f:=by obtain⟨i,a⟩:=VX.1 h;rw[pb]at a;cases b:Tryz.prog.funcs[i]? with|none=>rw[b]at a;cases a|some d=>rw[b]at a;simp only[Ud,Ug]at a;split at a;exact .inl a.symm;split at a;exact .inr (.inr (.inl a.symm));split at a;rename_i c;subst a;exact .inr (.inr (.inr ⟨i,U4.1 c,b⟩));exact .inr (.inl a.symm)
def KB:nW.norace=false:=by kernel_rfl
def Nv:(nW.body.map readies).all (·.isEmpty)=true:=by kernel_rfl
def PE:(readies Ay).isEmpty=true:=by kernel_rfl
def Hy:kT (ai Tryz.prog (fY g74)):=by refine Nu (λf a=>?_) zk λf a c b=>?_;rw[lj]at a;obtain rfl|rfl|rfl|⟨i,d,a⟩:=E7 a;rfl;rfl;exact KB;have:=T8.1 E6 i d;rw[a]at this;simpa using this;rw[lj]at a;obtain rfl|rfl|rfl|⟨i,d,a⟩:=E7 a;(have:c=Ay:=by cases b;rfl);subst this;exact PE;cases b;have:=Nv;simp only[b,Ud]at this;exact this;have:=T8.1 Hw i d;rw[a]at this;simp only[Option.all_some,b,Ud]at this;exact this
def KC:(jb.all λi=>(Tryz.prog.inits.idxOf? i).isNone)=true:=by kernel_rfl
def ye(f)(h:gQ.ent f=true):Tryz.prog.inits.idxOf? f=none:=Option.isNone_iff_eq_none.1 (T8.1 KC f (U4.1 h))
def kr:Tryz.prog.globals.size=5:=by kernel_rfl
def uU:0<Tryz.prog.globals.size:=by rw[kr];decide
end Go.Tm

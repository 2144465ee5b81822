import Derived.Conc.WgGenN2
import Derived.Conc.Comm2
import Derived.Conc.Own4
import Derived.Conc.Own5
import Derived.Laws.Rows
import Derived.Conc.AppendEvents
import Derived.Conc.AppendWalk
import Derived.Test.YtaglpcmhopjebaaGreatDoorU8
set_option linter.all false
set_option maxRecDepth 100000
set_option maxHeartbeats 20000000
namespace Go.Tm
open Go.Conc Go.ConcN
section
variable {S:Kn} {P:Program} {fs:Array Func}
def iN.leave(I:Tab S P fs){d f s g Z Post J cB F W}(h:iN S P fs d g Z Post f s J cB F [] W)(t:J.AtE)(C B mn Wg):∃(v V:Value) (w' W':World) (ev:Array Event) (πA':Ren P.globals.size),stepG P mn ⟨F,C::B,.running,none,none⟩ W=.go ⟨C.finish V,B,.running,none,none⟩ W' ev/\Post v w'/\aA πA' v V/\Eff (iN.Own d f) W W'/\(∀e∈ev,EvK Wg (orK (qm f) W W') (orK (iN.Own d f) W W') e)/\(∀r R,d r R->W'.heap[R]? =g.heap[R]?)/\bw S (λR=>∃r,d r R) πA' w' W'/\Ren.le f πA':=by (have u:cB.AtE:=by rw[wj h.b];rw[wj h.a]at t;exact t);(obtain⟨_,v,V,w',W',ev,πA',a1,a2,K,a4,L,j,a7⟩:=h.a.returns I t C B mn;obtain⟨_,v2,V2,w2,W2,aa,M,b1,b2,z,b4,b5,N,b7⟩:=h.b.returns I u C B mn;rw[K]at z;simp only[GStep.go.injEq]at z;obtain⟨_,e3,_⟩:=z;subst e3;have k:∀r R,d r R->W'.heap[R]? =g.heap[R]? :=by intro r R i;obtain⟨c,Q,e,l,A,D⟩:=h.base r R i;obtain⟨F',m⟩:=j.nV R ⟨r,i⟩ Q e l (by rw[h.old r R i,D]);obtain⟨C1,F1,n,E⟩:=N.fz R Q e l (by rw[h.old r R i,D]);rw[m]at n;simp only[UX,Obj.cells.injEq,true_and]at n;obtain⟨rfl,rfl⟩:=n;obtain⟨o,O,T,U,p⟩:=b5.obj r R (N.le _ _ (h.lb _ _ i));rw[b1 r R i,A]at T;rw[m]at U;cases T;cases U;cases p with|cells _ _ hf=>rw[m,D,Ao E (.refl _) hf]);have X:=xL j.old j.new j.le λr R G=>(L.lt G).2;refine⟨v,V,w',W',ev,πA',K,a1,a4,⟨j.os,j.tape,j.output,j.size,λb A q=>?_⟩,λe H=>?_,k,L,j.le⟩;by_cases Y:∃r,f r b;have:∃r,d r b:=Vq λhx=>q ⟨Y,hx⟩;obtain⟨r,i⟩:=this;rw[k r b i,h.old r b i];exact j.keep b A Y;(have hm:(λb=>qm πA' b/\¬∃r,d r b)=orK (iN.Own d f) W W':=by funext b;apply propext;rw[X];constructor;rintro⟨x|x,q⟩;exact .inl ⟨x,q⟩;exact .inr x;rintro(⟨x,q⟩|⟨x,y⟩);exact⟨.inl x,q⟩;refine⟨.inr ⟨x,y⟩,λ⟨r,i⟩=>?_⟩;have:=(h.a.w.lt (h.la _ _ i)).2;omega);have:=Ap (Wg:=Wg) (a7 e H);rw[hm,X]at this;exact this
end
end Go.Tm
namespace Go.Tm
open Go.Conc Go.ConcN Go.Conc.Lib
open Go.ConcR (KK WgAt stA smA rd wr mk DC0 Payload)
section
variable (P:Program) (ty:TypeId) (Wg ch:Nat) (z:Value)
def Still(S:aJ)(K M:Nat->Prop)(g:Goroutine)(w:World):Prop:=∃m,Goes P false (RK ty Wg K) DC0 (S K M) m g w
def SD4:aJ:=λ_ _ g w=>g.status=.running/\mayWake P g=true/\(WgAt ty Wg w 0 0->∃g',stepG P false g w=.go g' (w.setCell (smA Wg) (.int .u32 1)) (semEvents (smA Wg))/\∃q,QuitsD P q 1 g')
def SD3:aJ:=λK M g w=>g.status=.running/\(WgAt ty Wg w 1 0->∃g',stepG P false g w=.go g' (w.setCell (stA Wg) (.int .u64 0)) #[wr (stA Wg)]/\Still P ty Wg (SD4 P ty Wg) K M g' (w.setCell (stA Wg) (.int .u64 0)))
def SD2:aJ:=λK M g w=>g.status=.running/\(WgAt ty Wg w 1 0->∃g',stepG P false g w=.go g' w #[rd (stA Wg)]/\Still P ty Wg (SD3 P ty Wg) K M g' w)
def SD1:aJ:=λK M g w=>g.status=.running/\∀v a:Nat,a<=1->v<2147483647->WgAt ty Wg w ((v+1)*KK+a) 0->∃g',stepG P false g w=.go g' (w.setCell (stA Wg) (.int .u64 (v*KK+a))) #[rd (stA Wg),wr (stA Wg)]/\((v=0/\a=1)->Still P ty Wg (SD2 P ty Wg) K M g' (w.setCell (stA Wg) (.int .u64 (v*KK+a))))/\(¬(v=0/\a=1)->∃q,QuitsD P q 1 g')
def SK1:aJ:=λK M g w=>g.status=.running/\∃g',stepG P false g w=.go g' w #[mk .disable]/\Still P ty Wg (SD1 P ty Wg) K M g' w
def SR0:aJ:=λK M g w=>g.status=.running/\∃g',stepG P false g w=.go g' w #[mk (.releaseMerge (stA Wg))]/\Still P ty Wg (SK1 P ty Wg) K M g' w
def Nc(v:Value):aJ:=let _z:=z;λK M g w=>g.status=.running/\(∃es,es=(#[]:Array Event)/\stepG P false g w=.comm {g with offers:=none} #[scase ch v undef] true .send w es)/\(Run P false ty Wg) (SR0 P ty Wg) K M (Conc.served g undef) w
def SWk(a:Option Value):aJ:=λK M g w=>match a with|some v=>Nc P ty Wg ch z v K M g w|none=>SR0 P ty Wg K M g w
def closeEvents:Array Event:=#[⟨.obj ch,false,true⟩,⟨.obj ch,true,true⟩]
def SCl:aJ:=λ_ _ g w=>g.status=.running/\mayWake P g=true/\∀s r a,w.heap[ch]? =some (.chan 0 #[] false s r a)->∃g',stepG P false g w=.go g' {w with heap:=w.heap.setIfInBounds ch (.chan 0 #[] true s r a)} (closeEvents ch)/\∃q,QuitsD P q 0 g'
def PH:aJ:=λK M g w=>g.status=.running/\∃g',stepG P false g w=.go g' w #[mk (.acquire (stA Wg))]/\(Run P false ty Wg) (SCl P ch) K M g' w
def SWe:aJ:=λK M g w=>g.status=.running/\∃g',stepG P false g w=.go g' w #[mk .enable]/\(Run P false ty Wg) (PH P ty Wg ch) K M g' w
def SW4:aJ:=λK M g w=>g.status=.running/\(WgAt ty Wg w 0 0->∃g',stepG P false g w=.go g' w #[rd (stA Wg)]/\(Run P false ty Wg) (SWe P ty Wg ch) K M g' w)
def SW3:aJ:=λK M g w=>g.status=.running/\g.offers=none/\((∃st,WgAt ty Wg w st 0)->stepG P false g w=.go {g with status:=.blocked} w #[])/\(WgAt ty Wg w 0 1->∃g',stepG P false g w=.go g' (w.setCell (smA Wg) (.int .u32 0)) (semEvents (smA Wg))/\(Run P false ty Wg) (SW4 P ty Wg ch) K M g' (w.setCell (smA Wg) (.int .u32 0)))
def SSw:aJ:=λK M g w=>g.status=.running/\∃g',stepG P false g w=.go g' w #[mk (.write (smA Wg))]/\(Run P false ty Wg) (SW3 P ty Wg ch) K M g' w
variable (An:aJ)
def SW2(a:Nat):aJ:=λK M g w=>g.status=.running/\∀v:Nat,v<2147483648->WgAt ty Wg w (v*KK) 0->
 (v=a->∃g',stepG P false g w=.go g' (w.setCell (stA Wg) (.int .u64 (v*KK+1))) #[rd (stA Wg),wr (stA Wg)]/\(Run P false ty Wg) (SSw P ty Wg ch) K M g' (w.setCell (stA Wg) (.int .u64 (v*KK+1))))/\
 (v≠a->∃g',stepG P false g w=.go g' w #[rd (stA Wg)]/\(Run P false ty Wg) An K M g' w)
def SW1:aJ:=λK M g w=>g.status=.running/\∀v:Nat,v<2147483648->WgAt ty Wg w (v*KK) 0->∃g',stepG P false g w=.go g' w #[rd (stA Wg)]/\(v=0->(Run P false ty Wg) (SWe P ty Wg ch) K M g' w)/\(v≠0->(Run P false ty Wg) (SW2 P ty Wg ch An v) K M g' w)
def SWd:aJ:=λK M g w=>g.status=.running/\∃g',stepG P false g w=.go g' w #[mk .disable]/\(Run P false ty Wg) (SW1 P ty Wg ch An) K M g' w
variable (HV:Nat->Option Value) (Fin:List Value->aJ) (n:Nat)
def oK:Nat->List Value->aJ
 |0,a=>λK M g w=>g.status=.running/\stepG P true g w=.comm {g with offers:=none} #[rcase ch z] true (.recv true) w #[]/\Fin a K M (Conc.served g (.tuple #[z,.bool false])) w
 |r+1,a=>λK M g w=>g.status=.running/\stepG P true g w=.comm {g with offers:=none} #[rcase ch z] true (.recv true) w #[]/\Fin a K M (Conc.served g (.tuple #[z,.bool false])) w/\∀i v,i<n->HV i=some v->(Run P true ty Wg) (oK r (a++[v])) K M (Conc.served g (.tuple #[v,.bool true])) w
def Kv:aJ:=λK M g w=>g.status=.running/\∃g' a Kc,stepG P true g w=.spawn g' a w #[]/\a.status=.running/\a.offers=none/\(∀b,Kc b->K b)/\(Run P false ty Wg) (SWd P ty Wg ch An) Kc (λ_=>False) a w/\(Run P true ty Wg) (oK P ty Wg ch z HV Fin n n []) K (λ_=>False) g' w
def SGo(r:Nat)(Nx:aJ):aJ:=λK M g w=>g.status=.running/\∃g' a Kc,stepG P true g w=.spawn g' a w #[]/\a.status=.running/\a.offers=none/\(∀b,Kc b->K b)/\(Run P false ty Wg) (SWk P ty Wg ch z (HV (n-(r+1)))) Kc (λ_=>False) a w/\(Run P true ty Wg) Nx K (λ_=>False) g' w
def SKe(r:Nat)(Nx:aJ):aJ:=λK M g w=>g.status=.running/\∃g',stepG P true g w=.go g' w #[mk .enable]/\(Run P true ty Wg) (SGo P ty Wg ch z HV n r Nx) K M g' w
def SSr(r:Nat)(Nx:aJ):aJ:=λK M g w=>g.status=.running/\∃g',stepG P true g w=.go g' w #[mk (.read (smA Wg))]/\(Run P true ty Wg) (SKe P ty Wg ch z HV n r Nx) K M g' w
def SA1(r:Nat)(Nx:aJ):aJ:=λK M g w=>g.status=.running/\∀v:Nat,v<2147483647->WgAt ty Wg w (v*KK) 0->∃g',stepG P true g w=.go g' (w.setCell (stA Wg) (.int .u64 ((v+1)*KK))) #[rd (stA Wg),wr (stA Wg)]/\((Run P true ty Wg) (SSr P ty Wg ch z HV n r Nx) K M g' (w.setCell (stA Wg) (.int .u64 ((v+1)*KK)))\/(Run P true ty Wg) (SKe P ty Wg ch z HV n r Nx) K M g' (w.setCell (stA Wg) (.int .u64 ((v+1)*KK))))
def SKd(r:Nat)(Nx:aJ):aJ:=λK M g w=>g.status=.running/\∃g',stepG P true g w=.go g' w #[mk .disable]/\(Run P true ty Wg) (SA1 P ty Wg ch z HV n r Nx) K M g' w
def SSp:Nat->aJ
 |0=>Kv P ty Wg ch z An HV Fin n
 |r+1=>SKd P ty Wg ch z HV n r (SSp r)
end
section
variable {P:Program} {ty:TypeId} {Wg ch:Nat} {z:Value}
def RK.rl{K w w₁}(h:RK ty Wg K w w₁):RL ty Wg w w₁:=h.live
section worker
variable [Payload] {C n0:Nat} {K M:Nat->Prop} {v:Value}
def RK.rw{w w₁}(c:K C)(h:RK ty Wg K w w₁):RW ty Wg C n0 0 0 w w₁:=⟨λb d=>absurd d (Ut _),h.live,λ⟨cs,a,b⟩=>⟨cs,(h.keep C c).trans a,b⟩,cell_of_block (h.keep C c) 0⟩
omit [Payload]in
def Nd{mn}{R R':World->World->Prop}{D}{f c:Goroutine->World->Prop}(e:∀w a,R' w a->R w a)(i:∀g w,f g w->c g w):∀{m} {g} {w},Goes P mn R D f m g w->Goes P mn R' D c m g w:=by intro m;induction m with|zero=>exactλh a b=>i _ _ (h a (e _ _ b))|succ m j=>intro g w h;obtain h|⟨k,h⟩:=h;exact .inl λa b=>i _ _ (h a (e _ _ b));refine .inr ⟨k,λa b=>?_⟩;have:=h a (e _ _ b);cases d:stepG P mn g a with|go g' w' es=>rw[d,goes_go]at this;rw[goes_go];exact⟨this.1,j this.2⟩|_=>rw[d]at this;exact this.elim
def mM{a}{S:aJ}(b:K C){g w}(h:∃m,Goes P false (RW ty Wg C n0 0 0) DC0 a m g w)(c:∀g w,a g w->S K M g w):Still P ty Wg S K M g w:=let⟨m,h⟩:=h;⟨m,Nd (λ_ _ r=>r.rw b) c h⟩
def SY(c:K C)(g w)(h:AtD3 P ty Wg C n0 0 1 g w):SD3 P ty Wg K M g w:=⟨h.1,λx=>let⟨g',a,b⟩:=h.2 x;⟨g',a,mM c b λ_ _ y=>y⟩⟩
def SZ(c:K C)(g w)(h:AtD2 P ty Wg C n0 0 1 g w):SD2 P ty Wg K M g w:=⟨h.1,λx=>let⟨g',a,b⟩:=h.2 x;⟨g',a,mM c b (SY c)⟩⟩
def S6(d:K C)(g w)(h:AtD1 P ty Wg C n0 0 1 g w):SD1 P ty Wg K M g w:=⟨h.1,λv f i j k=>let⟨g',a,b,c⟩:=h.2 v f i j k;⟨g',a,λe=>mM d (b e) (SZ d),c⟩⟩
def S8(c:K C)(g w)(h:AtK1 P ty Wg C n0 0 1 g w):SK1 P ty Wg K M g w:=⟨h.1,let⟨g',a,b⟩:=h.2;⟨g',a,mM c b (S6 c)⟩⟩
def S9(c:K C)(g w)(h:AtR0 P ty Wg C n0 0 1 v g w):SR0 P ty Wg K M g w:=⟨h.1,let⟨g',a,b⟩:=h.2.2;⟨g',a,mM c b (S8 c)⟩⟩
end worker
end
end Go.Tm
namespace Go.Tm
open Go.Conc Go.ConcN
section
variable (P:Program) (ty:TypeId) (Wg:Nat)
structure RC where
 mn:Bool
 S:aJ
 c:Cfg
 acc:Acc (Nxt P mn ty Wg S) c
def RC.lt(a b:RC P ty Wg):Prop:=a.mn=b.mn/\a.S=b.S/\Nxt P b.mn ty Wg b.S a.c b.c
def RC.wf:WellFounded (RC.lt P ty Wg):=⟨λ⟨mn,S,c,acc⟩=>by (have key:∀c,(h:Acc (Nxt P mn ty Wg S) c)->Acc (RC.lt P ty Wg) ⟨mn,S,c,h⟩:=by intro c h;induction h with|intro c f d=>refine⟨_,?_⟩;rintro⟨e,i,c',a⟩ ⟨e1,b,h⟩;simp only at e1 b h;subst e1;subst b;exact d c' h);exact key c acc⟩
abbrev Rk:=Nat×Nat×RC P ty Wg
def Rk.lt:Rk P ty Wg->Rk P ty Wg->Prop:=Prod.Lex (· < ·) (Prod.Lex (· < ·) (RC.lt P ty Wg))
def Rk.wf:WellFounded (Rk.lt P ty Wg):=(Prod.lex Nat.lt_wfRel (Prod.lex Nat.lt_wfRel ⟨_,RC.wf P ty Wg⟩)).wf
structure cZ(mn:Bool)(S:aJ)(K M:Nat->Prop)(g:Goroutine)(w:World)(x:RC P ty Wg):Prop where
 mn_:x.mn=mn
 S_:x.S=S
 K_:x.c.K=K
 M_:x.c.M=M
 g_:x.c.g=g
 rk:RK ty Wg K x.c.w w
 run:Run P mn ty Wg S K M g x.c.w
end
section
variable {P:Program} {ty:TypeId} {Wg:Nat} {mn:Bool} {S:aJ} {K M:Nat->Prop} {g:Goroutine} {w w₁:World}
def cZ.of(h:Run P mn ty Wg S K M g w):∃x,cZ P ty Wg mn S K M g w x:=⟨⟨mn,S,⟨K,M,g,w⟩,h.acc⟩,rfl,rfl,rfl,rfl,rfl,.refl _,h⟩
def cZ.rely{x}(h:cZ P ty Wg mn S K M g w x)(r:RK ty Wg K w w₁):cZ P ty Wg mn S K M g w₁ x:={h with rk:=h.rk.trans r}
def cZ.now{x}(h:cZ P ty Wg mn S K M g w x):Run P mn ty Wg S K M g w:=h.run.rely h.rk
def cZ.ql{x}(h:cZ P ty Wg mn S K M g w x):S K M g w\/(g.status=.running/\∃g' w' es x',stepG P mn g w=.go g' w' es/\Eff M w w'/\(∀e∈es,EvK Wg (orK K w w') (orK M w w') e)/\cZ P ty Wg mn S (orK K w w') (orK M w w') g' w' x'/\RC.lt P ty Wg x' x):=by by_cases k:AtS ty Wg S x.c;left;have:=k w (by rw[h.K_];exact h.rk);rw[h.K_,h.M_,h.g_]at this;exact this;have m:=h.run;cases m with|stop i=>exact .inl (i w h.rk)|step d f j=>obtain⟨g',w',es,a,b,c⟩:=f w h.rk;have l:=j w g' w' es h.rk a;refine .inr ⟨d,g',w',es,⟨mn,S,⟨_,_,g',w'⟩,l.acc⟩,a,b,c,⟨rfl,rfl,rfl,rfl,rfl,.refl _,l⟩,h.mn_.symm,h.S_.symm,?_⟩;have e1:=h.mn_;have n:=h.S_;have e3:=h.K_;have e4:=h.M_;have e5:=h.g_;refine⟨by rw[n];exact k,w,g',w',es,by rw[e3];exact h.rk,by rw[e1,e5];exact a,by rw[e3,e4]⟩
def cZ.mh{x}(h:cZ P ty Wg mn S K M g w x):(∀w₁,RK ty Wg K w w₁->S K M g w₁)\/(g.status=.running/\∃g' w' es x',stepG P mn g w=.go g' w' es/\Eff M w w'/\(∀e∈es,EvK Wg (orK K w w') (orK M w w') e)/\cZ P ty Wg mn S (orK K w w') (orK M w w') g' w' x'/\RC.lt P ty Wg x' x):=by by_cases l:AtS ty Wg S x.c;left;intro w₁ d;have:=l w₁ (by rw[h.K_];exact h.rk.trans d);rw[h.K_,h.M_,h.g_]at this;exact this;have n:=h.run;cases n with|stop j=>exact .inl λw₁ d=>j w₁ (h.rk.trans d)|step f i k=>obtain⟨g',w',es,a,b,c⟩:=i w h.rk;have m:=k w g' w' es h.rk a;refine .inr ⟨f,g',w',es,⟨mn,S,⟨_,_,g',w'⟩,m.acc⟩,a,b,c,⟨rfl,rfl,rfl,rfl,rfl,.refl _,m⟩,h.mn_.symm,h.S_.symm,?_⟩;have e1:=h.mn_;have o:=h.S_;have e3:=h.K_;have e4:=h.M_;have e5:=h.g_;refine⟨by rw[o];exact l,w,g',w',es,by rw[e3];exact h.rk,by rw[e1,e5];exact a,by rw[e3,e4]⟩
def cZ.status(a:∀K M g w,S K M g w->g.status=.running){x}(h:cZ P ty Wg mn S K M g w x):g.status=.running:=by obtain h|h:=h.ql;exact a _ _ _ _ h;exact h.1
end
section
variable {P:Program} {mn:Bool} {ty:TypeId} {Wg:Nat} {S:aJ} {K M:Nat->Prop} {w:World} {b:Frame} {a:Act} {k:List Item} {cs:List Frame} {ops:Array Oper} {i:Nat} {rest:List Nat} {o:Oper}
def Run.still{g g'}(e:g.status=.running)(h:∀c,stepG P mn g c=.go g' c #[])(f:(Run P mn ty Wg S) K M g' w):(Run P mn ty Wg S) K M g w:=.jX e λc d=>⟨g',c,#[],h c,Eff.refl _ _,by simp,by rw[cP rfl,cP rfl];exact f.rely d⟩
def Run.value(f:ops[i]? =some o)(g:Region.wanted o (yielded ops a.tmps)=true)(j:b.kind≠ .early) (h:∀c,RK ty Wg K w c->∃v w',(execOp a.eval o).run P c=.ok (.value v) w'/\Eff M c w'/\(∀e∈(execOp a.eval o).events P c #[],EvK Wg (orK K c w') (orK M c w') e)/\(Run P mn ty Wg S) (orK K c w') (orK M c w') (G (b.at (a.put o.dst v) (.inRegion ops rest::k)) cs) w'):(Run P mn ty Wg S) K M (G (b.at a (.inRegion ops (i::rest)::k)) cs) w:=
 .jX rfl λc d=>by obtain⟨v,w',l,m,n,p⟩:=h c d;exact⟨_,w',_,stepG_value f g j l,m,λe q=>n e (mem_seen q),p⟩
def Run.none(f:ops[i]? =some o)(g:Region.wanted o (yielded ops a.tmps)=true)(j:b.kind≠ .early) (h:∀c,RK ty Wg K w c->∃w',(execOp a.eval o).run P c=.ok .skip w'/\Eff M c w'/\(∀e∈(execOp a.eval o).events P c #[],EvK Wg (orK K c w') (orK M c w') e)/\(Run P mn ty Wg S) (orK K c w') (orK M c w') (G (b.at (a.put o.dst undef) (.inRegion ops rest::k)) cs) w'):(Run P mn ty Wg S) K M (G (b.at a (.inRegion ops (i::rest)::k)) cs) w:=
 .jX rfl λc d=>by obtain⟨w',l,m,n,p⟩:=h c d;exact⟨_,w',_,stepG_none f g j l,m,λe q=>n e (mem_seen q),p⟩
def Run.pure(v)(e:ops[i]? =some o)(f:Region.wanted o (yielded ops a.tmps)=true)(g:b.kind≠ .early)(h:∀c,(execOp a.eval o).run P c=.ok (.value v) c)(j:∀c,(execOp a.eval o).events P c #[]=#[]) (l:(Run P mn ty Wg S) K M (G (b.at (a.put o.dst v) (.inRegion ops rest::k)) cs) w):(Run P mn ty Wg S) K M (G (b.at a (.inRegion ops (i::rest)::k)) cs) w:=
 .value e f g λc d=>⟨v,c,h c,Eff.refl _ _,by rw[j];simp,by rw[cP rfl,cP rfl];exact l.rely d⟩
def EV{t:TypeId}{d:TypeDesc}(c:P.underlying t=some d)(w:World):(isAgg t).run P w=.ok (match d with| .struct _| .array _ _=>true|_=>false) w:=by unfold isAgg;rw[Sem.run_bind,run_underlying c w];cases d<;>simp
def xX{t d}(c:P.underlying t=some d)(w es):(isAgg t).events P w es=es:=by unfold isAgg underlying;simp only[Sem.events_bind];simp[c];cases d<;>simp
def sN{K M A}(h:K A.block):EvK Wg K M ⟨.cell A,false,false⟩:=by refine⟨λx c=>?_,by simp,by simp,by simp,λB h=>by simp[MemAct.ofEvent,MemAct.touch?]at h⟩;simp[MemAct.ofEvent,MemAct.touch?]at c;subst c;exact⟨A.block,rfl,.inl ⟨rfl,h,λe=>by cases e⟩⟩
def AA{K M A}(h:K A.block)(d:M A.block):EvK Wg K M ⟨.cell A,true,false⟩:=by refine⟨λx c=>?_,by simp,by simp,by simp,λB h=>by simp[MemAct.ofEvent,MemAct.touch?]at h⟩;simp[MemAct.ofEvent,MemAct.touch?]at c;subst c;exact⟨A.block,rfl,.inl ⟨rfl,h,λ_=>d⟩⟩
def Run.EW(q:ops[i]? =some o)(r:Region.wanted o (yielded ops a.tmps)=true)(s:b.kind≠ .early){t:TypeId}{x:Operand}(g:o.op=.load t x){A:Addr}(m:a.eval x=.pointer (some A))(z:A.spot=Option.none){d:TypeDesc}(n:P.underlying t=some d)(u:(match d with| .struct _| .array _ _=>true|_=>false)=false) (h:K A.block) {v:Value} (p:w.cell? A=some v) (y:(Run P mn ty Wg S) K M (G (b.at (a.put o.dst v) (.inRegion ops rest::k)) cs) w):(Run P mn ty Wg S) K M (G (b.at a (.inRegion ops (i::rest)::k)) cs) w:=by (have f:∀w₁,(isAgg t).run P w₁=.ok false w₁:=λw₁=>by rw[EV n w₁,u]);(refine .value q r s λw₁ c=>⟨v,w₁,?_,Eff.refl _ _,?_,by rw[cP rfl,cP rfl];exact y.rely c⟩);(have j:w₁.cell? A=some v:=by rw[<-p];unfold World.cell?;rw[c.keep A.block h]);unfold execOp;simp[g,m,Instr.loadAt,Instr.sureAddr,loadVar,Sem.run_bind,f,j];(have j:w₁.cell? A=some v:=by rw[<-p];unfold World.cell?;rw[c.keep A.block h]);rw[cP rfl,cP rfl];intro e l;unfold execOp at l;simp[g,m,Instr.loadAt,Instr.sureAddr,loadVar,Sem.events_bind,f,xX n,j]at l;subst l;exact sN h
theorem fE(A)(f:A.spot=Option.none):∀(n i) (acc) (w) (es),(∀j,j<n->(w.cell? (A.add (i+j))).isSome)->∀e∈(loadCellsFrom A i n acc).events P w es,e∈es\/∃B,B.block=A.block/\e=(⟨.cell B,false,false⟩:Event)
 |0,i,acc,w,es,_=>λe c=>.inl (by simpa[loadCellsFrom]using c)
 |n+1,i,acc,w,es,h=>λe c=>by
  obtain⟨v,d⟩:=XZ.1 (h 0 (by omega));rw[Vp]at d;simp only[loadCellsFrom,Sem.events_bind,run_load,d,Result.evThen_ok,events_load]at c;have g:(A.add i).block=A.block:=by unfold Addr.add;split<;>rfl
  rcases fE A f n (i+1) _ w _ (λj l=>by have:=h (j+1) (by omega);rwa[show i+(j+1)=i+1+j by omega]at this) e c with h1|h1
  ·obtain h1|rfl:=Wu.1 h1
   ·exact .inl h1
   ·exact .inr ⟨_,g,rfl⟩
  ·exact .inr h1
def Run.sO(C:ops[i]? =some o)(D:Region.wanted o (yielded ops a.tmps)=true)(E:b.kind≠ .early){t:TypeId}{x:Operand}(m:o.op=.load t x){g:Nat}(y:a.eval x=.pointer (some ⟨g,0,Option.none⟩)){d:TypeDesc}(r:P.underlying t=some d) (z:(match d with| .struct _| .array _ _=>true|_=>false)=true) (s:K g) {e:TypeId} {c:Array Value} {fr:Nat×Nat} (A:w.heap[g]? =some (.cells c e fr)) (hi:(P.info? t).map (·.size)=some c.size) (F:(Run P mn ty Wg S) K M (G (b.at (a.put o.dst (.agg c)) (.inRegion ops rest::k)) cs) w):(Run P mn ty Wg S) K M (G (b.at a (.inRegion ops (i::rest)::k)) cs) w:=by (refine .value C D E λw₁ f=>⟨.agg c,w₁,?_,Eff.refl _ _,?_,by rw[cP rfl,cP rfl];exact F.rely f⟩);have h:=(f.keep g s).trans A;unfold execOp;simp[m,y,Instr.loadAt,Instr.sureAddr,run_loadVar_row w₁ g e t c fr d h r z hi];have h:=(f.keep g s).trans A;(rw[cP rfl,cP rfl];intro ev u;have n:(isAgg t).run P w₁=.ok true w₁:=by rw[EV r w₁,z]);(obtain⟨inf,p,v⟩:=UN.1 hi;unfold execOp at u;simp[m,y,Instr.loadAt,Instr.sureAddr,loadVar,Sem.events_bind,n,xX r,sizeOf,typeInfo,p,v]at u;have l:∀j,j<c.size->(w₁.cell? ((⟨g,0,Option.none⟩:Addr).add (0+j))).isSome:=λj H=>by (have q:(⟨g,0,Option.none⟩:Addr).add (0+j)=⟨g,j,Option.none⟩:=by unfold Addr.add;split<;>simp_all);rw[q,cell_of_row w₁ g j c e fr h];simp[H]);have:=fE (P:=P) ⟨g,0,Option.none⟩ rfl _ 0 #[] w₁ #[] l ev u;obtain I|⟨B,J,rfl⟩:=this;simp at I;exact sN (by rw[J];exact s)
def Run.fresh{ob}(v:Nat->Value)(n:ops[i]? =some o)(p:Region.wanted o (yielded ops a.tmps)=true)(q:b.kind≠ .early) (r:∀w₁,(execOp a.eval o).run P w₁=.ok (.value (v w₁.heap.size)) {w₁ with heap:=w₁.heap.push ob}) (s:∀w₁,(execOp a.eval o).events P w₁ #[]=#[]) (t:∀(m) (w'),w.heap.size<=m->(∀b,K b->w'.heap[b]? =w.heap[b]?)->w'.heap[m]? =some ob->w'.heap.size=m+1->(WgLive ty Wg w->WgLive ty Wg w')->(Run P mn ty Wg S) (λb=>K b\/b=m) (λb=>M b\/b=m) (G (b.at (a.put o.dst (v m)) (.inRegion ops rest::k)) cs) w') (l:∀b,K b->b<w.heap.size):(Run P mn ty Wg S) K M (G (b.at a (.inRegion ops (i::rest)::k)) cs) w:=by (refine .value n p q λw₁ c=>?_;have e:({w₁ with heap:=w₁.heap.push ob}:World).heap.size=w₁.heap.size+1:=by simp);(have f:∀X:Nat->Prop,orK X w₁ {w₁ with heap:=w₁.heap.push ob}=λb=>X b\/b=w₁.heap.size:=by intro X;funext b;apply propext;unfold orK Ht;rw[e];constructor;rintro(h|⟨x,y⟩);exact .inl h;exact .inr (by omega);rintro(h|rfl);exact .inl h;exact .inr ⟨Ue _,by omega⟩);(have d:∀b,b<w₁.heap.size->(w₁.heap.push ob)[b]? =w₁.heap[b]? :=λb g=>by rw[U6,Uc (by omega)]);refine⟨_,_,r w₁,⟨rfl,rfl,rfl,by omega,λb g _=>d b g⟩,by rw[s];simp,?_⟩;rw[f,f];refine t w₁.heap.size _ c.size (λb g=>(d b (Ui (l b g) c.size)).trans (c.keep b g)) (by simp) e λu=>?_;obtain⟨st,sm,j⟩:=c.live u;refine⟨st,sm,j.of_block (d Wg ?_)⟩;exact(Uk.1 (show w₁.heap[Wg]? =some _ from j)).1
end
section
variable {P:Program}
def setRow_size(w:World)(g c):(w.setRow g c).heap.size=w.heap.size:=by unfold World.setRow;simp
def oN(w:World)(g b c)(h:b≠g):(w.setRow g c).heap[b]? =w.heap[b]? :=by unfold World.setRow;simp only[];rw[U5,Uc (Ux h)]
def setRow_os(w:World)(g c):(w.setRow g c).os=w.os/\(w.setRow g c).tape=w.tape/\(w.setRow g c).output=w.output:=by exact⟨rfl,rfl,rfl⟩
def Cw(g t):∀(c) (i) (cur) (w) (es),w.heap[g]? =some (.cells cur t (0,0))->i+c.length<=cur.size->(∀v∈c,v.oneCell'=true)->∀ev∈(storeCells ⟨g,0,none⟩ c i).events P w es,ev∈es\/∃B,B.block=g/\ev=(⟨.cell B,true,false⟩:Event):=by intro c;induction c with|nil=>intro i cur w es _ _ _ ev h;exact .inl (by simpa[storeCells]using h)|cons v c r=>(intro i cur w es e j l ev h;have hi:i<cur.size:=by simp at j;omega);(have m:(⟨g,0,none⟩:Addr).add i=⟨g,i,none⟩:=by unfold Addr.add;split<;>simp_all);(have n:=l v (by simp);have p:w.cell? ⟨g,i,none⟩=some cur[i]:=by simp[World.cell?,e,hi]);(have q:w.frozen? ⟨g,i,none⟩=false:=by simp[World.frozen?,e]);(have d:(store ((⟨g,0,none⟩:Addr).add i) v).run P w=.ok () (w.setRow g (cur.setIfInBounds i v)):=by rw[m,run_store P w _ v _ n,p];simp[q,setCell_eq_setRow w g i cur t (0,0) v e]);(have f:(store ((⟨g,0,none⟩:Addr).add i) v).events P w es=es.push ⟨.cell ⟨g,i,none⟩,true,false⟩:=by rw[m,events_store P w es _ v _ n,p];simp only[q,Uz,Uy];rfl);simp only[storeCells,Sem.events_bind,d,Result.evThen_ok,f]at h;rcases r (i+1) _ _ _ (setRow_heap w g cur _ t _ e) (by simp at j⊢;omega) (λx s=>l x (by simp[s])) ev h with h2|h2;obtain h2|rfl:=Wu.1 h2;exact .inl h2;exact .inr ⟨_,rfl,rfl⟩;exact .inr h2
variable {mn:Bool} {ty:TypeId} {Wg:Nat} {S:aJ} {K M:Nat->Prop} {w:World} {b:Frame} {a:Act} {k:List Item} {cs:List Frame} {ops:Array Oper} {i:Nat} {rest:List Nat} {o:Oper}
def yc(t A v):storeVar t A v=storeVar t A (.agg v.cells):=by unfold storeVar;rfl
def Run.store(I:ops[i]? =some o)(J:Region.wanted o (yielded ops a.tmps)=true)(L:b.kind≠ .early){t x y}(l:o.op=.store t x y){g}(A:a.eval x=.pointer (some ⟨g,0,Option.none⟩)){e old cells}(C:(a.eval y).cells=cells) (N:w.heap[g]? =some (.cells old e (0,0))) (hi:(P.info? t).map (·.size)=some cells.size) (m:old.size=cells.size) (D:cells.all (·.oneCell')=true) (E:K g) (F:M g) (r:g≠Wg) (O:∀w',(∀b,K b->b≠g->w'.heap[b]? =w.heap[b]?)->w'.heap[g]? =some (.cells cells e (0,0))->w.heap.size<=w'.heap.size->(WgLive ty Wg w->WgLive ty Wg w')->Run P mn ty Wg S K M (G (b.at (a.put o.dst undef) (.inRegion ops rest::k)) cs) w'):Run P mn ty Wg S K M (G (b.at a (.inRegion ops (i::rest)::k)) cs) w:=by refine .none I J L λc d=>?_;have h:=(d.keep g E).trans N;have n:=run_storeVar_row (P:=P) c g e t old cells h hi m D;have f:=setRow_size c g cells;refine⟨c.setRow g cells,?_,⟨(setRow_os _ _ _).1,(setRow_os _ _ _).2.1,(setRow_os _ _ _).2.2,by omega,λH _ s=>oN _ _ _ _ λe=>s (e▸F)⟩,λev j=>?_,?_⟩;unfold execOp;simp only[l,A,Instr.storeAt,Instr.sureAddr];simp[Sem.run_bind,yc t _ (a.eval y),C,n];unfold execOp at j;obtain⟨inf,p,q⟩:=UN.1 hi;simp[l,A,Instr.storeAt,Instr.sureAddr,Sem.events_bind,storeVar,C,sizeOf,typeInfo,p,q]at j;rcases Cw g e cells.toList 0 old c #[] h (by simp;omega) (λv Q=>(Array.all_eq_true_iff_forall_mem.1 D) v (by simpa using Q)) ev j with h2|⟨B,hB,rfl⟩;simp at h2;rw[cP f,cP f];exact AA (by rw[hB];exact E) (by rw[hB];exact F);rw[cP f,cP f];refine O _ (λH s u=>(oN _ _ _ _ u).trans (d.keep H s)) (setRow_heap c g old _ e _ h) (by rw[f];exact d.size) λR=>?_;obtain⟨st,sm,z⟩:=d.live R;exact⟨st,sm,z.of_block (oN _ _ _ _ (Ux r))⟩
end
def da(zc:List Value)(k:Nat):List Value:=(List.replicate k zc).flatten
def jm(zc k):(da zc k).length=k*zc.length:=by unfold da;induction k with|zero=>simp|succ k c=>simp[List.replicate_succ,c,Wv];omega
def EZ(zc a b)(h:b<=a):(da zc a).drop (b*zc.length)=da zc (a-b):=by obtain⟨k,rfl⟩:=WN h;unfold da;rw[<-List.replicate_append_replicate,List.flatten_append,List.drop_append_of_le_length (by rw[<-da,jm];exact Ue _)];have:((List.replicate b zc).flatten).drop (b*zc.length)=[]:=UP (by rw[<-da,jm];exact Ue _);rw[this];simp
def mP(z k):(Builtin.zeroCells z k).toList=da z.toList k:=by unfold Builtin.zeroCells;simp only[Array.toList_map,Array.toList_range];induction k with|zero=>simp[da]|succ k c=>(have e:da z.toList (k+1)=da z.toList k++z.toList:=by unfold da;rw[List.replicate_succ',List.flatten_append];simp);rw[e,<-c,Wv,Nat.one_mul,List.range_add,V9];congr 1;rw[List.map_map];apply XC;simp;intro i f d;(simp only[WM,Function.comp,XH,Xo];have hi:i<z.size:=by simpa using d);rw[show(k*z.size+i)%z.size=i from by rw[VT,Nat.add_mul_mod_self_right,Nat.mod_eq_of_lt hi]];simp[hi]
inductive aX{α:Type}:Sem α->Prop
 |pure (a):aX (.pure a)
 |halt (h):aX (.halt h)
 |load (a) {k}:(∀v,aX (k v))->aX (.load .plain a k)
 |store (a v) {k}:aX k->aX (.store .plain a v k)
 |new (o) {k}:(∀r,aX (k r))->aX (.new o k)
 |shape (r) {k}:(∀x,aX (k x))->aX (.shape r k)
 |frozen (a) {k}:(∀x,aX (k x))->aX (.frozen a k)
 |choose (q) {k}:(∀x,aX (k x))->aX (.choose q k)
 |program {k}:(∀x,aX (k x))->aX (.program k)
 |mark (m) {k}:aX k->aX (.mark m k)
def aX.bind{d e s}{f:d->Sem e}(h:aX s)(g:∀a,aX (f a)):aX (s>>= f):=by show aX (s.bind f);induction h with|pure a=>exact g a|halt h=>exact .halt h|load a _ c=>exact .load a c|store a v _ c=>exact .store a v c|new o _ c=>exact .new o c|shape r _ c=>exact .shape r c|frozen a _ c=>exact .frozen a c|choose q _ c=>exact .choose q c|program _ c=>exact .program c|mark m _ c=>exact .mark m c
def aX.cells{g}{s:Sem g}(h:aX s):∀(P) (w) (es),∀ev∈(s.runT P w es).2,ev∈es\/∀A,ev.loc=.cell A->ev.sync=false:=by
 induction h with
 |pure a=>exactλP w es ev h=>.inl h
 |halt a=>exactλP w es ev h=>.inl h
 |load a _ d=>intro P w es ev h;simp only[Sem.runT]at h;split at h;obtain h|h:=d _ P _ _ ev h;obtain h|rfl:=Wu.1 h;exact .inl h;exact .inr λ_ _=>rfl;exact .inr h;split at h;obtain h|h:=d _ P _ _ ev h;obtain h|h:=Vf.1 h;exact .inl h;obtain⟨_,_,rfl⟩:=W7.1 h;exact .inr λ_ _=>rfl;exact .inr h;exact .inl h
 | @store a v k _ d=>intro P w es ev h;by_cases f:(∀c,v≠ .agg c)/\(∀c,v≠ .tuple c);rw[iR P a v k w es f.1 f.2]at h;split at h;split at h;exact .inl h;obtain h|h:=d P _ _ ev h;obtain h|rfl:=Wu.1 h;exact .inl h;exact .inr λ_ _=>rfl;exact .inr h;split at h;obtain h|h:=d P _ _ ev h;obtain h|h:=Vf.1 h;exact .inl h;obtain⟨_,_,rfl⟩:=W7.1 h;exact .inr λ_ _=>rfl;exact .inr h;exact .inl h;cases v<;>first|(simp at f;done)|exact .inl h
 |new o _ d=>exactλP w es ev h=>d _ P _ _ ev h
 |shape r _ d=>exactλP w es ev h=>d _ P _ _ ev h
 |frozen a _ d=>exactλP w es ev h=>d _ P _ _ ev h
 |choose q _ d=>intro P w es ev h;simp only[Sem.runT]at h;split at h;exact d _ P _ _ ev h;exact d _ P _ _ ev h
 |program _ d=>exactλP w es ev h=>d _ P _ _ ev h
 |mark m _ d=>intro P w es ev h;obtain h|h:=d P _ _ ev h;obtain h|rfl:=Wu.1 h;exact .inl h;(exact .inr λA e=>by cases e);exact .inr h
theorem jY(a):∀(n i) (acc),aX (loadCellsFrom a i n acc)
 |0,_,_=>.pure _
 |n+1,i,acc=>aX.bind (.load _ λv=>.pure v) λv=>jY a n (i+1) _
theorem mQ(a):∀(c) (i),aX (storeCells a c i)
 | [],_=>.pure _
 |v::c,i=>aX.bind (.store _ _ (.pure _)) λ_=>mQ a c (i+1)
def ud(t):aX (underlying t):=by unfold underlying;refine aX.bind (.program λ_=>.pure _) λp=>?_;split;exact .pure _;exact .halt _
def kV(t):aX (typeInfo t):=by unfold typeInfo;refine aX.bind (.program λ_=>.pure _) λp=>?_;split;exact .pure _;exact .halt _
def CB(t):aX (Go.sizeOf t):=by unfold Go.sizeOf;exact aX.bind (kV t) λ_=>.pure _
def vR(t):aX (zeroValue t):=by unfold zeroValue;refine aX.bind (kV t) λi=>?_;split;exact .pure _;exact .halt _
def ue(size n x):aX (Builtin.firstCells size n x):=by unfold Builtin.firstCells;split;exact jY _ _ _ _;exact .pure _;exact .pure _;exact .halt _
def E0(v):aX (asInt v):=by unfold asInt asIntOf;refine aX.bind ?_ λ_=>.pure _;split;exact .pure _;exact .halt _;exact .halt _
def E1(v):aX (Builtin.lenOf v):=by unfold Builtin.lenOf;split;exact .pure _;exact .pure _;exact .halt _
def E2{c}(e):aX (runtimePanic e:Sem c):=by unfold runtimePanic;repeat' (first|exact .pure _|exact .halt _|exact .program λ_=>.pure _|exact .new _ λ_=>.pure _|refine aX.bind ?_ λ_=>?_|split)
def zp(n):aX (askRoom n):=by unfold askRoom;split;exact .mark _ (.pure _);exact .pure _
def uf(a n):aX (Builtin.holdsCells a n):=by unfold Builtin.holdsCells;refine aX.bind (.shape _ λ_=>.pure _) λx=>?_;split<;>exact .pure _
def yg{c}(a):aX (Pure.pure a:Sem c):=.pure a
def E3{c}(m):aX (stuck m:Sem c):=.halt _
def sQ{c}(m):aX (unsupported m:Sem c):=.halt _
def CE(q):aX (choose q):=.choose _ λ_=>.pure _
def Ih(m):aX (mark m):=.mark _ (.pure _)
def CF(e c):aX (newRow e c):=by unfold newRow;exact aX.bind (.new _ λ_=>.pure _) λ_=>.pure _
def KE{d c}[Decidable c]{s t:Sem d}(h:aX s)(e:aX t):aX (if c then s else t):=by split<;>assumption
def CG(a):aX (frozen a):=.frozen _ λ_=>.pure _
def yh(a b n x v):aX (Builtin.mayShare a b n x v):=by unfold Builtin.mayShare;repeat' (with_reducible first|exact yg _|exact uf _ _|exact CG _|refine aX.bind ?_ λ_=>?_|split|dsimp only)
def CH(ts t as):aX (Builtin.append_ ts t as):=by
 unfold Builtin.append_;repeat' (with_reducible first
  |exact yg _|exact E3 _|exact sQ _|exact E2 _|exact ud _|exact kV _|exact CB _|exact vR _|exact ue _ _ _|exact mQ _ _ _
  |exact CE _|exact Ih _|exact CF _ _|exact E0 _|exact E1 _|exact zp _|exact yh _ _ _ _ _
  |refine KE ?_ ?_|refine aX.bind ?_ λ_=>?_|split|dsimp only)
def lI(w:World)(base:Nat)(e:TypeId)(zc:List Value)(v:Value)(n:Nat)(xs:List Value):Prop:=xs.length=n*zc.length/\((v=.slice none 0 0/\n=0)\/∃g cap,v=.slice (some ⟨g,0,none⟩) n cap/\base<=g/\w.heap[g]? =some (.cells (xs++da zc (cap-n)).toArray e (0,0))/\n<=cap/\cap<=maxLen/\0<n)
def lI.owns{w base e zc v n xs}(h:lI w base e zc v n xs):w.ownsRow base e zc.length v n xs:=by refine⟨h.1,h.2.imp id ?_⟩;rintro⟨g,cap,rfl,c,d,f,j⟩;refine⟨g,cap,_,rfl,c,d,f,j.1,?_,?_⟩;simp only[UB,Uw,jm,h.1,<-Wv];congr 1;omega;rw[<-h.1];simp
def lI.keep{w w' base e zc v n xs}(h:lI w base e zc v n xs)(c:∀g,v.ownBlock=some g->w'.heap[g]? =w.heap[g]?):lI w' base e zc v n xs:=by refine⟨h.1,h.2.imp id ?_⟩;rintro⟨g,cap,rfl,d,f,j,l⟩;exact⟨g,cap,rfl,d,(c g rfl).trans f,j,l⟩
section
variable {P:Program}
def nO(w base t ty e i z zc bytes)(H:P.underlying t=some (.slice e))(hi:P.info? e=some i)(R:i.zero=some z) (d:i.size=zc.length) (I:i.bytes=bytes) (J:z.cells.toList=zc) (U:0<zc.length) (v) (n) (xs) (f:lI w base e zc v n xs) (a) (m c) (news) (x:news.length=m*zc.length) (h:∀j u,news[j]? =some u->w.cell? (a.add j)=some u) (V:∀u∈news,u.oneCell'=true) (y:n+m<=maxLen) (p:(n+m)*bytes<=140737488355328) (r:base<=w.heap.size) (Y:0<m):∃F w',(Builtin.append_ #[t,t] ty #[v,.slice (some a) m c]).run P w=.ok F w'/\lI w' base e zc F (n+m) (xs++news)/\w.grownBy w' v.ownBlock/\((F.ownBlock=v.ownBlock/\w'.heap.size=w.heap.size)\/(F.ownBlock=some w.heap.size/\w'.heap.size=w.heap.size+1/\∀b,b<w.heap.size->w'.heap[b]? =w.heap[b]?)):=by
 subst I;have G:n+m<=9223372036854775807:=by simp only[maxLen]at y;omega
 have q:(xs++news).length=(n+m)*zc.length:=by rw[Uw,f.1,x,Wv]
 have grown:∀(old:Nat),lI (w.drew.alloc (.cells (xs.toArray++news.toArray++Builtin.zeroCells z.cells (grownCap w (n+m) old e-(n+m))) e)) base e zc
  (.slice (some ⟨w.heap.size,0,none⟩) (n+m) (grownCap w (n+m) old e)) (n+m) (xs++news):=by
  intro old;refine⟨q,.inr ⟨w.heap.size,_,rfl,r,?_,grownCap_ge w (n+m) old e,grownCap_le_maxLen w (n+m) old e y,by omega⟩⟩;have e0:xs.toArray++news.toArray++Builtin.zeroCells z.cells (grownCap w (n+m) old e-(n+m))=(xs++news++da zc (grownCap w (n+m) old e-(n+m))).toArray:=by apply WS;simp only[Array.toList_append,mP,J]
  rw[<-e0];exact heap_alloc_new w.drew _
 have gb:∀(old:Nat) (row:Option Nat),w.grownBy (w.drew.alloc (.cells (xs.toArray++news.toArray++Builtin.zeroCells z.cells (grownCap w (n+m) old e-(n+m))) e)) row:=λold row=>⟨rfl,rfl,rfl,by simp,λk L _=>heap_alloc_old w.drew _ k L⟩
 obtain⟨rfl,rfl⟩|⟨g,cap,rfl,N,T,W,O⟩:=f.2;have X:=UH (by simpa using f.1);subst X;have A:=run_append_nil (P:=P) w t ty e i z H hi R a m c news (by rw[x,d]) h (by omega) (by omega) (by have B:=p;simp only[Uo]at B;omega);have C:=grown 0;have D:=gb 0 (Value.ownBlock (.slice none 0 0));simp only[Uo,Wr,Vw]at C D⊢;exact⟨_,_,A,C,D,.inr ⟨rfl,by simp,λb B=>heap_alloc_old w.drew _ b B⟩⟩;by_cases l:n+m<=cap;have Q:((xs++da zc (cap-n)).toArray).size=cap*zc.length:=by simp only[UB,Uw,jm,f.1,<-Wv];congr 1;omega
 have E:n*i.size+news.length<=((xs++da zc (cap-n)).toArray).size:=by rw[x,Q,d,<-Wv];exact Nat.mul_le_mul_right _ l
 have A:=run_append_room (P:=P) w t ty e i H hi g n cap _ T a m c news (by rw[x,d]) h V l E;refine⟨_,_,A,⟨q,.inr ⟨g,cap,rfl,N,?_,l,O.1,by omega⟩⟩,⟨rfl,rfl,rfl,by simp,λk _ L=>setRow_other w g k _ (λe=>L (by simp[Value.ownBlock,e]))⟩,.inl ⟨rfl,by simp⟩⟩;rw[setRow_heap w g _ _ e _ T];congr 2;apply WS;simp only[Vn];rw[d,<-f.1];rw[List.take_left,X0,X0,<-WB,List.drop_left,x,EZ zc _ _ (by omega)];congr 1;omega;have s:=f.owns.cells (g:=g) rfl;have A:=run_append_grow (P:=P) w t ty e i z H hi R ⟨g,0,none⟩ n cap xs (by rw[f.1,d]) s a m c news (by rw[x,d]) h (by omega) (by omega) (growslice_fits (by omega) p);exact⟨_,_,A,grown cap,gb cap _,.inr ⟨rfl,by simp,λb B=>heap_alloc_old w.drew _ b B⟩⟩
variable {mn:Bool} {ty:TypeId} {Wg:Nat} {S:aJ} {K M:Nat->Prop} {w:World} {b:Frame} {a:Act} {k:List Item} {cs:List Frame} {ops:Array Oper} {i:Nat} {rest:List Nat} {o:Oper}
def E4{K M m}(h:Conc.Neutral m):EvK Wg K M ⟨.mark m,false,true⟩:=by have e:m=.noRoom:=h;subst e;exact⟨λx c=>by simp[MemAct.ofEvent,MemAct.touch?]at c,by simp,by simp,by simp,λB _=>trivial⟩
def Run.append(ho:ops[i]? =some o)(hw:Region.wanted o (yielded ops a.tmps)=true)(hk:b.kind≠ .early){s x t}(N:o.op=.call {callee:=.builtin .append,args:=#[s,x],argTypes:=#[t,t]}) {v} {ad} {m c} (hs:a.eval s=v) (hx:a.eval x=.slice (some ad) m c) {base} {e} {inf} {z} {zc} {bytes} (ht:P.underlying t=some (.slice e)) (hi:P.info? e=some inf) (hz:inf.zero=some z) (y:inf.size=zc.length) (O:inf.bytes=bytes) (Y:z.cells.toList=zc) (Z:0<zc.length) {n} {xs news} (Q:lI w base e zc v n xs) (B:∀g,v.ownBlock=some g->K g/\M g/\g≠Wg) (R:K ad.block) (hl:news.length=m*zc.length) (E:∀j u,news[j]? =some u->w.cell? (ad.add j)=some u) (h1:∀u∈news,u.oneCell'=true) (T:n+m<=maxLen) (p:(n+m)*bytes<=140737488355328) (F:base<=w.heap.size) (hm:0<m) (aa:∀b,K b->b<w.heap.size) (ab:Wg<w.heap.size) (hn:∀(U X) H w',lI w' base e zc H (n+m) (xs++news)->(∀g,H.ownBlock=some g->U g/\X g/\g≠Wg/\(some g=v.ownBlock\/w.heap.size<=g))->(∀b,K b->some b≠v.ownBlock->w'.heap[b]? =w.heap[b]?)->w.heap.size<=w'.heap.size->(WgLive ty Wg w->WgLive ty Wg w')->(∀b,K b->U b)->(∀b,U b->K b\/w.heap.size<=b)->(∀b,U b->b<w'.heap.size)->(∀b,M b->X b)->(∀b,X b->M b\/w.heap.size<=b)->Run P mn ty Wg S U X (G (b.at (a.put o.dst H) (.inRegion ops rest::k)) cs) w'):Run P mn ty Wg S K M (G (b.at a (.inRegion ops (i::rest)::k)) cs) w:=by (refine .value ho hw hk λw₁ d=>?_;have l:=Q.keep λg C=>d.keep g (B g C).1;have V:∀j,(ad.add j).block=ad.block:=λj=>by unfold Addr.add;split<;>rfl);(have f:∀j u,news[j]? =some u->w₁.cell? (ad.add j)=some u:=λj u hu=>(World.cell?_of_block (d.keep _ (by rw[V];exact R))).trans (E j u hu);obtain⟨H,w',hr,af,C,I⟩:=nO (P:=P) w₁ base t o.type e inf z zc bytes ht hi hz y O Y Z v n xs l ad m c news hl f h1 T p (Uf F d.size) hm;have q:∀b,K b->b<w₁.heap.size:=λb hb=>Ui (aa b hb) d.size;have W:(execOp a.eval o).run P w₁=.ok (.value H) w':=by unfold execOp;simp only[N,resolve,invoke,builtin,Sem.run_bind,Sem.run_pure,Result.andThen_ok,List.map_toArray,XB,List.map_nil,hs,hx,hr]);refine⟨H,w',W,⟨C.os,C.tape,C.output,C.size,λb hb ag=>C.block b hb λe=>?_⟩,λev J=>?_,?_⟩;exact ag (B b e.symm).2.1;rw[events_append_op s x t N hs hx]at J;(rcases events_append_where (P:=P) w₁ base t o.type e inf z zc.length bytes ht hi hz y O v n xs l.owns ad m c news hl f h1 T p ev J with⟨A,hA,r⟩|⟨mk,rfl,ak⟩);obtain⟨ay,wr,sy⟩:=ev;(simp only at hA r;subst hA;have L:sy=false:=by rcases(CH #[t,t] o.type #[v,.slice (some ad) m c]).cells P w₁ #[] _ J with h|h;simp at h;exact h A rfl);subst L;obtain⟨rfl,hb⟩|hb:=r;exact sN (.inl (by rw[hb];exact R));have:=B A.block hb.symm;(cases wr with|false=>exact sN (.inl this.1)|true=>exact AA (.inl this.1) (.inl this.2.1));exact E4 ak;have an:=C.block Wg (Ui ab d.size) λe=>(B Wg e.symm).2.2 rfl;refine hn _ _ H w' af (λg D=>?_) (λb hb ao=>(C.block b (q b hb) ao).trans (d.keep b hb)) (Uf d.size C.size) (λar=>?_) (λb hb=>.inl hb) (λb hb=>hb.imp id λx=>Uf d.size x.1) (λb hb=>hb.elim (λx=>Ui (q b x) C.size) λx=>x.2) (λb hb=>.inl hb) (λb hb=>hb.imp id λx=>Uf d.size x.1);obtain⟨e1,_⟩|⟨e1,e2,_⟩:=I;rw[e1]at D;have:=B g D;exact⟨.inl this.1,.inl this.2.1,this.2.2,.inl D.symm⟩;rw[e1]at D;cases D;exact⟨.inr ⟨Ue _,by omega⟩,.inr ⟨Ue _,by omega⟩,by have:=d.size;omega,.inr d.size⟩;obtain⟨st,sm,ax⟩:=d.live ar;exact⟨st,sm,ax.of_block an⟩
end
section
variable {P:Program} {mn:Bool} {ty:TypeId} {Wg:Nat} {S:aJ}
def EvK.mono{K f M g:Nat->Prop}{e}(h:EvK Wg K M e)(i:∀b,K b->f b)(j:∀b,M b->g b):EvK Wg f g e:=by refine⟨λx k=>?_,h.2⟩;obtain⟨b,l,m⟩:=h.1 x k;refine⟨b,l,m.imp (λ⟨a,c,d⟩=>⟨a,i b c,λn=>j b (d n)⟩) id⟩
def sS{K a:Nat->Prop}(h:∀b,K b->a b)(w w' b)(c:orK K w w' b):orK a w w' b:=c.imp (h b) id
def Q9(S:aJ)(B:Nat->Prop)(w₀:World):aJ:=λK M g w=>∃a c,S a c g w/\(∀b,a b->K b)/\(∀b,c b->M b)/\(∀b,K b->b<w.heap.size)/\(∀b,B b->K b/\¬M b/\w.heap[b]? =w₀.heap[b]?)/\(WgLive ty Wg w₀->WgLive ty Wg w)/\w₀.heap.size<=w.heap.size
def Run.frame{B w₀ c d g w}(h:Run P mn ty Wg S c d g w):∀{K₂ M₂},(∀b,c b->K₂ b)->(∀b,d b->M₂ b)->(∀b,K₂ b->b<w.heap.size)->(∀b,B b->K₂ b/\¬M₂ b/\w.heap[b]? =w₀.heap[b]?)->(WgLive ty Wg w₀->WgLive ty Wg w)->(Wg<w.heap.size/\¬M₂ Wg)->w₀.heap.size<=w.heap.size->Run P mn ty Wg (Q9 (ty:=ty) (Wg:=Wg) S B w₀) K₂ M₂ g w:=by
 induction h with
 | @stop c d g w h=>(intro K₂ M₂ l j o q r i s;refine .stop λw₁ a=>⟨c,d,h w₁ ⟨λb hb=>a.keep b (l b hb),a.live,a.size⟩,l,j,λb hb=>Ui (o b hb) a.size,λb hb=>?_,λx=>a.live (r x),Uf s a.size⟩);obtain⟨a1,p,t⟩:=q b hb;exact⟨a1,p,(a.keep b a1).trans t⟩
 | @step c d g w u m A C=>(intro K₂ M₂ l j o q r i s;have rk:∀w₁,RK ty Wg K₂ w w₁->RK ty Wg c w w₁:=λw₁ a=>⟨λb hb=>a.keep b (l b hb),a.live,a.size⟩);refine .jX u λw₁ a=>?_;obtain⟨g',w',es,e1,f,e3⟩:=m w₁ (rk w₁ a);refine⟨g',w',es,e1,⟨f.os,f.tape,f.output,f.size,λb hb D=>f.keep b hb λx=>D (j b x)⟩,λe E=>(e3 e E).mono (sS l w₁ w') (sS j w₁ w'),?_⟩;have k:=Ui i.1 a.size;have v:=f.keep Wg k λx=>i.2 (j Wg x);refine C w₁ g' w' es (rk w₁ a) e1 (sS l w₁ w') (sS j w₁ w') (λb hb=>?_) (λb hb=>?_) (λx=>?_) ⟨Ui k f.size,λx=>?_⟩ (Uf (Uf s a.size) f.size);obtain hb|hb:=hb;exact Ui (Ui (o b hb) a.size) f.size;exact hb.2;obtain⟨a1,p,t⟩:=q b hb;have n:=Ui (o b a1) a.size;refine⟨.inl a1,λx=>x.elim p λy=>absurd y.1 (Xf.2 n),?_⟩;rw[f.keep b n λx=>p (j b x),a.keep b a1,t];obtain⟨st,sm,z⟩:=a.live (r x);exact⟨st,sm,z.of_block v⟩;exact x.elim i.2 λy=>absurd y.1 (Xf.2 k)
end
end Go.Tm

import Derived.Conc.WgGenN2
import Derived.Conc.Comm2
import Derived.Conc.Own4
import Derived.Conc.Own5
import Derived.Laws.Rows
import Derived.Conc.AppendEvents
import Derived.Conc.AppendWalk
import Derived.Conc.CrowdBase
import Derived.Conc.CrowdComm
import Derived.Test.YtaglpcmhopjebaaGreatDoorS5
set_option linter.all false
set_option maxRecDepth 100000
set_option maxHeartbeats 20000000
namespace Go.Tm
open Go.Conc Go.ConcN Go.Conc.Lib
open Go.ConcR (KK WgAt stA smA rd wr mk DC0 Payload)
section
variable (P:Program) (ty:TypeId) (Wg ch:Nat) (z:Value)
def Still(S:aL)(K M:Nat->Prop)(g:Goroutine)(w:World):Prop:=∃m,Goes P false (RK ty Wg K) DC0 (S K M) m g w
def SD4:aL:=λ_ _ g w=>g.status=.running/\mayWake P g=true/\(WgAt ty Wg w 0 0->∃g',stepG P false g w=.go g' (w.setCell (smA Wg) (.int .u32 1)) (semEvents (smA Wg))/\∃q,QuitsD P q 1 g')
def SD3:aL:=λK M g w=>g.status=.running/\(WgAt ty Wg w 1 0->∃g',stepG P false g w=.go g' (w.setCell (stA Wg) (.int .u64 0)) #[wr (stA Wg)]/\Still P ty Wg (SD4 P ty Wg) K M g' (w.setCell (stA Wg) (.int .u64 0)))
def SD2:aL:=λK M g w=>g.status=.running/\(WgAt ty Wg w 1 0->∃g',stepG P false g w=.go g' w #[rd (stA Wg)]/\Still P ty Wg (SD3 P ty Wg) K M g' w)
def SD1:aL:=λK M g w=>g.status=.running/\∀v a:Nat,a<=1->v<2147483647->WgAt ty Wg w ((v+1)*KK+a) 0->∃g',stepG P false g w=.go g' (w.setCell (stA Wg) (.int .u64 (v*KK+a))) #[rd (stA Wg),wr (stA Wg)]/\((v=0/\a=1)->Still P ty Wg (SD2 P ty Wg) K M g' (w.setCell (stA Wg) (.int .u64 (v*KK+a))))/\(¬(v=0/\a=1)->∃q,QuitsD P q 1 g')
def SK1:aL:=λK M g w=>g.status=.running/\∃g',stepG P false g w=.go g' w #[mk .disable]/\Still P ty Wg (SD1 P ty Wg) K M g' w
def SR0:aL:=λK M g w=>g.status=.running/\∃g',stepG P false g w=.go g' w #[mk (.releaseMerge (stA Wg))]/\Still P ty Wg (SK1 P ty Wg) K M g' w
def ML(v:Value):aL:=let _z:=z;λK M g w=>g.status=.running/\(∃es,es=(#[]:Array Event)/\stepG P false g w=.comm {g with offers:=none} #[scase ch v bi] true .send w es)/\(Run P false ty Wg) (SR0 P ty Wg) K M (Conc.served g bi) w
def SWk(a:Option Value):aL:=λK M g w=>match a with|some v=>ML P ty Wg ch z v K M g w|none=>SR0 P ty Wg K M g w
def closeEvents:Array Event:=#[⟨.obj ch,false,true⟩,⟨.obj ch,true,true⟩]
def SCl:aL:=λ_ _ g w=>g.status=.running/\mayWake P g=true/\∀s r a,w.heap[ch]? =some (.chan 0 #[] false s r a)->∃g',stepG P false g w=.go g' {w with heap:=w.heap.setIfInBounds ch (.chan 0 #[] true s r a)} (closeEvents ch)/\∃q,QuitsD P q 0 g'
def Pb:aL:=λK M g w=>g.status=.running/\∃g',stepG P false g w=.go g' w #[mk (.acquire (stA Wg))]/\(Run P false ty Wg) (SCl P ch) K M g' w
def SWe:aL:=λK M g w=>g.status=.running/\∃g',stepG P false g w=.go g' w #[mk .enable]/\(Run P false ty Wg) (Pb P ty Wg ch) K M g' w
def SW4:aL:=λK M g w=>g.status=.running/\(WgAt ty Wg w 0 0->∃g',stepG P false g w=.go g' w #[rd (stA Wg)]/\(Run P false ty Wg) (SWe P ty Wg ch) K M g' w)
def SW3:aL:=λK M g w=>g.status=.running/\g.offers=none/\((∃st,WgAt ty Wg w st 0)->stepG P false g w=.go {g with status:=.blocked} w #[])/\(WgAt ty Wg w 0 1->∃g',stepG P false g w=.go g' (w.setCell (smA Wg) (.int .u32 0)) (semEvents (smA Wg))/\(Run P false ty Wg) (SW4 P ty Wg ch) K M g' (w.setCell (smA Wg) (.int .u32 0)))
def SSw:aL:=λK M g w=>g.status=.running/\∃g',stepG P false g w=.go g' w #[mk (.write (smA Wg))]/\(Run P false ty Wg) (SW3 P ty Wg ch) K M g' w
variable (An:aL)
def SW2(a:Nat):aL:=λK M g w=>g.status=.running/\∀v:Nat,v<2147483648->WgAt ty Wg w (v*KK) 0->
 (v=a->∃g',stepG P false g w=.go g' (w.setCell (stA Wg) (.int .u64 (v*KK+1))) #[rd (stA Wg),wr (stA Wg)]/\(Run P false ty Wg) (SSw P ty Wg ch) K M g' (w.setCell (stA Wg) (.int .u64 (v*KK+1))))/\
 (v≠a->∃g',stepG P false g w=.go g' w #[rd (stA Wg)]/\(Run P false ty Wg) An K M g' w)
def SW1:aL:=λK M g w=>g.status=.running/\∀v:Nat,v<2147483648->WgAt ty Wg w (v*KK) 0->∃g',stepG P false g w=.go g' w #[rd (stA Wg)]/\(v=0->(Run P false ty Wg) (SWe P ty Wg ch) K M g' w)/\(v≠0->(Run P false ty Wg) (SW2 P ty Wg ch An v) K M g' w)
def SWd:aL:=λK M g w=>g.status=.running/\∃g',stepG P false g w=.go g' w #[mk .disable]/\(Run P false ty Wg) (SW1 P ty Wg ch An) K M g' w
variable (HV:Nat->Option Value) (Fin:List Value->aL) (n:Nat)
def oQ:Nat->List Value->aL
 |0,a=>λK M g w=>g.status=.running/\stepG P true g w=.comm {g with offers:=none} #[rcase ch z] true (.recv true) w #[]/\Fin a K M (Conc.served g (.tuple #[z,.bool false])) w
 |r+1,a=>λK M g w=>g.status=.running/\stepG P true g w=.comm {g with offers:=none} #[rcase ch z] true (.recv true) w #[]/\Fin a K M (Conc.served g (.tuple #[z,.bool false])) w/\∀i v,i<n->HV i=some v->(Run P true ty Wg) (oQ r (a++[v])) K M (Conc.served g (.tuple #[v,.bool true])) w
def J1:aL:=λK M g w=>g.status=.running/\∃g' a Kc,stepG P true g w=.spawn g' a w #[]/\a.status=.running/\a.offers=none/\(∀b,Kc b->K b)/\(Run P false ty Wg) (SWd P ty Wg ch An) Kc (λ_=>False) a w/\(Run P true ty Wg) (oQ P ty Wg ch z HV Fin n n []) K (λ_=>False) g' w
def SGo(r:Nat)(Nx:aL):aL:=λK M g w=>g.status=.running/\∃g' a Kc,stepG P true g w=.spawn g' a w #[]/\a.status=.running/\a.offers=none/\(∀b,Kc b->K b)/\(Run P false ty Wg) (SWk P ty Wg ch z (HV (n-(r+1)))) Kc (λ_=>False) a w/\(Run P true ty Wg) Nx K (λ_=>False) g' w
def SKe(r:Nat)(Nx:aL):aL:=λK M g w=>g.status=.running/\∃g',stepG P true g w=.go g' w #[mk .enable]/\(Run P true ty Wg) (SGo P ty Wg ch z HV n r Nx) K M g' w
def SSr(r:Nat)(Nx:aL):aL:=λK M g w=>g.status=.running/\∃g',stepG P true g w=.go g' w #[mk (.read (smA Wg))]/\(Run P true ty Wg) (SKe P ty Wg ch z HV n r Nx) K M g' w
def SA1(r:Nat)(Nx:aL):aL:=λK M g w=>g.status=.running/\∀v:Nat,v<2147483647->WgAt ty Wg w (v*KK) 0->∃g',stepG P true g w=.go g' (w.setCell (stA Wg) (.int .u64 ((v+1)*KK))) #[rd (stA Wg),wr (stA Wg)]/\((Run P true ty Wg) (SSr P ty Wg ch z HV n r Nx) K M g' (w.setCell (stA Wg) (.int .u64 ((v+1)*KK)))\/(Run P true ty Wg) (SKe P ty Wg ch z HV n r Nx) K M g' (w.setCell (stA Wg) (.int .u64 ((v+1)*KK))))
def SKd(r:Nat)(Nx:aL):aL:=λK M g w=>g.status=.running/\∃g',stepG P true g w=.go g' w #[mk .disable]/\(Run P true ty Wg) (SA1 P ty Wg ch z HV n r Nx) K M g' w
def SSp:Nat->aL
 |0=>J1 P ty Wg ch z An HV Fin n
 |r+1=>SKd P ty Wg ch z HV n r (SSp r)
end
section
variable {P:Program} {ty:TypeId} {Wg ch:Nat} {z:Value}
def RK.rl{K w Z1}(h:RK ty Wg K w Z1):RL ty Wg w Z1:=h.live
section worker
variable [Payload] {C n0:Nat} {K M:Nat->Prop} {v:Value}
def RK.rw{w Z1}(c:K C)(h:RK ty Wg K w Z1):RW ty Wg C n0 0 0 w Z1:=⟨λb d=>absurd d (TL _),h.live,λ⟨cs,a,b⟩=>⟨cs,(h.keep C c).trans a,b⟩,cell_of_block (h.keep C c) 0⟩
omit [Payload]in
def MM{mn}{R R':World->World->Prop}{D}{f c:Goroutine->World->Prop}(e:∀w a,R' w a->R w a)(i:∀g w,f g w->c g w):∀{m} {g} {w},Goes P mn R D f m g w->Goes P mn R' D c m g w:=by intro m;induction m with|zero=>exactλh a b=>i _ _ (h a (e _ _ b))|succ m j=>intro g w h;obtain h|⟨k,h⟩:=h;exact .inl λa b=>i _ _ (h a (e _ _ b));refine .inr ⟨k,λa b=>?_⟩;have:=h a (e _ _ b);cases d:stepG P mn g a with|go g' w' es=>rw[d,goes_go]at this;rw[goes_go];exact⟨this.1,j this.2⟩|_=>rw[d]at this;exact this.elim
def mL{a}{S:aL}(b:K C){g w}(h:∃m,Goes P false (RW ty Wg C n0 0 0) DC0 a m g w)(c:∀g w,a g w->S K M g w):Still P ty Wg S K M g w:=let⟨m,h⟩:=h;⟨m,MM (λ_ _ r=>r.rw b) c h⟩
def R8(c:K C)(g w)(h:AtD3 P ty Wg C n0 0 1 g w):SD3 P ty Wg K M g w:=⟨h.1,λx=>let⟨g',a,b⟩:=h.2 x;⟨g',a,mL c b λ_ _ y=>y⟩⟩
def R9(c:K C)(g w)(h:AtD2 P ty Wg C n0 0 1 g w):SD2 P ty Wg K M g w:=⟨h.1,λx=>let⟨g',a,b⟩:=h.2 x;⟨g',a,mL c b (R8 c)⟩⟩
def Sd(d:K C)(g w)(h:AtD1 P ty Wg C n0 0 1 g w):SD1 P ty Wg K M g w:=⟨h.1,λv f i j k=>let⟨g',a,b,c⟩:=h.2 v f i j k;⟨g',a,λe=>mL d (b e) (R9 d),c⟩⟩
def Se(c:K C)(g w)(h:AtK1 P ty Wg C n0 0 1 g w):SK1 P ty Wg K M g w:=⟨h.1,let⟨g',a,b⟩:=h.2;⟨g',a,mL c b (Sd c)⟩⟩
def Sf(c:K C)(g w)(h:AtR0 P ty Wg C n0 0 1 v g w):SR0 P ty Wg K M g w:=⟨h.1,let⟨g',a,b⟩:=h.2.2;⟨g',a,mL c b (Se c)⟩⟩
end worker
end
end Go.Tm
namespace Go.Tm
open Go.Conc Go.ConcN
section
variable (P:Program) (ty:TypeId) (Wg:Nat)
structure RC where
 mn:Bool
 S:aL
 c:Cfg
 acc:Acc (Nxt P mn ty Wg S) c
def RC.lt(a b:RC P ty Wg):Prop:=a.mn=b.mn/\a.S=b.S/\Nxt P b.mn ty Wg b.S a.c b.c
def RC.wf:WellFounded (RC.lt P ty Wg):=⟨λ⟨mn,S,c,acc⟩=>by (have key:∀c,(h:Acc (Nxt P mn ty Wg S) c)->Acc (RC.lt P ty Wg) ⟨mn,S,c,h⟩:=by intro c h;induction h with|intro c f d=>refine⟨_,?_⟩;rintro⟨e,i,c',a⟩ ⟨e1,b,h⟩;simp only at e1 b h;subst e1;subst b;exact d c' h);exact key c acc⟩
abbrev Rk:=Nat×Nat×RC P ty Wg
def Rk.lt:Rk P ty Wg->Rk P ty Wg->Prop:=Prod.Lex (· < ·) (Prod.Lex (· < ·) (RC.lt P ty Wg))
def Rk.wf:WellFounded (Rk.lt P ty Wg):=(Prod.lex Nat.lt_wfRel (Prod.lex Nat.lt_wfRel ⟨_,RC.wf P ty Wg⟩)).wf
structure cO(mn:Bool)(S:aL)(K M:Nat->Prop)(g:Goroutine)(w:World)(x:RC P ty Wg):Prop where
 mn_:x.mn=mn
 S_:x.S=S
 K_:x.c.K=K
 M_:x.c.M=M
 g_:x.c.g=g
 rk:RK ty Wg K x.c.w w
 run:Run P mn ty Wg S K M g x.c.w
end
section
variable {P:Program} {ty:TypeId} {Wg:Nat} {mn:Bool} {S:aL} {K M:Nat->Prop} {g:Goroutine} {w Z1:World}
def cO.of(h:Run P mn ty Wg S K M g w):∃x,cO P ty Wg mn S K M g w x:=⟨⟨mn,S,⟨K,M,g,w⟩,h.acc⟩,rfl,rfl,rfl,rfl,rfl,.refl _,h⟩
def cO.rely{x}(h:cO P ty Wg mn S K M g w x)(r:RK ty Wg K w Z1):cO P ty Wg mn S K M g Z1 x:={h with rk:=h.rk.trans r}
def cO.now{x}(h:cO P ty Wg mn S K M g w x):Run P mn ty Wg S K M g w:=h.run.rely h.rk
def cO.qv{x}(h:cO P ty Wg mn S K M g w x):S K M g w\/(g.status=.running/\∃g' w' es k,stepG P mn g w=.go g' w' es/\Eff M w w'/\(∀e∈es,EvK Wg (orK K w w') (orK M w w') e)/\cO P ty Wg mn S (orK K w w') (orK M w w') g' w' k/\RC.lt P ty Wg k x):=by by_cases l:AtS ty Wg S x.c;left;have:=l w (by rw[h.K_];exact h.rk);rw[h.K_,h.M_,h.g_]at this;exact this;have n:=h.run;cases n with|stop i=>exact .inl (i w h.rk)|step d f j=>obtain⟨g',w',es,a,b,c⟩:=f w h.rk;have m:=j w g' w' es h.rk a;refine .inr ⟨d,g',w',es,⟨mn,S,⟨_,_,g',w'⟩,m.acc⟩,a,b,c,⟨rfl,rfl,rfl,rfl,rfl,.refl _,m⟩,h.mn_.symm,h.S_.symm,?_⟩;have e1:=h.mn_;have o:=h.S_;have e3:=h.K_;have e4:=h.M_;have e5:=h.g_;refine⟨by rw[o];exact l,w,g',w',es,by rw[e3];exact h.rk,by rw[e1,e5];exact a,by rw[e3,e4]⟩
def cO.mg{x}(h:cO P ty Wg mn S K M g w x):(∀Z1,RK ty Wg K w Z1->S K M g Z1)\/(g.status=.running/\∃g' w' es l,stepG P mn g w=.go g' w' es/\Eff M w w'/\(∀e∈es,EvK Wg (orK K w w') (orK M w w') e)/\cO P ty Wg mn S (orK K w w') (orK M w w') g' w' l/\RC.lt P ty Wg l x):=by by_cases m:AtS ty Wg S x.c;left;intro Z1 d;have:=m Z1 (by rw[h.K_];exact h.rk.trans d);rw[h.K_,h.M_,h.g_]at this;exact this;have o:=h.run;cases o with|stop j=>exact .inl λZ1 d=>j Z1 (h.rk.trans d)|step f i k=>obtain⟨g',w',es,a,b,c⟩:=i w h.rk;have n:=k w g' w' es h.rk a;refine .inr ⟨f,g',w',es,⟨mn,S,⟨_,_,g',w'⟩,n.acc⟩,a,b,c,⟨rfl,rfl,rfl,rfl,rfl,.refl _,n⟩,h.mn_.symm,h.S_.symm,?_⟩;have e1:=h.mn_;have p:=h.S_;have e3:=h.K_;have e4:=h.M_;have e5:=h.g_;refine⟨by rw[p];exact m,w,g',w',es,by rw[e3];exact h.rk,by rw[e1,e5];exact a,by rw[e3,e4]⟩
def cO.status(a:∀K M g w,S K M g w->g.status=.running){x}(h:cO P ty Wg mn S K M g w x):g.status=.running:=by obtain h|h:=h.qv;exact a _ _ _ _ h;exact h.1
end
section
variable {P:Program} {mn:Bool} {ty:TypeId} {Wg:Nat} {S:aL} {K M:Nat->Prop} {w:World} {b:Frame} {a:Act} {k:List Item} {cs:List Frame} {ops:Array Oper} {i:Nat} {rest:List Nat} {o:Oper}
def Run.still{g g'}(e:g.status=.running)(h:∀c,stepG P mn g c=.go g' c #[])(f:(Run P mn ty Wg S) K M g' w):(Run P mn ty Wg S) K M g w:=.jY e λc d=>⟨g',c,#[],h c,Eff.refl _ _,by simp,by rw[cu rfl,cu rfl];exact f.rely d⟩
def Run.value(f:ops[i]? =some o)(g:Region.wanted o (yielded ops a.tmps)=true)(j:b.kind≠ .early) (h:∀c,RK ty Wg K w c->∃v w',(execOp a.eval o).run P c=.ok (.value v) w'/\Eff M c w'/\(∀e∈(execOp a.eval o).events P c #[],EvK Wg (orK K c w') (orK M c w') e)/\(Run P mn ty Wg S) (orK K c w') (orK M c w') (G (b.at (a.put o.dst v) (.inRegion ops rest::k)) cs) w'):(Run P mn ty Wg S) K M (G (b.at a (.inRegion ops (i::rest)::k)) cs) w:=
 .jY rfl λc d=>by obtain⟨v,w',l,m,n,p⟩:=h c d;exact⟨_,w',_,stepG_value f g j l,m,λe q=>n e (mem_seen q),p⟩
def Run.none(f:ops[i]? =some o)(g:Region.wanted o (yielded ops a.tmps)=true)(j:b.kind≠ .early) (h:∀c,RK ty Wg K w c->∃w',(execOp a.eval o).run P c=.ok .skip w'/\Eff M c w'/\(∀e∈(execOp a.eval o).events P c #[],EvK Wg (orK K c w') (orK M c w') e)/\(Run P mn ty Wg S) (orK K c w') (orK M c w') (G (b.at (a.put o.dst bi) (.inRegion ops rest::k)) cs) w'):(Run P mn ty Wg S) K M (G (b.at a (.inRegion ops (i::rest)::k)) cs) w:=
 .jY rfl λc d=>by obtain⟨w',l,m,n,p⟩:=h c d;exact⟨_,w',_,stepG_none f g j l,m,λe q=>n e (mem_seen q),p⟩
def Run.pure(v)(e:ops[i]? =some o)(f:Region.wanted o (yielded ops a.tmps)=true)(g:b.kind≠ .early)(h:∀c,(execOp a.eval o).run P c=.ok (.value v) c)(j:∀c,(execOp a.eval o).events P c #[]=#[]) (l:(Run P mn ty Wg S) K M (G (b.at (a.put o.dst v) (.inRegion ops rest::k)) cs) w):(Run P mn ty Wg S) K M (G (b.at a (.inRegion ops (i::rest)::k)) cs) w:=
 .value e f g λc d=>⟨v,c,h c,Eff.refl _ _,by rw[j];simp,by rw[cu rfl,cu rfl];exact l.rely d⟩
def EE{t:TypeId}{d:TypeDesc}(c:P.underlying t=some d)(w:World):(isAgg t).run P w=.ok (match d with| .struct _| .array _ _=>true|_=>false) w:=by unfold isAgg;rw[Sem.run_bind,run_underlying c w];cases d<;>simp
def xM{t d}(c:P.underlying t=some d)(w es):(isAgg t).events P w es=es:=by unfold isAgg underlying;simp only[Sem.events_bind];simp[c];cases d<;>simp
def sL{K M A}(h:K A.block):EvK Wg K M ⟨.cell A,false,false⟩:=by refine⟨λx c=>?_,by simp,by simp,by simp,λB h=>by simp[MemAct.ofEvent,MemAct.touch?]at h⟩;simp[MemAct.ofEvent,MemAct.touch?]at c;subst c;exact⟨A.block,rfl,.inl ⟨rfl,h,λe=>by cases e⟩⟩
def Ar{K M A}(h:K A.block)(d:M A.block):EvK Wg K M ⟨.cell A,true,false⟩:=by refine⟨λx c=>?_,by simp,by simp,by simp,λB h=>by simp[MemAct.ofEvent,MemAct.touch?]at h⟩;simp[MemAct.ofEvent,MemAct.touch?]at c;subst c;exact⟨A.block,rfl,.inl ⟨rfl,h,λ_=>d⟩⟩
def Run.EF(q:ops[i]? =some o)(r:Region.wanted o (yielded ops a.tmps)=true)(s:b.kind≠ .early){t:TypeId}{x:Operand}(g:o.op=.load t x){A:Addr}(m:a.eval x=.pointer (some A))(z:A.spot=Option.none){d:TypeDesc}(n:P.underlying t=some d)(u:(match d with| .struct _| .array _ _=>true|_=>false)=false) (h:K A.block) {v:Value} (p:w.cell? A=some v) (y:(Run P mn ty Wg S) K M (G (b.at (a.put o.dst v) (.inRegion ops rest::k)) cs) w):(Run P mn ty Wg S) K M (G (b.at a (.inRegion ops (i::rest)::k)) cs) w:=by (have f:∀Z1,(isAgg t).run P Z1=.ok false Z1:=λZ1=>by rw[EE n Z1,u]);(refine .value q r s λZ1 c=>⟨v,Z1,?_,Eff.refl _ _,?_,by rw[cu rfl,cu rfl];exact y.rely c⟩);(have j:Z1.cell? A=some v:=by rw[<-p];unfold World.cell?;rw[c.keep A.block h]);unfold execOp;simp[g,m,Instr.loadAt,Instr.sureAddr,loadVar,Sem.run_bind,f,j];(have j:Z1.cell? A=some v:=by rw[<-p];unfold World.cell?;rw[c.keep A.block h]);rw[cu rfl,cu rfl];intro e l;unfold execOp at l;simp[g,m,Instr.loadAt,Instr.sureAddr,loadVar,Sem.events_bind,f,xM n,j]at l;subst l;exact sL h
theorem fO(A)(f:A.spot=Option.none):∀(n i) (acc) (w) (es),(∀j,j<n->(w.cell? (A.add (i+j))).isSome)->∀e∈(loadCellsFrom A i n acc).events P w es,e∈es\/∃B,B.block=A.block/\e=(⟨.cell B,false,false⟩:Event)
 |0,i,acc,w,es,_=>λe c=>.inl (by simpa[loadCellsFrom]using c)
 |n+1,i,acc,w,es,h=>λe c=>by
  obtain⟨v,d⟩:=Xe.1 (h 0 (by omega));rw[UB]at d;simp only[loadCellsFrom,Sem.events_bind,run_load,d,Result.evThen_ok,events_load]at c;have g:(A.add i).block=A.block:=by unfold Addr.add;split<;>rfl
  rcases fO A f n (i+1) _ w _ (λj l=>by have:=h (j+1) (by omega);rwa[show i+(j+1)=i+1+j by omega]at this) e c with h1|h1
  .obtain h1|rfl:=VB.1 h1
   .exact .inl h1
   .exact .inr ⟨_,g,rfl⟩
  .exact .inr h1
def Run.sM(D:ops[i]? =some o)(E:Region.wanted o (yielded ops a.tmps)=true)(F:b.kind≠ .early){t:TypeId}{x:Operand}(m:o.op=.load t x){g:Nat}(y:a.eval x=.pointer (some ⟨g,0,Option.none⟩)){d:TypeDesc}(r:P.underlying t=some d) (z:(match d with| .struct _| .array _ _=>true|_=>false)=true) (s:K g) {e:TypeId} {c:Array Value} {fr:Nat×Nat} (A:w.heap[g]? =some (.cells c e fr)) (C:(P.info? t).map (·.size)=some c.size) (H:(Run P mn ty Wg S) K M (G (b.at (a.put o.dst (.agg c)) (.inRegion ops rest::k)) cs) w):(Run P mn ty Wg S) K M (G (b.at a (.inRegion ops (i::rest)::k)) cs) w:=by (refine .value D E F λZ1 f=>⟨.agg c,Z1,?_,Eff.refl _ _,?_,by rw[cu rfl,cu rfl];exact H.rely f⟩);have h:=(f.keep g s).trans A;unfold execOp;simp[m,y,Instr.loadAt,Instr.sureAddr,run_loadVar_row Z1 g e t c fr d h r z C];have h:=(f.keep g s).trans A;(rw[cu rfl,cu rfl];intro ev u;have n:(isAgg t).run P Z1=.ok true Z1:=by rw[EE r Z1,z]);(obtain⟨inf,p,v⟩:=T4.1 C;unfold execOp at u;simp[m,y,Instr.loadAt,Instr.sureAddr,loadVar,Sem.events_bind,n,xM r,sizeOf,typeInfo,p,v]at u;have l:∀j,j<c.size->(Z1.cell? ((⟨g,0,Option.none⟩:Addr).add (0+j))).isSome:=λj I=>by (have q:(⟨g,0,Option.none⟩:Addr).add (0+j)=⟨g,j,Option.none⟩:=by unfold Addr.add;split<;>simp_all);rw[q,cell_of_row Z1 g j c e fr h];simp[I]);have:=fO (P:=P) ⟨g,0,Option.none⟩ rfl _ 0 #[] Z1 #[] l ev u;obtain J|⟨B,L,rfl⟩:=this;simp at J;exact sL (by rw[L];exact s)
def Run.fresh{ob}(v:Nat->Value)(n:ops[i]? =some o)(p:Region.wanted o (yielded ops a.tmps)=true)(q:b.kind≠ .early) (r:∀Z1,(execOp a.eval o).run P Z1=.ok (.value (v Z1.heap.size)) {Z1 with heap:=Z1.heap.push ob}) (s:∀Z1,(execOp a.eval o).events P Z1 #[]=#[]) (t:∀(m) (w'),w.heap.size<=m->(∀b,K b->w'.heap[b]? =w.heap[b]?)->w'.heap[m]? =some ob->w'.heap.size=m+1->(WgLive ty Wg w->WgLive ty Wg w')->(Run P mn ty Wg S) (λb=>K b\/b=m) (λb=>M b\/b=m) (G (b.at (a.put o.dst (v m)) (.inRegion ops rest::k)) cs) w') (l:∀b,K b->b<w.heap.size):(Run P mn ty Wg S) K M (G (b.at a (.inRegion ops (i::rest)::k)) cs) w:=by (refine .value n p q λZ1 c=>?_;have e:({Z1 with heap:=Z1.heap.push ob}:World).heap.size=Z1.heap.size+1:=by simp);(have f:∀X:Nat->Prop,orK X Z1 {Z1 with heap:=Z1.heap.push ob}=λb=>X b\/b=Z1.heap.size:=by intro X;funext b;apply propext;unfold orK GU;rw[e];constructor;rintro(h|⟨x,y⟩);exact .inl h;exact .inr (by omega);rintro(h|rfl);exact .inl h;exact .inr ⟨Tw _,by omega⟩);(have d:∀b,b<Z1.heap.size->(Z1.heap.push ob)[b]? =Z1.heap[b]? :=λb g=>by rw[Un,Tu (by omega)]);refine⟨_,_,r Z1,⟨rfl,rfl,rfl,by omega,λb g _=>d b g⟩,by rw[s];simp,?_⟩;rw[f,f];refine t Z1.heap.size _ c.size (λb g=>(d b (TB (l b g) c.size)).trans (c.keep b g)) (by simp) e λu=>?_;obtain⟨st,sm,j⟩:=c.live u;refine⟨st,sm,j.of_block (d Wg ?_)⟩;exact(TC.1 (show Z1.heap[Wg]? =some _ from j)).1
end
section
variable {P:Program}
def setRow_size(w:World)(g c):(w.setRow g c).heap.size=w.heap.size:=by unfold World.setRow;simp
def oT(w:World)(g b c)(h:b≠g):(w.setRow g c).heap[b]? =w.heap[b]? :=by unfold World.setRow;simp only[];rw[Uo,Tu (TO h)]
def setRow_os(w:World)(g c):(w.setRow g c).os=w.os/\(w.setRow g c).tape=w.tape/\(w.setRow g c).output=w.output:=by exact⟨rfl,rfl,rfl⟩
def Cm(g t):∀(c) (i) (cur) (w) (es),w.heap[g]? =some (.cells cur t (0,0))->i+c.length<=cur.size->(∀v∈c,v.oneCell'=true)->∀ev∈(storeCells ⟨g,0,none⟩ c i).events P w es,ev∈es\/∃B,B.block=g/\ev=(⟨.cell B,true,false⟩:Event):=by intro c;induction c with|nil=>intro i cur w es _ _ _ ev h;exact .inl (by simpa[storeCells]using h)|cons v c r=>(intro i cur w es e j l ev h;have s:i<cur.size:=by simp at j;omega);(have m:(⟨g,0,none⟩:Addr).add i=⟨g,i,none⟩:=by unfold Addr.add;split<;>simp_all);(have n:=l v (by simp);have p:w.cell? ⟨g,i,none⟩=some cur[i]:=by simp[World.cell?,e,s]);(have q:w.frozen? ⟨g,i,none⟩=false:=by simp[World.frozen?,e]);(have d:(store ((⟨g,0,none⟩:Addr).add i) v).run P w=.ok () (w.setRow g (cur.setIfInBounds i v)):=by rw[m,run_store P w _ v _ n,p];simp[q,setCell_eq_setRow w g i cur t (0,0) v e]);(have f:(store ((⟨g,0,none⟩:Addr).add i) v).events P w es=es.push ⟨.cell ⟨g,i,none⟩,true,false⟩:=by rw[m,events_store P w es _ v _ n,p];simp only[q,TS,TP];rfl);simp only[storeCells,Sem.events_bind,d,Result.evThen_ok,f]at h;rcases r (i+1) _ _ _ (setRow_heap w g cur _ t _ e) (by simp at j⊢;omega) (λx u=>l x (by simp[u])) ev h with h2|h2;obtain h2|rfl:=VB.1 h2;exact .inl h2;exact .inr ⟨_,rfl,rfl⟩;exact .inr h2
variable {mn:Bool} {ty:TypeId} {Wg:Nat} {S:aL} {K M:Nat->Prop} {w:World} {b:Frame} {a:Act} {k:List Item} {cs:List Frame} {ops:Array Oper} {i:Nat} {rest:List Nat} {o:Oper}
def xR(t A v):storeVar t A v=storeVar t A (.agg v.cells):=by unfold storeVar;rfl
def Run.store(J:ops[i]? =some o)(L:Region.wanted o (yielded ops a.tmps)=true)(N:b.kind≠ .early){t x y}(l:o.op=.store t x y){g}(A:a.eval x=.pointer (some ⟨g,0,Option.none⟩)){e old cells}(C:(a.eval y).cells=cells) (O:w.heap[g]? =some (.cells old e (0,0))) (D:(P.info? t).map (·.size)=some cells.size) (m:old.size=cells.size) (E:cells.all (·.oneCell')=true) (F:K g) (H:M g) (r:g≠Wg) (Q:∀w',(∀b,K b->b≠g->w'.heap[b]? =w.heap[b]?)->w'.heap[g]? =some (.cells cells e (0,0))->w.heap.size<=w'.heap.size->(WgLive ty Wg w->WgLive ty Wg w')->Run P mn ty Wg S K M (G (b.at (a.put o.dst bi) (.inRegion ops rest::k)) cs) w'):Run P mn ty Wg S K M (G (b.at a (.inRegion ops (i::rest)::k)) cs) w:=by refine .none J L N λc d=>?_;have h:=(d.keep g F).trans O;have n:=run_storeVar_row (P:=P) c g e t old cells h D m E;have f:=setRow_size c g cells;refine⟨c.setRow g cells,?_,⟨(setRow_os _ _ _).1,(setRow_os _ _ _).2.1,(setRow_os _ _ _).2.2,by omega,λI _ s=>oT _ _ _ _ λe=>s (e▸H)⟩,λev j=>?_,?_⟩;unfold execOp;simp only[l,A,Instr.storeAt,Instr.sureAddr];simp[Sem.run_bind,xR t _ (a.eval y),C,n];unfold execOp at j;obtain⟨inf,p,q⟩:=T4.1 D;simp[l,A,Instr.storeAt,Instr.sureAddr,Sem.events_bind,storeVar,C,sizeOf,typeInfo,p,q]at j;rcases Cm g e cells.toList 0 old c #[] h (by simp;omega) (λv R=>(Array.all_eq_true_iff_forall_mem.1 E) v (by simpa using R)) ev j with h2|⟨B,hB,rfl⟩;simp at h2;rw[cu f,cu f];exact Ar (by rw[hB];exact F) (by rw[hB];exact H);rw[cu f,cu f];refine Q _ (λI s u=>(oT _ _ _ _ u).trans (d.keep I s)) (setRow_heap c g old _ e _ h) (by rw[f];exact d.size) λT=>?_;obtain⟨st,sm,z⟩:=d.live T;exact⟨st,sm,z.of_block (oT _ _ _ _ (TO r))⟩
end
def cP(zc:List Value)(k:Nat):List Value:=(List.replicate k zc).flatten
def jm(zc k):(cP zc k).length=k*zc.length:=by unfold cP;induction k with|zero=>simp|succ k c=>simp[List.replicate_succ,c,VC];omega
def EI(zc a b)(h:b<=a):(cP zc a).drop (b*zc.length)=cP zc (a-b):=by obtain⟨k,rfl⟩:=VV h;unfold cP;rw[<-List.replicate_append_replicate,List.flatten_append,List.drop_append_of_le_length (by rw[<-cP,jm];exact Tw _)];have:((List.replicate b zc).flatten).drop (b*zc.length)=[]:=T6 (by rw[<-cP,jm];exact Tw _);rw[this];simp
def mO(z k):(Builtin.zeroCells z k).toList=cP z.toList k:=by unfold Builtin.zeroCells;simp only[Array.toList_map,Array.toList_range];induction k with|zero=>simp[cP]|succ k d=>(have e:cP z.toList (k+1)=cP z.toList k++z.toList:=by unfold cP;rw[List.replicate_succ',List.flatten_append];simp);rw[e,<-d,VC,Nat.one_mul,List.range_add,Vk];congr 1;rw[List.map_map];apply WM;simp;intro i g f;(simp only[VU,Function.comp,WT,Wz];have c:i<z.size:=by simpa using f);rw[show(k*z.size+i)%z.size=i from by rw[VO,Nat.add_mul_mod_self_right,Nat.mod_eq_of_lt c]];simp[c]
inductive aV{α:Type}:Sem α->Prop
 |pure (a):aV (.pure a)
 |halt (h):aV (.halt h)
 |load (a) {k}:(∀v,aV (k v))->aV (.load .plain a k)
 |store (a v) {k}:aV k->aV (.store .plain a v k)
 |new (o) {k}:(∀r,aV (k r))->aV (.new o k)
 |shape (r) {k}:(∀x,aV (k x))->aV (.shape r k)
 |frozen (a) {k}:(∀x,aV (k x))->aV (.frozen a k)
 |choose (q) {k}:(∀x,aV (k x))->aV (.choose q k)
 |program {k}:(∀x,aV (k x))->aV (.program k)
 |mark (m) {k}:aV k->aV (.mark m k)
def aV.bind{d e s}{f:d->Sem e}(h:aV s)(g:∀a,aV (f a)):aV (s>>= f):=by show aV (s.bind f);induction h with|pure a=>exact g a|halt h=>exact .halt h|load a _ c=>exact .load a c|store a v _ c=>exact .store a v c|new o _ c=>exact .new o c|shape r _ c=>exact .shape r c|frozen a _ c=>exact .frozen a c|choose q _ c=>exact .choose q c|program _ c=>exact .program c|mark m _ c=>exact .mark m c
def aV.cells{g}{s:Sem g}(h:aV s):∀(P) (w) (es),∀ev∈(s.runT P w es).2,ev∈es\/∀A,ev.loc=.cell A->ev.sync=false:=by
 induction h with
 |pure a=>exactλP w es ev h=>.inl h
 |halt a=>exactλP w es ev h=>.inl h
 |load a _ d=>intro P w es ev h;simp only[Sem.runT]at h;split at h;obtain h|h:=d _ P _ _ ev h;obtain h|rfl:=VB.1 h;exact .inl h;exact .inr λ_ _=>rfl;exact .inr h;split at h;obtain h|h:=d _ P _ _ ev h;obtain h|h:=Us.1 h;exact .inl h;obtain⟨_,_,rfl⟩:=Wi.1 h;exact .inr λ_ _=>rfl;exact .inr h;exact .inl h
 | @store a v k _ d=>intro P w es ev h;by_cases f:(∀c,v≠ .agg c)/\(∀c,v≠ .tuple c);rw[iS P a v k w es f.1 f.2]at h;split at h;split at h;exact .inl h;obtain h|h:=d P _ _ ev h;obtain h|rfl:=VB.1 h;exact .inl h;exact .inr λ_ _=>rfl;exact .inr h;split at h;obtain h|h:=d P _ _ ev h;obtain h|h:=Us.1 h;exact .inl h;obtain⟨_,_,rfl⟩:=Wi.1 h;exact .inr λ_ _=>rfl;exact .inr h;exact .inl h;cases v<;>first|(simp at f;done)|exact .inl h
 |new o _ d=>exactλP w es ev h=>d _ P _ _ ev h
 |shape r _ d=>exactλP w es ev h=>d _ P _ _ ev h
 |frozen a _ d=>exactλP w es ev h=>d _ P _ _ ev h
 |choose q _ d=>intro P w es ev h;simp only[Sem.runT]at h;split at h;exact d _ P _ _ ev h;exact d _ P _ _ ev h
 |program _ d=>exactλP w es ev h=>d _ P _ _ ev h
 |mark m _ d=>intro P w es ev h;obtain h|h:=d P _ _ ev h;obtain h|rfl:=VB.1 h;exact .inl h;(exact .inr λA e=>by cases e);exact .inr h
theorem jZ(a):∀(n i) (acc),aV (loadCellsFrom a i n acc)
 |0,_,_=>.pure _
 |n+1,i,acc=>aV.bind (.load _ λv=>.pure v) λv=>jZ a n (i+1) _
theorem mP(a):∀(c) (i),aV (storeCells a c i)
 | [],_=>.pure _
 |v::c,i=>aV.bind (.store _ _ (.pure _)) λ_=>mP a c (i+1)
def ub(t):aV (underlying t):=by unfold underlying;refine aV.bind (.program λ_=>.pure _) λp=>?_;split;exact .pure _;exact .halt _
def kZ(t):aV (typeInfo t):=by unfold typeInfo;refine aV.bind (.program λ_=>.pure _) λp=>?_;split;exact .pure _;exact .halt _
def Cr(t):aV (Go.sizeOf t):=by unfold Go.sizeOf;exact aV.bind (kZ t) λ_=>.pure _
def vL(t):aV (zeroValue t):=by unfold zeroValue;refine aV.bind (kZ t) λi=>?_;split;exact .pure _;exact .halt _
def uc(size n x):aV (Builtin.firstCells size n x):=by unfold Builtin.firstCells;split;exact jZ _ _ _ _;exact .pure _;exact .pure _;exact .halt _
def EJ(v):aV (asInt v):=by unfold asInt asIntOf;refine aV.bind ?_ λ_=>.pure _;split;exact .pure _;exact .halt _;exact .halt _
def EL(v):aV (Builtin.lenOf v):=by unfold Builtin.lenOf;split;exact .pure _;exact .pure _;exact .halt _
def EM{c}(e):aV (runtimePanic e:Sem c):=by unfold runtimePanic;repeat' (first|exact .pure _|exact .halt _|exact .program λ_=>.pure _|exact .new _ λ_=>.pure _|refine aV.bind ?_ λ_=>?_|split)
def zb(n):aV (askRoom n):=by unfold askRoom;split;exact .mark _ (.pure _);exact .pure _
def ud(a n):aV (Builtin.holdsCells a n):=by unfold Builtin.holdsCells;refine aV.bind (.shape _ λ_=>.pure _) λx=>?_;split<;>exact .pure _
def xU{c}(a):aV (Pure.pure a:Sem c):=.pure a
def EN{c}(m):aV (stuck m:Sem c):=.halt _
def sO{c}(m):aV (unsupported m:Sem c):=.halt _
def Cs(q):aV (choose q):=.choose _ λ_=>.pure _
def Ha(m):aV (mark m):=.mark _ (.pure _)
def Ct(e c):aV (newRow e c):=by unfold newRow;exact aV.bind (.new _ λ_=>.pure _) λ_=>.pure _
def Ka{d c}[Decidable c]{s t:Sem d}(h:aV s)(e:aV t):aV (if c then s else t):=by split<;>assumption
def Cu(a):aV (frozen a):=.frozen _ λ_=>.pure _
def xV(a b n x v):aV (Builtin.mayShare a b n x v):=by unfold Builtin.mayShare;repeat' (with_reducible first|exact xU _|exact ud _ _|exact Cu _|refine aV.bind ?_ λ_=>?_|split|dsimp only)
def Cw(ts t as):aV (Builtin.append_ ts t as):=by
 unfold Builtin.append_;repeat' (with_reducible first
  |exact xU _|exact EN _|exact sO _|exact EM _|exact ub _|exact kZ _|exact Cr _|exact vL _|exact uc _ _ _|exact mP _ _ _
  |exact Cs _|exact Ha _|exact Ct _ _|exact EJ _|exact EL _|exact zb _|exact xV _ _ _ _ _
  |refine Ka ?_ ?_|refine aV.bind ?_ λ_=>?_|split|dsimp only)
def lJ(w:World)(base:Nat)(e:TypeId)(zc:List Value)(v:Value)(n:Nat)(xs:List Value):Prop:=xs.length=n*zc.length/\((v=.slice none 0 0/\n=0)\/∃g cap,v=.slice (some ⟨g,0,none⟩) n cap/\base<=g/\w.heap[g]? =some (.cells (xs++cP zc (cap-n)).toArray e (0,0))/\n<=cap/\cap<=maxLen/\0<n)
def lJ.owns{w base e zc v n xs}(h:lJ w base e zc v n xs):w.ownsRow base e zc.length v n xs:=by refine⟨h.1,h.2.imp id ?_⟩;rintro⟨g,cap,rfl,c,d,f,j⟩;refine⟨g,cap,_,rfl,c,d,f,j.1,?_,?_⟩;simp only[TU,TR,jm,h.1,<-VC];congr 1;omega;rw[<-h.1];simp
def lJ.keep{w w' base e zc v n xs}(h:lJ w base e zc v n xs)(c:∀g,v.ownBlock=some g->w'.heap[g]? =w.heap[g]?):lJ w' base e zc v n xs:=by refine⟨h.1,h.2.imp id ?_⟩;rintro⟨g,cap,rfl,d,f,j,l⟩;exact⟨g,cap,rfl,d,(c g rfl).trans f,j,l⟩
section
variable {P:Program}
def nS(w base t ty e i z zc bytes)(H:P.underlying t=some (.slice e))(I:P.info? e=some i)(T:i.zero=some z) (d:i.size=zc.length) (J:i.bytes=bytes) (L:z.cells.toList=zc) (V:0<zc.length) (v) (n) (xs) (f:lJ w base e zc v n xs) (a) (m c) (news) (x:news.length=m*zc.length) (h:∀j u,news[j]? =some u->w.cell? (a.add j)=some u) (W:∀u∈news,u.oneCell'=true) (y:n+m<=maxLen) (p:(n+m)*bytes<=140737488355328) (r:base<=w.heap.size) (Z:0<m):∃F w',(Builtin.append_ #[t,t] ty #[v,.slice (some a) m c]).run P w=.ok F w'/\lJ w' base e zc F (n+m) (xs++news)/\w.grownBy w' v.ownBlock/\((F.ownBlock=v.ownBlock/\w'.heap.size=w.heap.size)\/(F.ownBlock=some w.heap.size/\w'.heap.size=w.heap.size+1/\∀b,b<w.heap.size->w'.heap[b]? =w.heap[b]?)):=by
 subst J;have G:n+m<=9223372036854775807:=by simp only[maxLen]at y;omega
 have q:(xs++news).length=(n+m)*zc.length:=by rw[TR,f.1,x,VC]
 have grown:∀(old:Nat),lJ (w.drew.alloc (.cells (xs.toArray++news.toArray++Builtin.zeroCells z.cells (grownCap w (n+m) old e-(n+m))) e)) base e zc
  (.slice (some ⟨w.heap.size,0,none⟩) (n+m) (grownCap w (n+m) old e)) (n+m) (xs++news):=by
  intro old;refine⟨q,.inr ⟨w.heap.size,_,rfl,r,?_,grownCap_ge w (n+m) old e,grownCap_le_maxLen w (n+m) old e y,by omega⟩⟩;have e0:xs.toArray++news.toArray++Builtin.zeroCells z.cells (grownCap w (n+m) old e-(n+m))=(xs++news++cP zc (grownCap w (n+m) old e-(n+m))).toArray:=by apply V5;simp only[Array.toList_append,mO,L]
  rw[<-e0];exact heap_alloc_new w.drew _
 have gb:∀(old:Nat) (row:Option Nat),w.grownBy (w.drew.alloc (.cells (xs.toArray++news.toArray++Builtin.zeroCells z.cells (grownCap w (n+m) old e-(n+m))) e)) row:=λold row=>⟨rfl,rfl,rfl,by simp,λk N _=>heap_alloc_old w.drew _ k N⟩
 obtain⟨rfl,rfl⟩|⟨g,cap,rfl,O,U,X,Q⟩:=f.2;have Y:=Uj (by simpa using f.1);subst Y;have A:=run_append_nil (P:=P) w t ty e i z H I T a m c news (by rw[x,d]) h (by omega) (by omega) (by have B:=p;simp only[TF]at B;omega);have C:=grown 0;have D:=gb 0 (Value.ownBlock (.slice none 0 0));simp only[TF,Vy,UL]at C D⊢;exact⟨_,_,A,C,D,.inr ⟨rfl,by simp,λb B=>heap_alloc_old w.drew _ b B⟩⟩;by_cases l:n+m<=cap;have R:((xs++cP zc (cap-n)).toArray).size=cap*zc.length:=by simp only[TU,TR,jm,f.1,<-VC];congr 1;omega
 have E:n*i.size+news.length<=((xs++cP zc (cap-n)).toArray).size:=by rw[x,R,d,<-VC];exact Nat.mul_le_mul_right _ l
 have A:=run_append_room (P:=P) w t ty e i H I g n cap _ U a m c news (by rw[x,d]) h W l E;refine⟨_,_,A,⟨q,.inr ⟨g,cap,rfl,O,?_,l,Q.1,by omega⟩⟩,⟨rfl,rfl,rfl,by simp,λk _ N=>setRow_other w g k _ (λe=>N (by simp[Value.ownBlock,e]))⟩,.inl ⟨rfl,by simp⟩⟩;rw[setRow_heap w g _ _ e _ U];congr 2;apply V5;simp only[UG];rw[d,<-f.1];rw[List.take_left,Xf,Xf,<-VI,List.drop_left,x,EI zc _ _ (by omega)];congr 1;omega;have s:=f.owns.cells (g:=g) rfl;have A:=run_append_grow (P:=P) w t ty e i z H I T ⟨g,0,none⟩ n cap xs (by rw[f.1,d]) s a m c news (by rw[x,d]) h (by omega) (by omega) (growslice_fits (by omega) p);exact⟨_,_,A,grown cap,gb cap _,.inr ⟨rfl,by simp,λb B=>heap_alloc_old w.drew _ b B⟩⟩
variable {mn:Bool} {ty:TypeId} {Wg:Nat} {S:aL} {K M:Nat->Prop} {w:World} {b:Frame} {a:Act} {k:List Item} {cs:List Frame} {ops:Array Oper} {i:Nat} {rest:List Nat} {o:Oper}
def EO{K M m}(h:Conc.Neutral m):EvK Wg K M ⟨.mark m,false,true⟩:=by have e:m=.noRoom:=h;subst e;exact⟨λx c=>by simp[MemAct.ofEvent,MemAct.touch?]at c,by simp,by simp,by simp,λB _=>trivial⟩
def Run.append(ho:ops[i]? =some o)(hw:Region.wanted o (yielded ops a.tmps)=true)(hk:b.kind≠ .early){s x t}(N:o.op=.call {callee:=.builtin .append,args:=#[s,x],argTypes:=#[t,t]}) {v} {ad} {m c} (hs:a.eval s=v) (hx:a.eval x=.slice (some ad) m c) {base} {e} {inf} {z} {zc} {bytes} (ht:P.underlying t=some (.slice e)) (hi:P.info? e=some inf) (hz:inf.zero=some z) (y:inf.size=zc.length) (O:inf.bytes=bytes) (Y:z.cells.toList=zc) (Z:0<zc.length) {n} {xs news} (Q:lJ w base e zc v n xs) (B:∀g,v.ownBlock=some g->K g/\M g/\g≠Wg) (R:K ad.block) (hl:news.length=m*zc.length) (E:∀j u,news[j]? =some u->w.cell? (ad.add j)=some u) (h1:∀u∈news,u.oneCell'=true) (T:n+m<=maxLen) (p:(n+m)*bytes<=140737488355328) (F:base<=w.heap.size) (hm:0<m) (aa:∀b,K b->b<w.heap.size) (ab:Wg<w.heap.size) (hn:∀(U X) H w',lJ w' base e zc H (n+m) (xs++news)->(∀g,H.ownBlock=some g->U g/\X g/\g≠Wg/\(some g=v.ownBlock\/w.heap.size<=g))->(∀b,K b->some b≠v.ownBlock->w'.heap[b]? =w.heap[b]?)->w.heap.size<=w'.heap.size->(WgLive ty Wg w->WgLive ty Wg w')->(∀b,K b->U b)->(∀b,U b->K b\/w.heap.size<=b)->(∀b,U b->b<w'.heap.size)->(∀b,M b->X b)->(∀b,X b->M b\/w.heap.size<=b)->Run P mn ty Wg S U X (G (b.at (a.put o.dst H) (.inRegion ops rest::k)) cs) w'):Run P mn ty Wg S K M (G (b.at a (.inRegion ops (i::rest)::k)) cs) w:=by (refine .value ho hw hk λZ1 d=>?_;have l:=Q.keep λg C=>d.keep g (B g C).1;have V:∀j,(ad.add j).block=ad.block:=λj=>by unfold Addr.add;split<;>rfl);(have f:∀j u,news[j]? =some u->Z1.cell? (ad.add j)=some u:=λj u hu=>(World.cell?_of_block (d.keep _ (by rw[V];exact R))).trans (E j u hu);obtain⟨H,w',hr,af,C,I⟩:=nS (P:=P) Z1 base t o.type e inf z zc bytes ht hi hz y O Y Z v n xs l ad m c news hl f h1 T p (Tx F d.size) hm;have q:∀b,K b->b<Z1.heap.size:=λb hb=>TB (aa b hb) d.size;have W:(execOp a.eval o).run P Z1=.ok (.value H) w':=by unfold execOp;simp only[N,resolve,invoke,builtin,Sem.run_bind,Sem.run_pure,Result.andThen_ok,List.map_toArray,WL,List.map_nil,hs,hx,hr]);refine⟨H,w',W,⟨C.os,C.tape,C.output,C.size,λb hb ag=>C.block b hb λe=>?_⟩,λev J=>?_,?_⟩;exact ag (B b e.symm).2.1;rw[events_append_op s x t N hs hx]at J;(rcases events_append_where (P:=P) Z1 base t o.type e inf z zc.length bytes ht hi hz y O v n xs l.owns ad m c news hl f h1 T p ev J with⟨A,hA,r⟩|⟨mk,rfl,ah⟩);obtain⟨ax,wr,sy⟩:=ev;(simp only at hA r;subst hA;have L:sy=false:=by rcases(Cw #[t,t] o.type #[v,.slice (some ad) m c]).cells P Z1 #[] _ J with h|h;simp at h;exact h A rfl);subst L;obtain⟨rfl,hb⟩|hb:=r;exact sL (.inl (by rw[hb];exact R));have:=B A.block hb.symm;(cases wr with|false=>exact sL (.inl this.1)|true=>exact Ar (.inl this.1) (.inl this.2.1));exact EO ah;have ak:=C.block Wg (TB ab d.size) λe=>(B Wg e.symm).2.2 rfl;refine hn _ _ H w' af (λg D=>?_) (λb hb an=>(C.block b (q b hb) an).trans (d.keep b hb)) (Tx d.size C.size) (λao=>?_) (λb hb=>.inl hb) (λb hb=>hb.imp id λx=>Tx d.size x.1) (λb hb=>hb.elim (λx=>TB (q b x) C.size) λx=>x.2) (λb hb=>.inl hb) (λb hb=>hb.imp id λx=>Tx d.size x.1);obtain⟨e1,_⟩|⟨e1,e2,_⟩:=I;rw[e1]at D;have:=B g D;exact⟨.inl this.1,.inl this.2.1,this.2.2,.inl D.symm⟩;rw[e1]at D;cases D;exact⟨.inr ⟨Tw _,by omega⟩,.inr ⟨Tw _,by omega⟩,by have:=d.size;omega,.inr d.size⟩;obtain⟨st,sm,ar⟩:=d.live ao;exact⟨st,sm,ar.of_block ak⟩
end
section
variable {P:Program} {mn:Bool} {ty:TypeId} {Wg:Nat} {S:aL}
def EvK.mono{K f M g:Nat->Prop}{e}(h:EvK Wg K M e)(i:∀b,K b->f b)(j:∀b,M b->g b):EvK Wg f g e:=by refine⟨λx k=>?_,h.2⟩;obtain⟨b,l,m⟩:=h.1 x k;refine⟨b,l,m.imp (λ⟨a,c,d⟩=>⟨a,i b c,λn=>j b (d n)⟩) id⟩
def sQ{K a:Nat->Prop}(h:∀b,K b->a b)(w w' b)(c:orK K w w' b):orK a w w' b:=c.imp (h b) id
def QE(S:aL)(B:Nat->Prop)(F0:World):aL:=λK M g w=>∃a c,S a c g w/\(∀b,a b->K b)/\(∀b,c b->M b)/\(∀b,K b->b<w.heap.size)/\(∀b,B b->K b/\¬M b/\w.heap[b]? =F0.heap[b]?)/\(WgLive ty Wg F0->WgLive ty Wg w)/\F0.heap.size<=w.heap.size
def Run.frame{B F0 c d g w}(h:Run P mn ty Wg S c d g w):∀{Y2 Z2},(∀b,c b->Y2 b)->(∀b,d b->Z2 b)->(∀b,Y2 b->b<w.heap.size)->(∀b,B b->Y2 b/\¬Z2 b/\w.heap[b]? =F0.heap[b]?)->(WgLive ty Wg F0->WgLive ty Wg w)->(Wg<w.heap.size/\¬Z2 Wg)->F0.heap.size<=w.heap.size->Run P mn ty Wg (QE (ty:=ty) (Wg:=Wg) S B F0) Y2 Z2 g w:=by
 induction h with
 | @stop c d g w h=>(intro Y2 Z2 l j o q r i s;refine .stop λZ1 a=>⟨c,d,h Z1 ⟨λb hb=>a.keep b (l b hb),a.live,a.size⟩,l,j,λb hb=>TB (o b hb) a.size,λb hb=>?_,λx=>a.live (r x),Tx s a.size⟩);obtain⟨a1,p,t⟩:=q b hb;exact⟨a1,p,(a.keep b a1).trans t⟩
 | @step c d g w u m A C=>(intro Y2 Z2 l j o q r i s;have rk:∀Z1,RK ty Wg Y2 w Z1->RK ty Wg c w Z1:=λZ1 a=>⟨λb hb=>a.keep b (l b hb),a.live,a.size⟩);refine .jY u λZ1 a=>?_;obtain⟨g',w',es,e1,f,e3⟩:=m Z1 (rk Z1 a);refine⟨g',w',es,e1,⟨f.os,f.tape,f.output,f.size,λb hb D=>f.keep b hb λx=>D (j b x)⟩,λe E=>(e3 e E).mono (sQ l Z1 w') (sQ j Z1 w'),?_⟩;have k:=TB i.1 a.size;have v:=f.keep Wg k λx=>i.2 (j Wg x);refine C Z1 g' w' es (rk Z1 a) e1 (sQ l Z1 w') (sQ j Z1 w') (λb hb=>?_) (λb hb=>?_) (λx=>?_) ⟨TB k f.size,λx=>?_⟩ (Tx (Tx s a.size) f.size);obtain hb|hb:=hb;exact TB (TB (o b hb) a.size) f.size;exact hb.2;obtain⟨a1,p,t⟩:=q b hb;have n:=TB (o b a1) a.size;refine⟨.inl a1,λx=>x.elim p λy=>absurd y.1 (Wq.2 n),?_⟩;rw[f.keep b n λx=>p (j b x),a.keep b a1,t];obtain⟨st,sm,z⟩:=a.live (r x);exact⟨st,sm,z.of_block v⟩;exact x.elim i.2 λy=>absurd y.1 (Wq.2 k)
end
section
variable {S:Kn} {P:Program} {fs:Array Func}
def ET(c:Tab S P fs)(b:∀f,S.stop f=false){π:Ren P.globals.size}{f:FuncId}(d:S.ent f=true){a A}(e:VsR π a A):bf S π (Frame.enter (ai P fs) f a .normal) (Frame.enter P f A .normal):=by rcases tU (π:=π) c f (.inr d) (λx=>by rw[b f]at x;cases x) e (cs:=[aH]) (by simp)with h|⟨_,g,a1,A1,h1,_⟩;exact h;rw[b g]at h1;cases h1
def xY{P f a w}:(⟨Frame.enter P f a .normal,[],w⟩:Gh).Flat:=by intro b c;simp[rb,Frame.enter]at c;exact c.symm▸rfl
def oZ(d:Tab S P fs)(c:∀f,S.stop f=false){Pr Post π}{f:FuncId}(h:S.ent f=true){a A}(i:VsR π a A){w W}(j:bq S Pr π w W)(k:∀g,S.dB g=true->π g g) (l:∀b,b.heap=w.heap->Calls (ai P fs) f a b λe w'=>∃v,e=.returned v/\Post v w'):Cp S P fs Pr Post π ⟨Frame.enter (ai P fs) f a .normal,[],av w (λ_ _=>0) 0⟩ (Frame.enter P f A .normal) [] W:=
 ⟨ET d c h i,.nil,j.heap rfl rfl,xY,Eh (λ_ _=>my) λτ _ _=>l _ rfl,k⟩
def o7{G B a}(h:∀x∈a,az (idR G B) x x):VsR (idR G B) a a:=aY.refl h
def He(k:Tab S P fs)(a:∀f,S.stop f=false){f:FuncId}(t:S.ent f=true){args B W}(d:∀b,B b->∃c e F,W.heap[b]? =some (.cells c e F))(u:P.globals.size<=W.heap.size)(l:∀g,S.dB g=true->B g) (y:∀x∈args,az (idR P.globals.size B) x x) {Post} (A:∀w,w.heap=(db (idR P.globals.size B) B W).heap->Calls (ai P fs) f args w λe w'=>∃v,e=.returned v/\Post v w') (C:∀w,w.heap=(db (idR P.globals.size B) (λ_=>False) W).heap->Calls (ai P fs) f args w λe w'=>∃v,e=.returned v/\∀b,b<w.heap.size->w'.heap[b]? =w.heap[b]?):∃D E,iO S P fs (idR P.globals.size B) W (db (idR P.globals.size B) (λ_=>False) W) Post (idR P.globals.size B) (idR P.globals.size B) D E (Frame.enter P f args .normal) [] W:=by (have i:∀(Pr:Nat->Prop) b,B b->∃o,W.heap[b]? =some o/\((∃c e f,o=.cells c e f)\/(¬Pr b/\(∀c e f,o≠ .cells c e f)/\fR S (idR P.globals.size B) o o)):=λPr b j=>by obtain⟨c,e,F,h⟩:=d b j;exact⟨_,h,.inl ⟨c,e,F,rfl⟩⟩);(have e:(λR=>∃r,(idR P.globals.size B) r R)=B:=funext λR=>propext ⟨λ⟨r,n,p⟩=>n▸p,λh=>⟨R,rfl,h⟩⟩;have q:bq S (λR=>∃r,(idR P.globals.size B) r R) (idR P.globals.size B) (db (idR P.globals.size B) B W) W:=by rw[e];exact kD (i B) (λ_ h=>h) u (d 0 (l 0 k.xq)));have s:=kD (S:=S) (Pr:=λ_=>False) (i λ_=>False) (λ_ h=>h.elim) u (d 0 (l 0 k.xq));refine⟨_,_,⟨oZ k a t (o7 y) q (λg h=>⟨rfl,l g h⟩) A,oZ k a t (o7 y) s (λg h=>⟨rfl,l g h⟩) λw h=>(C w h).mono ?_,Ren.le_refl _,Ren.le_refl _,?_,λ_ _ _=>rfl,λR=>Vb⟩⟩;rintro I w' ⟨v,n,p⟩;(refine⟨v,n,λr R G=>?_⟩;obtain⟨rfl,j⟩:=G;obtain⟨c,z,F,m⟩:=d r j;have H:r<w.heap.size:=by rw[h,lg];exact(TC.1 m).1);rw[p r H,h];rintro r R ⟨rfl,j⟩;obtain⟨c,z,F,m⟩:=d r j;refine⟨c.map (mask (idR P.globals.size B)),c,z,F,?_,m⟩;rw[fX,m];simp[kq]
def Pn(p:Tab S P fs)(a:∀f,S.stop f=false)(i:∀g,S.calm g){f:FuncId}(D:S.ent f=true){args K W ty Wg mn}(E:P.globals.size<=W.heap.size) (G:∀g,S.dB g=true->K g/\∃c e F,W.heap[g]? =some (.cells c e F)) (q:∀b,K b->b<W.heap.size) (s:Wg<W.heap.size) (j:WgLive ty Wg W) (H:∀x∈args,az (idR P.globals.size λb=>K b/\∃c e F,W.heap[b]? =some (.cells c e F)) x x) {V} (I:∀(π:Ren P.globals.size) v,az π V v->v=V) (u:∀(fz) (w),w.heap=(db (idR P.globals.size λb=>K b/\∃c e F,W.heap[b]? =some (.cells c e F)) fz W).heap->Calls (ai P fs) f args w λe w'=>e=.returned V/\∀b,b<w.heap.size->w'.heap[b]? =w.heap[b]?) (Q) (C) (cs) (m:∀k n w',(∀b,K b->k b/\¬n b/\w'.heap[b]? =W.heap[b]?)->(∀b,k b->b<w'.heap.size)->WgLive ty Wg w'->Run P mn ty Wg Q k n ⟨C.finish V,cs,.running,none,none⟩ w'):Run P mn ty Wg Q K (λ_=>False) ⟨Frame.enter P f args .normal,C::cs,.running,none,none⟩ W:=by
 obtain⟨J,L,M⟩:=He (Post:=λv _=>v=V) p a D (B:=λb=>K b/\∃c e F,W.heap[b]? =some (.cells c e F)) (W:=W) (λb h=>h.2) E (λg h=>G g h) H
  (λw h=>(u _ w h).mono λe w' h=>⟨V,h.1,rfl⟩) (λw h=>(u _ w h).mono λe w' h=>⟨V,h.1,h.2⟩)
 have o:=uP (mn:=mn) (ty:=ty) (Wg:=Wg) (B:=C::cs) (Q:=λk n g w'=>g=⟨C.finish V,cs,.running,none,none⟩) p a i (idR P.globals.size λb=>K b/\∃c e F,W.heap[b]? =some (.cells c e F)) (λN O J L F W' hI h R=>?_) (Ren.le_refl _) M;refine(o.frame (Y2:=K) (Z2:=λ_=>False) (B:=K) (F0:=W) (λb ⟨r,y⟩=>?_) (λb l=>?_) q (λb l=>⟨l,id,rfl⟩) id ⟨s,id⟩ (Tw _)).bind ?_;exact y.1▸y.2.1;exact l.2 l.1;rintro k n g w' ⟨K1,M1,rfl,_,_,T,U,X,h6⟩;exact m k n w' (λb l=>U b l) T (X j);refine .jY rfl λz d=>?_;have Y:=h.Ej d.keep d.size;obtain⟨v,V',w',t,ev,A,a1,Z,a3,a4,a5,a6,_⟩:=Y.leave p R C cs mn Wg;subst Z;have:=I _ _ a3;subst this;exact⟨_,t,ev,a1,a4,a5,.stop λ_ _=>rfl⟩
def EU(l:Tab S P fs)(a:∀f,S.stop f=false){f:FuncId}(u:S.ent f=true){args}{B O:Nat->Prop}{W}(d:∀b,B b->∃c e F,W.heap[b]? =some (.cells c e F))(y:P.globals.size<=W.heap.size)(m:∀g,S.dB g=true->B g) (z:∀x∈args,az (idR P.globals.size B) x x) {Post} (C:∀w,w.heap=(db (idR P.globals.size B) (λb=>B b/\¬O b) W).heap->Calls (ai P fs) f args w λe w'=>∃v,e=.returned v/\Post v w') (D:∀w,w.heap=(db (idR P.globals.size B) (λ_=>False) W).heap->Calls (ai P fs) f args w λe w'=>∃v,e=.returned v/\∀b,b<w.heap.size->¬O b->w'.heap[b]? =w.heap[b]?):∃E G,iO S P fs (idR P.globals.size λb=>B b/\¬O b) W (db (idR P.globals.size B) (λ_=>False) W) Post (idR P.globals.size B) (idR P.globals.size B) E G (Frame.enter P f args .normal) [] W:=by (have i:∀(Pr:Nat->Prop) b,B b->∃o,W.heap[b]? =some o/\((∃c e f,o=.cells c e f)\/(¬Pr b/\(∀c e f,o≠ .cells c e f)/\fR S (idR P.globals.size B) o o)):=λPr b j=>by obtain⟨c,e,F,h⟩:=d b j;exact⟨_,h,.inl ⟨c,e,F,rfl⟩⟩);(have e:(λR=>∃r,(idR P.globals.size λb=>B b/\¬O b) r R)=λb=>B b/\¬O b:=funext λR=>propext ⟨λ⟨r,p,q⟩=>p▸q,λh=>⟨R,rfl,h⟩⟩;have s:bq S (λR=>∃r,(idR P.globals.size λb=>B b/\¬O b) r R) (idR P.globals.size B) (db (idR P.globals.size B) (λb=>B b/\¬O b) W) W:=by rw[e];exact kD (i _) (λ_ h=>h.1) y (d 0 (m 0 l.xq)));(have t:=kD (S:=S) (Pr:=λ_=>False) (i λ_=>False) (λ_ h=>h.elim) y (d 0 (m 0 l.xq));have k:Ren.le (idR P.globals.size λb=>B b/\¬O b) (idR P.globals.size B):=λr R h=>⟨h.1,h.2.1⟩);refine⟨_,_,⟨oZ l a u (o7 z) s (λg h=>⟨rfl,m g h⟩) C,oZ l a u (o7 z) t (λg h=>⟨rfl,m g h⟩) λw h=>(D w h).mono ?_,k,k,?_,λ_ _ _=>rfl,λR=>Vb⟩⟩;rintro K w' ⟨v,p,q⟩;(refine⟨v,p,λr R H=>?_⟩;obtain⟨rfl,j,I⟩:=H;obtain⟨c,A,F,n⟩:=d r j;have J:r<w.heap.size:=by rw[h,lg];exact(TC.1 n).1);rw[q r J I,h];rintro r R ⟨rfl,j,_⟩;obtain⟨c,A,F,n⟩:=d r j;refine⟨c.map (mask (idR P.globals.size B)),c,A,F,?_,n⟩;rw[fX,n];simp[kq]
def Nd(z:Tab S P fs)(d:∀f,S.stop f=false)(k:∀g,S.calm g){f:FuncId}(hf:S.ent f=true){args}{K M O:Nat->Prop}{W ty Wg mn}(hG:P.globals.size<=W.heap.size) (hg:∀g,S.dB g=true->K g/\∃c e F,W.heap[g]? =some (.cells c e F)) (A:∀b,K b->b<W.heap.size) (D:Wg<W.heap.size) (l:WgLive ty Wg W) (E:¬M Wg) (G:∀b,O b->M b) (n:∀b,O b->K b/\∃c e F,W.heap[b]? =some (.cells c e F)) (ha:∀x∈args,az (idR P.globals.size λb=>K b/\∃c e F,W.heap[b]? =some (.cells c e F)) x x) {Post:Value->World->Prop} {T:Value->(Nat->Option Obj)->Prop} (hT:∀(Pr) (π) v V w w',Ren.le (idR P.globals.size λb=>K b/\∃c e F,W.heap[b]? =some (.cells c e F)) π->Post v w->az π v V->bq S Pr π w w'->∀h,(∀b,O b->h b=w'.heap[b]?)->T V h) (U:∀(fz) (w),(∀b,O b->¬fz b)->w.heap=(db (idR P.globals.size λb=>K b/\∃c e F,W.heap[b]? =some (.cells c e F)) fz W).heap->Calls (ai P fs) f args w λe w'=>∃v,e=.returned v/\Post v w'/\∀b,b<w.heap.size->¬O b->w'.heap[b]? =w.heap[b]?) (Q) (C) (cs) (o:∀i p w' V,(∀b,K b->¬M b->i b/\¬p b/\w'.heap[b]? =W.heap[b]?)->(∀b,i b->b<w'.heap.size)->WgLive ty Wg w'->T V (λb=>w'.heap[b]?)->(∀b,O b->i b)->Run P mn ty Wg Q i p ⟨C.finish V,cs,.running,none,none⟩ w'):Run P mn ty Wg Q K M ⟨Frame.enter P f args .normal,C::cs,.running,none,none⟩ W:=by
 obtain⟨cA,cB,hD⟩:=EU (O:=O) (Post:=Post) z d hf (B:=λb=>K b/\∃c e F,W.heap[b]? =some (.cells c e F)) (W:=W) (λb h=>h.2) hG (λg h=>hg g h) ha
  (λw h=>(U _ w (λb a x=>x.2 a) h).mono λe w' ⟨v,H,h2,_⟩=>⟨v,H,h2⟩) (λw h=>(U _ w (λb a x=>x) h).mono λe w' ⟨v,H,_,I⟩=>⟨v,H,I⟩)
 have q:=uP (mn:=mn) (ty:=ty) (Wg:=Wg) (B:=C::cs) (Q:=λi p g w'=>∃V,g=⟨C.finish V,cs,.running,none,none⟩/\T V (λb=>w'.heap[b]?)/\∀b,O b->i b) z d k (idR P.globals.size λb=>K b/\∃c e F,W.heap[b]? =some (.cells c e F)) (λaa ab cA cB F W' J h he=>?_) (Ren.le_refl _) hD;refine(q.frame (Y2:=K) (Z2:=M) (B:=λb=>K b/\¬M b) (F0:=W) (λb ⟨r,m⟩=>?_) (λb a=>?_) A (λb a=>⟨a.1,a.2,rfl⟩) id ⟨D,E⟩ (Tw _)).bind ?_;exact m.1▸m.2.1;obtain⟨⟨r,m⟩,hn⟩:=a;obtain⟨rfl,m⟩:=m;exact G r (UD λho=>hn ⟨r,rfl,m,ho⟩);rintro i p g w' ⟨K1,M1,⟨V,rfl,L,s⟩,N,_,I,h4,h5,h6⟩;exact o i p w' V (λb a hm=>h4 b ⟨a,hm⟩) I (h5 l) L λb a=>N b (s b a);refine .jY rfl λX j=>?_;have h':=h.Ej j.keep j.size;obtain⟨v,Y,w',t,ev,u,a1,a2,a3,a4,a5,a6,a7,a8⟩:=h'.leave z he C cs mn Wg;have R:=Ren.le_trans J a8;refine⟨_,t,ev,a1,a4,a5,.stop λZ y=>⟨Y,rfl,hT _ u v Y w' t R a2 a3 a7 _ λb a=>y.keep b (.inl ⟨b,J b b ⟨rfl,n b a⟩⟩),λb a=>.inl ⟨b,J b b ⟨rfl,n b a⟩⟩⟩⟩
end
end Go.Tm
namespace Go.Tm
open Go.Conc Go.ConcN Go.Conc.Lib
open Go.ConcR (KK WgAt stA smA rd wr mk DC0)
structure WD where
 s:Nat
 d:Nat
 K:Nat->Prop
 M:Nat->Prop
inductive nX where
 |sp (r st:Nat)|gc|rc (r:Nat) (hs:List Value)|rb (r:Nat) (hs:List Value)|rw(r:Nat) (hs:List Value)
inductive CTag where
 |wd|w1|w2 (vs:Nat)|sw|w3|blk|w4|we|acq|cl|quit
def nX.pend:nX->Nat
 | .sp _ st=>if st<=3 then 1 else 0
 |_=>0
def nX.got:nX->List Value
 | .rc _ hs| .rb _ hs| .rw _ hs=>hs
 |_=>[]
def jS(d:WD):Nat:=if 4<=d.s then 1 else 0
def VW(j:Nat)(D:Nat->WD):Nat:=sumTo j λi=>jS (D i)
def jT(v:Nat):CTag->Nat
 | .wd=>100| .w1=>50| .w2 a=>if a=v then 40 else 60| .sw=>30| .w3=>20| .blk=>19| .w4=>15| .we=>14| .acq=>13| .cl=>12| .quit=>0
section
variable (P:Program) (ty:TypeId) (Wg ch:Nat) (z:Value) (An:aL) (HV:Nat->Option Value) (Fin:List Value->aL) (n:Nat)
inductive WSit(hv:Option Value):WD->Rk P ty Wg->Goroutine->World->Prop
 |run {K M:Nat->Prop} {g:Goroutine} {w:World} {c:RC P ty Wg}:cO P ty Wg false (SWk P ty Wg ch z hv) K M g w c->WSit hv ⟨8,0,K,M⟩ (8,0,c) g w
 |blk {K M:Nat->Prop} {g:Goroutine} {w:World} {c:RC P ty Wg} {v:Value}:hv=some v->cO P ty Wg false (SR0 P ty Wg) K M (Conc.served g bi) w c->WSit hv ⟨7,0,K,M⟩ (7,0,c) (parked g #[scase ch v bi] .send) w
 |r0 {K M:Nat->Prop} {g:Goroutine} {w:World} {c:RC P ty Wg}:cO P ty Wg false (SR0 P ty Wg) K M g w c->WSit hv ⟨6,0,K,M⟩ (6,0,c) g w
 |k1 {K M:Nat->Prop} {g:Goroutine} {w:World} {c:RC P ty Wg} {m:Nat}:Goes P false (RK ty Wg K) DC0 (SK1 P ty Wg K M) m g w->WSit hv ⟨5,0,K,M⟩ (5,m,c) g w
 |d1 {K M:Nat->Prop} {g:Goroutine} {w:World} {c:RC P ty Wg} {m:Nat}:Goes P false (RK ty Wg K) DC0 (SD1 P ty Wg K M) m g w->WSit hv ⟨4,1,K,M⟩ (4,m,c) g w
 |d2 {K M:Nat->Prop} {g:Goroutine} {w:World} {c:RC P ty Wg} {m:Nat}:Goes P false (RK ty Wg K) DC0 (SD2 P ty Wg K M) m g w->WSit hv ⟨3,1,K,M⟩ (3,m,c) g w
 |d3 {K M:Nat->Prop} {g:Goroutine} {w:World} {c:RC P ty Wg} {m:Nat}:Goes P false (RK ty Wg K) DC0 (SD3 P ty Wg K M) m g w->WSit hv ⟨2,1,K,M⟩ (2,m,c) g w
 |d4 {K M:Nat->Prop} {g:Goroutine} {w:World} {c:RC P ty Wg} {m:Nat}:Goes P false (RK ty Wg K) DC0 (SD4 P ty Wg K M) m g w->WSit hv ⟨1,1,K,M⟩ (1,m,c) g w
 |quit {K M:Nat->Prop} {g:Goroutine} {w:World} {c:RC P ty Wg} {q d:Nat}:QuitsD P q d g->WSit hv ⟨0,d,K,M⟩ (0,q,c) g w
inductive fJ:nX->Nat->Nat->(Nat->Prop)->(Nat->Prop)->Rk P ty Wg->Goroutine->World->Prop
 |kd {K M:Nat->Prop} {g:Goroutine} {w:World} {c:RC P ty Wg} {r:Nat}:r<n->cO P ty Wg true (SKd P ty Wg ch z HV n r (SSp P ty Wg ch z An HV Fin n r)) K M g w c->fJ (.sp r 5) (n-(r+1)) 0 K M (100+10*r+5,0,c) g w
 |a1 {K M:Nat->Prop} {g:Goroutine} {w:World} {c:RC P ty Wg} {r:Nat}:r<n->cO P ty Wg true (SA1 P ty Wg ch z HV n r (SSp P ty Wg ch z An HV Fin n r)) K M g w c->fJ (.sp r 4) (n-(r+1)) 1 K M (100+10*r+4,0,c) g w
 |sr {K M:Nat->Prop} {g:Goroutine} {w:World} {c:RC P ty Wg} {r:Nat}:r<n->cO P ty Wg true (SSr P ty Wg ch z HV n r (SSp P ty Wg ch z An HV Fin n r)) K M g w c->fJ (.sp r 3) (n-(r+1)) 1 K M (100+10*r+3,0,c) g w
 |ke {K M:Nat->Prop} {g:Goroutine} {w:World} {c:RC P ty Wg} {r:Nat}:r<n->cO P ty Wg true (SKe P ty Wg ch z HV n r (SSp P ty Wg ch z An HV Fin n r)) K M g w c->fJ (.sp r 2) (n-(r+1)) 1 K M (100+10*r+2,0,c) g w
 |go {K M:Nat->Prop} {g:Goroutine} {w:World} {c:RC P ty Wg} {r:Nat}:r<n->cO P ty Wg true (SGo P ty Wg ch z HV n r (SSp P ty Wg ch z An HV Fin n r)) K M g w c->fJ (.sp r 1) (n-(r+1)) 0 K M (100+10*r+1,0,c) g w
 |gc {K M:Nat->Prop} {g:Goroutine} {w:World} {c:RC P ty Wg}:cO P ty Wg true (J1 P ty Wg ch z An HV Fin n) K M g w c->fJ .gc n 0 K M (90,0,c) g w
 |rc {K M:Nat->Prop} {g:Goroutine} {w:World} {c:RC P ty Wg} {r:Nat} {hs:List Value}:r+hs.length=n->cO P ty Wg true (oQ P ty Wg ch z HV Fin n r hs) K M g w c->fJ (.rc r hs) n 0 K M (20,0,c) g w
 |rb {K M:Nat->Prop} {g:Goroutine} {w:World} {c:RC P ty Wg} {r:Nat} {hs:List Value}:r+hs.length=n->(∀Z1,RK ty Wg K w Z1->oQ P ty Wg ch z HV Fin n r hs K M g Z1)->fJ (.rb r hs) n 0 K M (19,0,c) (parked {g with offers:=none} #[rcase ch z] (.recv true)) w
 |rw{K M:Nat->Prop} {g:Goroutine} {w:World} {c:RC P ty Wg} {r:Nat} {hs:List Value}:r+hs.length=n->(∀Z1,RK ty Wg K w Z1->oQ P ty Wg ch z HV Fin n r hs K M g Z1)->fJ (.rw r hs) n 0 K M (18,0,c) {parked {g with offers:=none} #[rcase ch z] (.recv true)with status:=.running} w
inductive CSit(v:Nat):CTag->Nat->(Nat->Prop)->(Nat->Prop)->Rk P ty Wg->Goroutine->World->Prop
 |wd {K M:Nat->Prop} {g:Goroutine} {w:World} {c:RC P ty Wg}:cO P ty Wg false (SWd P ty Wg ch An) K M g w c->CSit v .wd 0 K M (jT v .wd,0,c) g w
 |w1 {K M:Nat->Prop} {g:Goroutine} {w:World} {c:RC P ty Wg}:cO P ty Wg false (SW1 P ty Wg ch An) K M g w c->CSit v .w1 1 K M (jT v .w1,0,c) g w
 |w2 {K M:Nat->Prop} {g:Goroutine} {w:World} {c:RC P ty Wg} {vs:Nat}:cO P ty Wg false (SW2 P ty Wg ch An vs) K M g w c->CSit v (.w2 vs) 1 K M (jT v (.w2 vs),0,c) g w
 |sw {K M:Nat->Prop} {g:Goroutine} {w:World} {c:RC P ty Wg}:cO P ty Wg false (SSw P ty Wg ch) K M g w c->CSit v .sw 1 K M (jT v .sw,0,c) g w
 |w3 {K M:Nat->Prop} {g:Goroutine} {w:World} {c:RC P ty Wg}:cO P ty Wg false (SW3 P ty Wg ch) K M g w c->CSit v .w3 1 K M (jT v .w3,0,c) g w
 |blk {K M:Nat->Prop} {g:Goroutine} {w:World} {c:RC P ty Wg}:(∀Z1,RK ty Wg K w Z1->SW3 P ty Wg ch K M g Z1)->CSit v .blk 1 K M (jT v .blk,0,c) {g with status:=.blocked} w
 |w4 {K M:Nat->Prop} {g:Goroutine} {w:World} {c:RC P ty Wg}:cO P ty Wg false (SW4 P ty Wg ch) K M g w c->CSit v .w4 1 K M (jT v .w4,0,c) g w
 |we {K M:Nat->Prop} {g:Goroutine} {w:World} {c:RC P ty Wg}:cO P ty Wg false (SWe P ty Wg ch) K M g w c->CSit v .we 1 K M (jT v .we,0,c) g w
 |acq {K M:Nat->Prop} {g:Goroutine} {w:World} {c:RC P ty Wg}:cO P ty Wg false (Pb P ty Wg ch) K M g w c->CSit v .acq 0 K M (jT v .acq,0,c) g w
 |cl {K M:Nat->Prop} {g:Goroutine} {w:World} {c:RC P ty Wg}:cO P ty Wg false (SCl P ch) K M g w c->CSit v .cl 0 K M (jT v .cl,0,c) g w
 |quit {K M:Nat->Prop} {g:Goroutine} {w:World} {c:RC P ty Wg} {q d:Nat}:QuitsD P q d g->CSit v .quit d K M (jT v .quit,q,c) g w
end
def eT:Option CTag->Bool
 |some .quit=>true
 |_=>false
def uQ(j:Nat)(D:Nat->WD):Prop:=∀i,i<j->4<=(D i).s\/(D i).s=0
def Ek(j:Nat)(D:Nat->WD):Prop:=∀i,i<j->(D i).s=0
def CTag.opn:Option CTag->Prop
 |none|some .wd|some .w1|some (.w2 _)=>True
 |_=>False
def CTag.reg:Option CTag->Prop
 |some .sw|some .w3|some .blk=>True
 |_=>False
def CTag.fin:Option CTag->Prop
 |some .w4|some .we|some .acq|some .cl|some .quit=>True
 |_=>False
inductive Mode(j:Nat)(D:Nat->WD)(mt:nX):Option CTag->Int->Int->Prop
 |opn {ct:Option CTag}:CTag.opn ct->uQ j D->(∀vs,ct=some (.w2 vs)->VW j D<=vs/\1<=vs)->Mode j D mt ct (((VW j D+mt.pend:Nat):Int)*KK) 0
 |reg {ct:Option CTag}:CTag.reg ct->uQ j D->1<=VW j D->Mode j D mt ct (((VW j D:Nat):Int)*KK+1) 0
 |last {ct:Option CTag} (L:Nat):CTag.reg ct->L<j->((D L).s=3\/(D L).s=2\/(D L).s=1)->(∀i,i<j->i≠L->(D i).s=0)->Mode j D mt ct (if(D L).s=1 then 0 else 1) 0
 |sema {ct:Option CTag}:CTag.reg ct->ct≠some .blk->Ek j D->Mode j D mt ct 0 1
 |fin {ct:Option CTag}:CTag.fin ct->Ek j D->Mode j D mt ct 0 0
def Mode.xB{j D mt ct st sm}(h:Mode j D mt ct st sm)(b:CTag.fin ct):Ek j D:=by (have no:∀{ct:Option CTag},CTag.fin ct->(CTag.opn ct->False)/\(CTag.reg ct->False):=by intro ct h;cases ct with|none=>exact h.elim|some c=>cases c<;>first|exact h.elim|exact⟨id,id⟩);cases h with|opn a=>exact((no b).1 a).elim|reg a=>exact((no b).2 a).elim|last _ a=>exact((no b).2 a).elim|sema a=>exact((no b).2 a).elim|fin _ a=>exact a
structure GSt(P:Program)(ty:TypeId)(Wg:Nat) where
 j:Nat
 D:Nat->WD
 R:Nat->Rk P ty Wg
 mt:nX
 K0:Nat->Prop
 M0:Nat->Prop
 r0:Rk P ty Wg
 d0:Nat
 ct:Option CTag
 Kc:Nat->Prop
 Mc:Nat->Prop
 rc:Rk P ty Wg
 dc:Nat
 q:Nat->Nat
 own:Nat->Nat
 low:Nat->Nat
 st:Int
 sm:Int
section
variable (P:Program) (ty:TypeId) (Wg ch:Nat) (z:Value) (An:aL) (HV:Nat->Option Value) (Fin:List Value->aL) (n base N0:Nat) (shun:Nat->Prop) (C0:World) (t₀:Trace)
def spB(b:Nat):Prop:=b=Wg\/b=ch
structure GW(w:World)(σ:GSt P ty Wg):Prop where
 os:w.os=C0.os
 tape:w.tape=C0.tape
 output:w.output=C0.output
 gn:N0<=w.heap.size
 old:∀b,b<N0->w.heap[b]? =C0.heap[b]?
 chn:∃s,w.heap[ch]? =some (.chan 0 #[] (eT σ.ct) s s false)
 wg:WgAt ty Wg w σ.st σ.sm
 sp:Wg<w.heap.size/\ch<w.heap.size
 kw:∀i,i<σ.j->∀b,(σ.D i).K b->b<w.heap.size/\¬spB Wg ch b/\¬shun b/\(σ.own b=base+i\/(σ.own b=0/\b<σ.low (base+i)))
 mw:∀i,i<σ.j->∀b,(σ.D i).M b->σ.own b=base+i
 k0:∀b,σ.K0 b->b<w.heap.size/\¬spB Wg ch b/\¬shun b/\σ.own b=0
 m0:∀b,σ.M0 b->b<w.heap.size/\¬spB Wg ch b/\N0<=b/\σ.own b=0/\∀k,σ.low k<=b
 kc:σ.ct≠none->∀b,σ.Kc b->b<w.heap.size/\¬spB Wg ch b/\¬shun b/\(σ.own b=base+n\/(σ.own b=0/\b<σ.low (base+n)))
 mc:σ.ct≠none->∀b,σ.Mc b->σ.own b=base+n
 owns:∀b,σ.own b≠0->N0<=b/\base<=σ.own b/\b<w.heap.size/\¬spB Wg ch b
 El:∀i,i<σ.j->σ.low (base+i)≠0
 Em:σ.low (base+n)≠0↔σ.ct≠none
 Cd:∀k,σ.low k≠0->(∃i,i<σ.j/\k=base+i)\/k=base+n
 Ce:∀k,σ.low k<=w.heap.size
def jl{N}{t u:Trace}(h:∀a∈t,a.g<N)(c:∀a∈u,a.g<N):∀a∈t++u,a.g<N:=λa b=>(Us.1 b).elim (h a) (c a)
def AcqAll(t:Trace):Prop:=∃q,t.act? q=some (.mark (.acquire (stA Wg)))/\t.g? q=some (base+n)/\t.heard q/\∀i,i<n->∃r,RelBy (stA Wg) t (base+i) r/\r<q
def Cg(t:Trace):Prop:=∃q p,t.act? q=some (.mark (.acquire (stA Wg)))/\t.g? q=some (base+n)/\t.heard q/\(∀i,i<n->∃r,RelBy (stA Wg) t (base+i) r/\r<q)/\q<p/\t.act? p=some (.close ch)/\t.g? p=some (base+n)/\t.heard p/\∀i,p<i->t.g? i=some (base+n)->¬t.counts i
structure GT(w:World)(t:Trace)(σ:GSt P ty Wg):Prop where
 pre:∃u,t=t₀++u
 tr:TI shun (spB Wg ch) (base+n) t₀.size σ.own σ.low t
 seen:∀op∈t,op.act.low w.heap.size
 gb:∀op∈t,op.g<base+n+1
 norel:NoRelease (stA Wg) t
 d0:Deaf t 0=σ.d0
 dw:∀i,i<σ.j->Deaf t (base+i)=(σ.D i).d
 dc:σ.ct≠none->Deaf t (base+n)=σ.dc
 above:∀k,base<=k->(∀i,i<σ.j->k≠base+i)->(σ.ct≠none->k≠base+n)->Deaf t k=0
 rel:∀i,i<σ.j->(σ.D i).s<=5->∃r,RelBy (stA Wg) t (base+i) r
 acq:σ.ct=some .cl->AcqAll Wg n base t
 cls:σ.ct=some .quit->Cg Wg ch n base t
def GT.tb{P ty Wg ch n base shun t₀ t w σ}(T:GT P ty Wg ch n base shun t₀ w t σ):∀(i) x b,touchAt t i=some x->blk x.loc=some b->b<w.heap.size:=by intro i x b d e;obtain⟨f,a,c⟩:=touch_of d;exact IS (T.seen f (mem_of_getElem? a)) c e
structure GG(gs:Array Goroutine)(w:World)(t:Trace)(σ:GSt P ty Wg):Prop where
 size:gs.size=base+σ.j+(if σ.ct.isSome then 1 else 0)
 jn:σ.j<=n
 cn:σ.ct≠none->σ.j=n
 mn:∃a,gs[0]? =some a/\fJ P ty Wg ch z An HV Fin n σ.mt σ.j σ.d0 σ.K0 σ.M0 σ.r0 a w
 mc:σ.ct=none↔((∃r st,σ.mt=.sp r st)\/σ.mt=.gc)
 wk:∀i,i<σ.j->∃g,gs[base+i]? =some g/\WSit P ty Wg ch z (HV i) (σ.D i) (σ.R i) g w
 unb:∀i,σ.j<=i->i<n->(σ.R i).1=9
 cl:∀c,σ.ct=some c->∃g,gs[base+n]? =some g/\CSit P ty Wg ch An (VW σ.j σ.D) c σ.dc σ.Kc σ.Mc σ.rc g w
 lv:∀i g,0<i->i<base->gs[i]? =some g->QuitsD P (σ.q i) (Deaf t i) g
 mb:(∃r hs,σ.mt=.rb r hs)->σ.ct≠some .quit/\∀i,i<σ.j->(σ.D i).s≠7
 mq:∀r hs,σ.mt=.rw r hs->σ.ct=some .quit
def Got(σ:GSt P ty Wg):Prop:=∃l:List Nat,l.Nodup/\(∀i,i∈l↔i<σ.j/\(σ.D i).s<=6/\HV i≠none)/\σ.mt.got=l.filterMap HV
structure GI(gs:Array Goroutine)(w:World)(t:Trace)(σ:GSt P ty Wg):Prop where
 w_:GW P ty Wg ch n base N0 shun C0 w σ
 t_:GT P ty Wg ch n base shun t₀ w t σ
 g_:GG P ty Wg ch z An HV Fin n base gs w t σ
 m_:Mode σ.j σ.D σ.mt σ.ct σ.st σ.sm
 v_:Got P ty Wg HV σ
end
end Go.Tm

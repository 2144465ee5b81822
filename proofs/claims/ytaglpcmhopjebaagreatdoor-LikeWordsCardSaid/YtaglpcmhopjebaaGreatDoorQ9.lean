import Derived.Conc.WgGenN2
import Derived.Conc.Comm2
import Derived.Conc.Own4
import Derived.Conc.Own5
import Derived.Laws.Rows
import Derived.Conc.AppendEvents
import Derived.Test.YtaglpcmhopjebaaGreatDoorQ8
set_option linter.all false
set_option maxRecDepth 100000
set_option maxHeartbeats 20000000
namespace Go.Tm
open Go.Conc Go.ConcN
section
variable {S:Kn} {P:Program} {fs:Array Func} {Pr:Nat->Prop}
def bj.Dj{π:Ren P.globals.size}{w W W₁:World}(h:bj S Pr π w W)(c:∀R,(∃r,π r R)->W₁.heap[R]? =W.heap[R]?)(e:∀R,Pr R->∃r,π r R)(a:W.heap.size<=W₁.heap.size):bj S Pr π w W₁:=⟨λr R b=>by rw[c R ⟨r,b⟩];exact h.obj r R b,h.uh,λR d=>R6 (h.uR R d) a,h.gw,R3 h.gW a,h.w0⟩
def Cp.Dj{Post π c F CS W W₁}(h:Cp S P fs Pr Post π c F CS W)(a:∀R,(∃r,π r R)->W₁.heap[R]? =W.heap[R]?)(b:∀R,Pr R->∃r,π r R)(d:W.heap.size<=W₁.heap.size):Cp S P fs Pr Post π c F CS W₁:=⟨h.top,h.cs,h.w.Dj a b d,h.flat,h.qi,h.dq⟩
def pG(π:Ren P.globals.size)(R:Nat):Prop:=∃r,π r R
def ir.Dj{c e f d k Post l m F CS}{W W₁:World}(h:ir S P fs c d k Post e f l m F CS W)
 (i:∀R,pG e R->W₁.heap[R]? =W.heap[R]?) (n:W.heap.size<=W₁.heap.size):ir S P fs c d k Post e f l m F CS W₁:=
 ⟨h.a.Dj i (λR ⟨r,g⟩=>⟨r,h.la _ _ g⟩) n,h.b.Dj (λR j=>i R ((h.same R).2 j)) (λR j=>j.elim) n,h.la,h.lb,h.base,λr R g=>(i R ⟨r,h.la _ _ g⟩).trans (h.old r R g),h.same⟩
def wo{π c:Ren P.globals.size}{W W':World}(e:∀r R,c r R->π r R\/W.heap.size<=R)(f:∀R,W.heap.size<=R->R<W'.heap.size->∃r,c r R)(g:Ren.le π c)(h:∀r R,c r R->R<W'.heap.size):pG c=orK (pG π) W W':=by
 funext R
 apply propext;unfold orK F3 pG;constructor
 ·rintro⟨r,d⟩
  exact(e r R d).imp (λx=>⟨r,x⟩) λx=>⟨x,h r R d⟩
 ·rintro(⟨r,d⟩|⟨a,b⟩)
  ·exact⟨r,g _ _ d⟩
  ·exact f R a b
def zb{d}{π:Ren P.globals.size}{Wg e}(h:kP d π e):EvK Wg (pG π) (λb=>pG π b/\¬d b) e:=by
 obtain⟨i,wr,l⟩:=e;unfold kP at h;cases i with
 |cell A=>obtain⟨rfl,c,j⟩:=h;refine⟨λx a=>?_,by simp,by simp,by simp,λB h=>by simp[MemAct.ofEvent,MemAct.touch?]at h⟩;simp[MemAct.ofEvent,MemAct.touch?]at a;subst a;exact⟨A.block,rfl,.inl ⟨rfl,c,λg=>⟨c,j g⟩⟩⟩
 |obj R=>
  obtain⟨k,c,j⟩:=h;simp only at k;subst k;refine⟨λx a=>?_,by simp,by simp,by simp,λB h=>by cases wr<;>simp[MemAct.ofEvent,MemAct.touch?]at h⟩;cases wr<;>(simp[MemAct.ofEvent,MemAct.touch?]at a;subst a)
  ·exact⟨R,rfl,.inl ⟨rfl,c,λg=>by cases g⟩⟩
  ·exact⟨R,rfl,.inl ⟨rfl,c,λg=>⟨c,j rfl⟩⟩⟩
 |mark m=>
  cases m with
  |extern f=>exact⟨λx a=>by simp[MemAct.ofEvent,MemAct.touch?]at a,by simp,by simp,by simp,λB _=>trivial⟩
  |noRoom=>exact⟨λx a=>by simp[MemAct.ofEvent,MemAct.touch?]at a,by simp,by simp,by simp,λB _=>trivial⟩
  |_=>exact h.elim
 |_=>exact h.elim
def tS(V:Tab S P fs)(n:∀f,S.stop f=false)(o:∀g,S.calm g){mn ty Wg Q d l L Post B}(q)
 (s:∀(i k) (C D) (F) (W),Ren.le q i->ir S P fs d l L Post i k C D F [] W->C.AtE->Run P mn ty Wg Q (pG i) (ir.Own d i) ⟨F,B,.running,none,none⟩ W)
 {i k} {C D} {F} {CS} {W} (M:Ren.le q i) (h:ir S P fs d l L Post i k C D F CS W):
 Run P mn ty Wg Q (pG i) (ir.Own d i) ⟨F,CS++B,.running,none,none⟩ W:=by
 have t:=h.a.qi.acc;induction t generalizing i k D F CS W with
 |intro c _ X=>
  by_cases E:c.AtE
  ·have u:=h.a.cs
   rw[E.1]at u;cases u;exact s _ _ _ _ _ _ M h E
  ·refine .jK rfl λv m=>?_
   have Y:=h.Dj m.keep m.size;obtain⟨z,N,G,Z,FR,aa,W',ev,hr,H,I,A,o1,o2,o3,J,j⟩:=Y.step V n o E mn;have O:=wo j.old j.new j.le λr R p=>(H.a.w.lt p).2;have T:ir.Own d z=orK (ir.Own d i) v W':=by
    funext b
    apply propext;constructor
    ·intro U
     obtain⟨⟨r,p⟩,_⟩:=id U;exact(o2 b U).imp id λx=>⟨x,(H.a.w.lt p).2⟩
    ·rintro(x|⟨x,y⟩)
     ·exact o1 b x
     ·exact o3 b x y
   refine⟨_,W',ev,I B,A,λe K=>?_,?_⟩
   ·rw[<-O,<-T]
    exact zb (J e K)
   ·rw[<-O,<-T]
    exact X G hr (Ren.le_trans M j.le) H
end
section
variable {S:Kn} {P:Program} {fs:Array Func}
def ir.leave(I:Tab S P fs){d f s g Z Post J cB F W}(h:ir S P fs d g Z Post f s J cB F [] W)(t:J.AtE)(C B mn Wg):
 ∃(v V:Value) (w' W':World) (ev:Array Event) (πA':Ren P.globals.size),stepG P mn ⟨F,C::B,.running,none,none⟩ W=.go ⟨C.finish V,B,.running,none,none⟩ W' ev/\Post v w'/\av πA' v V/\Eff (ir.Own d f) W W'/\(∀e∈ev,EvK Wg (orK (pG f) W W') (orK (ir.Own d f) W W') e)/\(∀r R,d r R->W'.heap[R]? =g.heap[R]?)/\bj S (λR=>∃r,d r R) πA' w' W'/\Ren.le f πA':=by
 have u:cB.AtE:=by rw[uN h.b];rw[uN h.a]at t;exact t
 obtain⟨_,v,V,w',W',ev,πA',a1,a2,K,a4,L,j,a7⟩:=h.a.returns I t C B mn;obtain⟨_,v2,V2,w2,W2,aa,M,b1,b2,z,b4,b5,N,b7⟩:=h.b.returns I u C B mn;rw[K]at z;simp only[GStep.go.injEq]at z;obtain⟨_,e3,_⟩:=z;subst e3;have k:∀r R,d r R->W'.heap[R]? =g.heap[R]? :=by
  intro r R i;obtain⟨c,Q,e,l,A,D⟩:=h.base r R i;obtain⟨F',m⟩:=j.nA R ⟨r,i⟩ Q e l (by rw[h.old r R i,D]);obtain⟨C1,F1,n,E⟩:=N.fz R Q e l (by rw[h.old r R i,D]);rw[m]at n;simp only[SV,Obj.cells.injEq,true_and]at n;obtain⟨rfl,rfl⟩:=n;obtain⟨o,O,T,U,p⟩:=b5.obj r R (N.le _ _ (h.lb _ _ i));rw[b1 r R i,A]at T;rw[m]at U;cases T;cases U;cases p with
  |cells _ _ hf=>rw[m,D,za E (.refl _) hf]
 have X:=wo j.old j.new j.le λr R G=>(L.lt G).2;refine⟨v,V,w',W',ev,πA',K,a1,a4,⟨j.os,j.tape,j.output,j.size,λb A q=>?_⟩,λe H=>?_,k,L,j.le⟩
 ·by_cases Y:∃r,f r b
  ·have:∃r,d r b:=Tt λhx=>q ⟨Y,hx⟩
   obtain⟨r,i⟩:=this;rw[k r b i,h.old r b i]
  ·exact j.keep b A Y
 ·have hm:(λb=>pG πA' b/\¬∃r,d r b)=orK (ir.Own d f) W W':=by
   funext b
   apply propext;rw[X];constructor
   ·rintro⟨x|x,q⟩
    ·exact .inl ⟨x,q⟩
    ·exact .inr x
   ·rintro(⟨x,q⟩|⟨x,y⟩)
    ·exact⟨.inl x,q⟩
    ·refine⟨.inr ⟨x,y⟩,λ⟨r,i⟩=>?_⟩
     have:=(h.a.w.lt (h.la _ _ i)).2;omega
  have:=zb (Wg:=Wg) (a7 e H);rw[hm,X]at this;exact this
end
end Go.Tm
namespace Go.Tm
open Go.Conc Go.ConcN Go.Conc.Lib
open Go.ConcR (KK WgAt stA smA rd wr mk DC0 Payload)
section
variable (P:Program) (ty:TypeId) (Wg ch:Nat) (z:Value)
def Still(S:aJ)(K M:Nat->Prop)(g:Goroutine)(w:World):Prop:=∃m,Goes P false (RK ty Wg K) DC0 (S K M) m g w
def SD4:aJ:=λ_ _ g w=>g.status=.running/\mayWake P g=true/\(WgAt ty Wg w 0 0->∃g',stepG P false g w=.go g' (w.setCell (smA Wg) (.int .u32 1)) (semEvents (smA Wg))/\∃q,QuitsD P q 1 g')
def SD3:aJ:=λK M g w=>g.status=.running/\(WgAt ty Wg w 1 0->∃g',stepG P false g w=.go g' (w.setCell (stA Wg) (.int .u64 0)) #[wr (stA Wg)]/\Still P ty Wg (SD4 P ty Wg) K M g' (w.setCell (stA Wg) (.int .u64 0)))
def SD2:aJ:=λK M g w=>g.status=.running/\(WgAt ty Wg w 1 0->∃g',stepG P false g w=.go g' w #[rd (stA Wg)]/\Still P ty Wg (SD3 P ty Wg) K M g' w)
def SD1:aJ:=λK M g w=>g.status=.running/\∀v a:Nat,a<=1->v<2147483647->WgAt ty Wg w ((v+1)*KK+a) 0->∃g',stepG P false g w=.go g' (w.setCell (stA Wg) (.int .u64 (v*KK+a))) #[rd (stA Wg),wr (stA Wg)]/\((v=0/\a=1)->Still P ty Wg (SD2 P ty Wg) K M g' (w.setCell (stA Wg) (.int .u64 (v*KK+a))))/\(¬(v=0/\a=1)->∃q,QuitsD P q 1 g')
def SK1:aJ:=λK M g w=>g.status=.running/\∃g',stepG P false g w=.go g' w #[mk .disable]/\Still P ty Wg (SD1 P ty Wg) K M g' w
def SR0:aJ:=λK M g w=>g.status=.running/\∃g',stepG P false g w=.go g' w #[mk (.releaseMerge (stA Wg))]/\Still P ty Wg (SK1 P ty Wg) K M g' w
def Ly(v:Value):aJ:=let _z:=z;λK M g w=>g.status=.running/\(∃es,es=(#[]:Array Event)/\stepG P false g w=.comm {g with offers:=none} #[scase ch v undef] true .send w es)/\(Run P false ty Wg) (SR0 P ty Wg) K M (Conc.served g undef) w
def SWk(a:Option Value):aJ:=λK M g w=>match a with|some v=>Ly P ty Wg ch z v K M g w|none=>SR0 P ty Wg K M g w
def closeEvents:Array Event:=#[⟨.obj ch,false,true⟩,⟨.obj ch,true,true⟩]
def SCl:aJ:=λ_ _ g w=>g.status=.running/\mayWake P g=true/\∀s r a,w.heap[ch]? =some (.chan 0 #[] false s r a)->∃g',stepG P false g w=.go g' {w with heap:=w.heap.setIfInBounds ch (.chan 0 #[] true s r a)} (closeEvents ch)/\∃q,QuitsD P q 0 g'
def NR:aJ:=λK M g w=>g.status=.running/\∃g',stepG P false g w=.go g' w #[mk (.acquire (stA Wg))]/\(Run P false ty Wg) (SCl P ch) K M g' w
def SWe:aJ:=λK M g w=>g.status=.running/\∃g',stepG P false g w=.go g' w #[mk .enable]/\(Run P false ty Wg) (NR P ty Wg ch) K M g' w
def SW4:aJ:=λK M g w=>g.status=.running/\(WgAt ty Wg w 0 0->∃g',stepG P false g w=.go g' w #[rd (stA Wg)]/\(Run P false ty Wg) (SWe P ty Wg ch) K M g' w)
def SW3:aJ:=λK M g w=>g.status=.running/\g.offers=none/\((∃st,WgAt ty Wg w st 0)->stepG P false g w=.go {g with status:=.blocked} w #[])/\(WgAt ty Wg w 0 1->∃g',stepG P false g w=.go g' (w.setCell (smA Wg) (.int .u32 0)) (semEvents (smA Wg))/\(Run P false ty Wg) (SW4 P ty Wg ch) K M g' (w.setCell (smA Wg) (.int .u32 0)))
def SSw:aJ:=λK M g w=>g.status=.running/\∃g',stepG P false g w=.go g' w #[mk (.write (smA Wg))]/\(Run P false ty Wg) (SW3 P ty Wg ch) K M g' w
variable (An:aJ)
def SW2(a:Nat):aJ:=λK M g w=>g.status=.running/\∀v:Nat,v<2147483648->WgAt ty Wg w (v*KK) 0->
 (v=a->∃g',stepG P false g w=.go g' (w.setCell (stA Wg) (.int .u64 (v*KK+1))) #[rd (stA Wg),wr (stA Wg)]/\(Run P false ty Wg) (SSw P ty Wg ch) K M g' (w.setCell (stA Wg) (.int .u64 (v*KK+1))))/\
 (v≠a->∃g',stepG P false g w=.go g' w #[rd (stA Wg)]/\(Run P false ty Wg) An K M g' w)
def SW1:aJ:=λK M g w=>g.status=.running/\∀v:Nat,v<2147483648->WgAt ty Wg w (v*KK) 0->∃g',stepG P false g w=.go g' w #[rd (stA Wg)]/\(v=0->(Run P false ty Wg) (SWe P ty Wg ch) K M g' w)/\(v≠0->(Run P false ty Wg) (SW2 P ty Wg ch An v) K M g' w)
def SWd:aJ:=λK M g w=>g.status=.running/\∃g',stepG P false g w=.go g' w #[mk .disable]/\(Run P false ty Wg) (SW1 P ty Wg ch An) K M g' w
variable (HV:Nat->Option Value) (Fin:List Value->aJ) (n:Nat)
def nZ:Nat->List Value->aJ
 |0,a=>λK M g w=>g.status=.running/\stepG P true g w=.comm {g with offers:=none} #[rcase ch z] true (.recv true) w #[]/\Fin a K M (Conc.served g (.tuple #[z,.bool false])) w
 |r+1,a=>λK M g w=>g.status=.running/\stepG P true g w=.comm {g with offers:=none} #[rcase ch z] true (.recv true) w #[]/\Fin a K M (Conc.served g (.tuple #[z,.bool false])) w/\∀i v,i<n->HV i=some v->(Run P true ty Wg) (nZ r (a++[v])) K M (Conc.served g (.tuple #[v,.bool true])) w
def I8:aJ:=λK M g w=>g.status=.running/\∃g' a Kc,stepG P true g w=.spawn g' a w #[]/\a.status=.running/\a.offers=none/\(∀b,Kc b->K b)/\(Run P false ty Wg) (SWd P ty Wg ch An) Kc (λ_=>False) a w/\(Run P true ty Wg) (nZ P ty Wg ch z HV Fin n n []) K (λ_=>False) g' w
def SGo(r:Nat)(Nx:aJ):aJ:=λK M g w=>g.status=.running/\∃g' a Kc,stepG P true g w=.spawn g' a w #[]/\a.status=.running/\a.offers=none/\(∀b,Kc b->K b)/\(Run P false ty Wg) (SWk P ty Wg ch z (HV (n-(r+1)))) Kc (λ_=>False) a w/\(Run P true ty Wg) Nx K (λ_=>False) g' w
def SKe(r:Nat)(Nx:aJ):aJ:=λK M g w=>g.status=.running/\∃g',stepG P true g w=.go g' w #[mk .enable]/\(Run P true ty Wg) (SGo P ty Wg ch z HV n r Nx) K M g' w
def SSr(r:Nat)(Nx:aJ):aJ:=λK M g w=>g.status=.running/\∃g',stepG P true g w=.go g' w #[mk (.read (smA Wg))]/\(Run P true ty Wg) (SKe P ty Wg ch z HV n r Nx) K M g' w
def SA1(r:Nat)(Nx:aJ):aJ:=λK M g w=>g.status=.running/\∀v:Nat,v<2147483647->WgAt ty Wg w (v*KK) 0->∃g',stepG P true g w=.go g' (w.setCell (stA Wg) (.int .u64 ((v+1)*KK))) #[rd (stA Wg),wr (stA Wg)]/\((Run P true ty Wg) (SSr P ty Wg ch z HV n r Nx) K M g' (w.setCell (stA Wg) (.int .u64 ((v+1)*KK)))\/(Run P true ty Wg) (SKe P ty Wg ch z HV n r Nx) K M g' (w.setCell (stA Wg) (.int .u64 ((v+1)*KK))))
def SKd(r:Nat)(Nx:aJ):aJ:=λK M g w=>g.status=.running/\∃g',stepG P true g w=.go g' w #[mk .disable]/\(Run P true ty Wg) (SA1 P ty Wg ch z HV n r Nx) K M g' w
def SSp:Nat->aJ
 |0=>I8 P ty Wg ch z An HV Fin n
 |r+1=>SKd P ty Wg ch z HV n r (SSp r)
end
section
variable {P:Program} {ty:TypeId} {Wg ch:Nat} {z:Value}
def RK.rl{K w w₁}(h:RK ty Wg K w w₁):RL ty Wg w w₁:=h.live
section worker
variable [Payload] {C n0:Nat} {K M:Nat->Prop} {v:Value}
def RK.rw{w w₁}(c:K C)(h:RK ty Wg K w w₁):RW ty Wg C n0 0 0 w w₁:=⟨λb d=>absurd d (Sm _),h.live,λ⟨cs,a,b⟩=>⟨cs,(h.keep C c).trans a,b⟩,cell_of_block (h.keep C c) 0⟩
omit [Payload]in
def Lz{mn}{R R':World->World->Prop}{D}{f c:Goroutine->World->Prop}(e:∀w a,R' w a->R w a)(i:∀g w,f g w->c g w):∀{m} {g} {w},Goes P mn R D f m g w->Goes P mn R' D c m g w:=by
 intro m;induction m with
 |zero=>exactλh a b=>i _ _ (h a (e _ _ b))
 |succ m j=>
  intro g w h;obtain h|⟨k,h⟩:=h
  ·exact .inl λa b=>i _ _ (h a (e _ _ b))
  ·refine .inr ⟨k,λa b=>?_⟩
   have:=h a (e _ _ b);cases d:stepG P mn g a with
   |go g' w' es=>rw[d,goes_go]at this;rw[goes_go];exact⟨this.1,j this.2⟩
   |_=>rw[d]at this;exact this.elim
def ml{a}{S:aJ}(b:K C){g w}(h:∃m,Goes P false (RW ty Wg C n0 0 0) DC0 a m g w)(c:∀g w,a g w->S K M g w):Still P ty Wg S K M g w:=let⟨m,h⟩:=h;⟨m,Lz (λ_ _ r=>r.rw b) c h⟩
def QP(c:K C)(g w)(h:AtD3 P ty Wg C n0 0 1 g w):SD3 P ty Wg K M g w:=⟨h.1,λx=>let⟨g',a,b⟩:=h.2 x;⟨g',a,ml c b λ_ _ y=>y⟩⟩
def QQ(c:K C)(g w)(h:AtD2 P ty Wg C n0 0 1 g w):SD2 P ty Wg K M g w:=⟨h.1,λx=>let⟨g',a,b⟩:=h.2 x;⟨g',a,ml c b (QP c)⟩⟩
def QR(d:K C)(g w)(h:AtD1 P ty Wg C n0 0 1 g w):SD1 P ty Wg K M g w:=⟨h.1,λv f i j k=>let⟨g',a,b,c⟩:=h.2 v f i j k;⟨g',a,λe=>ml d (b e) (QQ d),c⟩⟩
def QS(c:K C)(g w)(h:AtK1 P ty Wg C n0 0 1 g w):SK1 P ty Wg K M g w:=⟨h.1,let⟨g',a,b⟩:=h.2;⟨g',a,ml c b (QR c)⟩⟩
def QT(c:K C)(g w)(h:AtR0 P ty Wg C n0 0 1 v g w):SR0 P ty Wg K M g w:=⟨h.1,let⟨g',a,b⟩:=h.2.2;⟨g',a,ml c b (QS c)⟩⟩
end worker
end
end Go.Tm
namespace Go.Tm
open Go.Conc Go.ConcN
section
variable (P:Program) (ty:TypeId) (Wg:Nat)
structure RC where
 mn:Bool
 S:aJ
 c:Cfg
 acc:Acc (Nxt P mn ty Wg S) c
def RC.lt(a b:RC P ty Wg):Prop:=a.mn=b.mn/\a.S=b.S/\Nxt P b.mn ty Wg b.S a.c b.c
def RC.wf:WellFounded (RC.lt P ty Wg):=⟨λ⟨mn,S,c,acc⟩=>by
 have key:∀c,(h:Acc (Nxt P mn ty Wg S) c)->Acc (RC.lt P ty Wg) ⟨mn,S,c,h⟩:=by
  intro c h;induction h with
  |intro c f d=>refine⟨_,?_⟩;rintro⟨e,i,c',a⟩ ⟨e1,b,h⟩;simp only at e1 b h;subst e1;subst b;exact d c' h
 exact key c acc⟩
abbrev Rk:=Nat×Nat×RC P ty Wg
def Rk.lt:Rk P ty Wg->Rk P ty Wg->Prop:=Prod.Lex (· < ·) (Prod.Lex (· < ·) (RC.lt P ty Wg))
def Rk.wf:WellFounded (Rk.lt P ty Wg):=(Prod.lex Nat.lt_wfRel (Prod.lex Nat.lt_wfRel ⟨_,RC.wf P ty Wg⟩)).wf
structure cj(mn:Bool)(S:aJ)(K M:Nat->Prop)(g:Goroutine)(w:World)(x:RC P ty Wg):Prop where
 mn_:x.mn=mn
 S_:x.S=S
 K_:x.c.K=K
 M_:x.c.M=M
 g_:x.c.g=g
 rk:RK ty Wg K x.c.w w
 run:Run P mn ty Wg S K M g x.c.w
end
section
variable {P:Program} {ty:TypeId} {Wg:Nat} {mn:Bool} {S:aJ} {K M:Nat->Prop} {g:Goroutine} {w w₁:World}
def cj.of(h:Run P mn ty Wg S K M g w):∃x,cj P ty Wg mn S K M g w x:=⟨⟨mn,S,⟨K,M,g,w⟩,h.acc⟩,rfl,rfl,rfl,rfl,rfl,.refl _,h⟩
def cj.rely{x}(h:cj P ty Wg mn S K M g w x)(r:RK ty Wg K w w₁):cj P ty Wg mn S K M g w₁ x:={h with rk:=h.rk.trans r}
def cj.now{x}(h:cj P ty Wg mn S K M g w x):Run P mn ty Wg S K M g w:=h.run.rely h.rk
def cj.pF{x}(h:cj P ty Wg mn S K M g w x):S K M g w\/
 (g.status=.running/\∃g' w' es k,stepG P mn g w=.go g' w' es/\Eff M w w'/\(∀e∈es,EvK Wg (orK K w w') (orK M w w') e)/\cj P ty Wg mn S (orK K w w') (orK M w w') g' w' k/\RC.lt P ty Wg k x):=by
 by_cases l:AtS ty Wg S x.c
 ·left
  have:=l w (by rw[h.K_];exact h.rk);rw[h.K_,h.M_,h.g_]at this;exact this
 ·have n:=h.run
  cases n with
  |stop i=>exact .inl (i w h.rk)
  |step d f j=>obtain⟨g',w',es,a,b,c⟩:=f w h.rk;have m:=j w g' w' es h.rk a;refine .inr ⟨d,g',w',es,⟨mn,S,⟨_,_,g',w'⟩,m.acc⟩,a,b,c,⟨rfl,rfl,rfl,rfl,rfl,.refl _,m⟩,h.mn_.symm,h.S_.symm,?_⟩;have e1:=h.mn_;have o:=h.S_;have e3:=h.K_;have e4:=h.M_;have e5:=h.g_;refine⟨by rw[o];exact l,w,g',w',es,by rw[e3];exact h.rk,by rw[e1,e5];exact a,by rw[e3,e4]⟩
def cj.lM{x}(h:cj P ty Wg mn S K M g w x):(∀w₁,RK ty Wg K w w₁->S K M g w₁)\/
 (g.status=.running/\∃g' w' es l,stepG P mn g w=.go g' w' es/\Eff M w w'/\(∀e∈es,EvK Wg (orK K w w') (orK M w w') e)/\cj P ty Wg mn S (orK K w w') (orK M w w') g' w' l/\RC.lt P ty Wg l x):=by
 by_cases m:AtS ty Wg S x.c
 ·left
  intro w₁ d;have:=m w₁ (by rw[h.K_];exact h.rk.trans d);rw[h.K_,h.M_,h.g_]at this;exact this
 ·have o:=h.run
  cases o with
  |stop j=>exact .inl λw₁ d=>j w₁ (h.rk.trans d)
  |step f i k=>obtain⟨g',w',es,a,b,c⟩:=i w h.rk;have n:=k w g' w' es h.rk a;refine .inr ⟨f,g',w',es,⟨mn,S,⟨_,_,g',w'⟩,n.acc⟩,a,b,c,⟨rfl,rfl,rfl,rfl,rfl,.refl _,n⟩,h.mn_.symm,h.S_.symm,?_⟩;have e1:=h.mn_;have p:=h.S_;have e3:=h.K_;have e4:=h.M_;have e5:=h.g_;refine⟨by rw[p];exact m,w,g',w',es,by rw[e3];exact h.rk,by rw[e1,e5];exact a,by rw[e3,e4]⟩
def cj.status(a:∀K M g w,S K M g w->g.status=.running){x}(h:cj P ty Wg mn S K M g w x):g.status=.running:=by
 obtain h|h:=h.pF
 ·exact a _ _ _ _ h
 ·exact h.1
end
section
variable {P:Program} {mn:Bool} {ty:TypeId} {Wg:Nat} {S:aJ} {K M:Nat->Prop} {w:World} {b:Frame} {a:Act} {k:List Item} {cs:List Frame} {ops:Array Oper} {i:Nat} {rest:List Nat} {o:Oper}
def Run.still{g g'}(e:g.status=.running)(h:∀c,stepG P mn g c=.go g' c #[])(f:(Run P mn ty Wg S) K M g' w):(Run P mn ty Wg S) K M g w:=.jK e λc d=>⟨g',c,#[],h c,Eff.refl _ _,by simp,by rw[bY rfl,bY rfl];exact f.rely d⟩
def Run.value(f:ops[i]? =some o)(g:Region.wanted o (yielded ops a.tmps)=true)(j:b.kind≠ .early)
 (h:∀c,RK ty Wg K w c->∃v w',(execOp a.eval o).run P c=.ok (.value v) w'/\Eff M c w'/\(∀e∈(execOp a.eval o).events P c #[],EvK Wg (orK K c w') (orK M c w') e)/\(Run P mn ty Wg S) (orK K c w') (orK M c w') (G (b.at (a.put o.dst v) (.inRegion ops rest::k)) cs) w'):
 (Run P mn ty Wg S) K M (G (b.at a (.inRegion ops (i::rest)::k)) cs) w:=
 .jK rfl λc d=>by obtain⟨v,w',l,m,n,p⟩:=h c d;exact⟨_,w',_,stepG_value f g j l,m,λe q=>n e (mem_seen q),p⟩
def Run.none(f:ops[i]? =some o)(g:Region.wanted o (yielded ops a.tmps)=true)(j:b.kind≠ .early)
 (h:∀c,RK ty Wg K w c->∃w',(execOp a.eval o).run P c=.ok .skip w'/\Eff M c w'/\(∀e∈(execOp a.eval o).events P c #[],EvK Wg (orK K c w') (orK M c w') e)/\(Run P mn ty Wg S) (orK K c w') (orK M c w') (G (b.at (a.put o.dst undef) (.inRegion ops rest::k)) cs) w'):
 (Run P mn ty Wg S) K M (G (b.at a (.inRegion ops (i::rest)::k)) cs) w:=
 .jK rfl λc d=>by obtain⟨w',l,m,n,p⟩:=h c d;exact⟨_,w',_,stepG_none f g j l,m,λe q=>n e (mem_seen q),p⟩
def Run.pure(v)(e:ops[i]? =some o)(f:Region.wanted o (yielded ops a.tmps)=true)(g:b.kind≠ .early)(h:∀c,(execOp a.eval o).run P c=.ok (.value v) c)(j:∀c,(execOp a.eval o).events P c #[]=#[])
 (l:(Run P mn ty Wg S) K M (G (b.at (a.put o.dst v) (.inRegion ops rest::k)) cs) w):(Run P mn ty Wg S) K M (G (b.at a (.inRegion ops (i::rest)::k)) cs) w:=
 .value e f g λc d=>⟨v,c,h c,Eff.refl _ _,by rw[j];simp,by rw[bY rfl,bY rfl];exact l.rely d⟩
def DM{t:TypeId}{d:TypeDesc}(c:P.underlying t=some d)(w:World):(isAgg t).run P w=.ok (match d with| .struct _| .array _ _=>true|_=>false) w:=by unfold isAgg;rw[Sem.run_bind,run_underlying c w];cases d<;>simp
def wQ{t d}(c:P.underlying t=some d)(w es):(isAgg t).events P w es=es:=by unfold isAgg underlying;simp only[Sem.events_bind];simp[c];cases d<;>simp
def rD{K M A}(h:K A.block):EvK Wg K M ⟨.cell A,false,false⟩:=by refine⟨λx c=>?_,by simp,by simp,by simp,λB h=>by simp[MemAct.ofEvent,MemAct.touch?]at h⟩;simp[MemAct.ofEvent,MemAct.touch?]at c;subst c;exact⟨A.block,rfl,.inl ⟨rfl,h,λe=>by cases e⟩⟩
def zp{K M A}(h:K A.block)(d:M A.block):EvK Wg K M ⟨.cell A,true,false⟩:=by refine⟨λx c=>?_,by simp,by simp,by simp,λB h=>by simp[MemAct.ofEvent,MemAct.touch?]at h⟩;simp[MemAct.ofEvent,MemAct.touch?]at c;subst c;exact⟨A.block,rfl,.inl ⟨rfl,h,λ_=>d⟩⟩
def Run.DN(q:ops[i]? =some o)(r:Region.wanted o (yielded ops a.tmps)=true)(s:b.kind≠ .early){t:TypeId}{x:Operand}(g:o.op=.load t x){A:Addr}(m:a.eval x=.pointer (some A))(z:A.spot=Option.none){d:TypeDesc}(n:P.underlying t=some d)(u:(match d with| .struct _| .array _ _=>true|_=>false)=false)
 (h:K A.block) {v:Value} (p:w.cell? A=some v) (y:(Run P mn ty Wg S) K M (G (b.at (a.put o.dst v) (.inRegion ops rest::k)) cs) w):(Run P mn ty Wg S) K M (G (b.at a (.inRegion ops (i::rest)::k)) cs) w:=by
 have f:∀w₁,(isAgg t).run P w₁=.ok false w₁:=λw₁=>by rw[DM n w₁,u]
 refine .value q r s λw₁ c=>⟨v,w₁,?_,Eff.refl _ _,?_,by rw[bY rfl,bY rfl];exact y.rely c⟩
 ·have j:w₁.cell? A=some v:=by rw[<-p];unfold World.cell?;rw[c.keep A.block h]
  unfold execOp;simp[g,m,Instr.loadAt,Instr.sureAddr,loadVar,Sem.run_bind,f,j]
 ·have j:w₁.cell? A=some v:=by rw[<-p];unfold World.cell?;rw[c.keep A.block h]
  rw[bY rfl,bY rfl];intro e l;unfold execOp at l;simp[g,m,Instr.loadAt,Instr.sureAddr,loadVar,Sem.events_bind,f,wQ n,j]at l;subst l;exact rD h
theorem fv(A)(f:A.spot=Option.none):∀(n i) (acc) (w) (es),(∀j,j<n->(w.cell? (A.add (i+j))).isSome)->∀e∈(loadCellsFrom A i n acc).events P w es,e∈es\/∃B,B.block=A.block/\e=(⟨.cell B,false,false⟩:Event)
 |0,i,acc,w,es,_=>λe c=>.inl (by simpa[loadCellsFrom]using c)
 |n+1,i,acc,w,es,h=>λe c=>by
  obtain⟨v,d⟩:=VP.1 (h 0 (by omega));rw[Tr]at d;simp only[loadCellsFrom,Sem.events_bind,run_load,d,Result.evThen_ok,events_load]at c;have g:(A.add i).block=A.block:=by unfold Addr.add;split<;>rfl
  rcases fv A f n (i+1) _ w _ (λj l=>by have:=h (j+1) (by omega);rwa[show i+(j+1)=i+1+j by omega]at this) e c with h1|h1
  ·obtain h1|rfl:=Un.1 h1
   ·exact .inl h1
   ·exact .inr ⟨_,g,rfl⟩
  ·exact .inr h1
def Run.rE(D:ops[i]? =some o)(E:Region.wanted o (yielded ops a.tmps)=true)(F:b.kind≠ .early){t:TypeId}{x:Operand}(m:o.op=.load t x){g:Nat}(y:a.eval x=.pointer (some ⟨g,0,Option.none⟩)){d:TypeDesc}(r:P.underlying t=some d)
 (z:(match d with| .struct _| .array _ _=>true|_=>false)=true) (s:K g) {e:TypeId} {c:Array Value} {fr:Nat×Nat} (A:w.heap[g]? =some (.cells c e fr)) (C:(P.info? t).map (·.size)=some c.size)
 (H:(Run P mn ty Wg S) K M (G (b.at (a.put o.dst (.agg c)) (.inRegion ops rest::k)) cs) w):(Run P mn ty Wg S) K M (G (b.at a (.inRegion ops (i::rest)::k)) cs) w:=by
 refine .value D E F λw₁ f=>⟨.agg c,w₁,?_,Eff.refl _ _,?_,by rw[bY rfl,bY rfl];exact H.rely f⟩
 ·have h:=(f.keep g s).trans A
  unfold execOp;simp[m,y,Instr.loadAt,Instr.sureAddr,run_loadVar_row w₁ g e t c fr d h r z C]
 ·have h:=(f.keep g s).trans A
  rw[bY rfl,bY rfl];intro ev u;have n:(isAgg t).run P w₁=.ok true w₁:=by rw[DM r w₁,z]
  obtain⟨inf,p,v⟩:=SH.1 C;unfold execOp at u;simp[m,y,Instr.loadAt,Instr.sureAddr,loadVar,Sem.events_bind,n,wQ r,sizeOf,typeInfo,p,v]at u;have l:∀j,j<c.size->(w₁.cell? ((⟨g,0,Option.none⟩:Addr).add (0+j))).isSome:=λj I=>by
   have q:(⟨g,0,Option.none⟩:Addr).add (0+j)=⟨g,j,Option.none⟩:=by unfold Addr.add;split<;>simp_all
   rw[q,cell_of_row w₁ g j c e fr h];simp[I]
  have:=fv (P:=P) ⟨g,0,Option.none⟩ rfl _ 0 #[] w₁ #[] l ev u;obtain J|⟨B,L,rfl⟩:=this
  ·simp at J
  ·exact rD (by rw[L];exact s)
def Run.fresh{ob}(v:Nat->Value)(n:ops[i]? =some o)(p:Region.wanted o (yielded ops a.tmps)=true)(q:b.kind≠ .early)
 (r:∀w₁,(execOp a.eval o).run P w₁=.ok (.value (v w₁.heap.size)) {w₁ with heap:=w₁.heap.push ob}) (s:∀w₁,(execOp a.eval o).events P w₁ #[]=#[])
 (t:∀(m) (w'),w.heap.size<=m->(∀b,K b->w'.heap[b]? =w.heap[b]?)->w'.heap[m]? =some ob->w'.heap.size=m+1->(WgLive ty Wg w->WgLive ty Wg w')->(Run P mn ty Wg S) (λb=>K b\/b=m) (λb=>M b\/b=m) (G (b.at (a.put o.dst (v m)) (.inRegion ops rest::k)) cs) w')
 (l:∀b,K b->b<w.heap.size):(Run P mn ty Wg S) K M (G (b.at a (.inRegion ops (i::rest)::k)) cs) w:=by
 refine .value n p q λw₁ c=>?_;have e:({w₁ with heap:=w₁.heap.push ob}:World).heap.size=w₁.heap.size+1:=by simp
 have f:∀X:Nat->Prop,orK X w₁ {w₁ with heap:=w₁.heap.push ob}=λb=>X b\/b=w₁.heap.size:=by
  intro X
  funext b
  apply propext;unfold orK F3;rw[e];constructor
  ·rintro(h|⟨x,y⟩)
   ·exact .inl h
   ·exact .inr (by omega)
  ·rintro(h|rfl)
   ·exact .inl h
   ·exact .inr ⟨R2 _,by omega⟩
 have d:∀b,b<w₁.heap.size->(w₁.heap.push ob)[b]? =w₁.heap[b]? :=λb g=>by rw[Ta,RY (by omega)]
 refine⟨_,_,r w₁,⟨rfl,rfl,rfl,by omega,λb g _=>d b g⟩,by rw[s];simp,?_⟩;rw[f,f];refine t w₁.heap.size _ c.size (λb g=>(d b (R6 (l b g) c.size)).trans (c.keep b g)) (by simp) e λu=>?_;obtain⟨st,sm,j⟩:=c.live u;refine⟨st,sm,j.of_block (d Wg ?_)⟩;exact(R7.1 (show w₁.heap[Wg]? =some _ from j)).1
end
section
variable {P:Program}
def setRow_size(w:World)(g c):(w.setRow g c).heap.size=w.heap.size:=by unfold World.setRow;simp
def od(w:World)(g b c)(h:b≠g):(w.setRow g c).heap[b]? =w.heap[b]? :=by unfold World.setRow;simp only[];rw[Tb,RY (Sn h)]
def setRow_os(w:World)(g c):(w.setRow g c).os=w.os/\(w.setRow g c).tape=w.tape/\(w.setRow g c).output=w.output:=by exact⟨rfl,rfl,rfl⟩
def A2(g t):∀(c) (i) (cur) (w) (es),w.heap[g]? =some (.cells cur t (0,0))->i+c.length<=cur.size->(∀v∈c,v.oneCell'=true)->
 ∀ev∈(storeCells ⟨g,0,none⟩ c i).events P w es,ev∈es\/∃B,B.block=g/\ev=(⟨.cell B,true,false⟩:Event):=by
 intro c;induction c with
 |nil=>intro i cur w es _ _ _ ev h;exact .inl (by simpa[storeCells]using h)
 |cons v c r=>
  intro i cur w es e j l ev h;have s:i<cur.size:=by simp at j;omega
  have m:(⟨g,0,none⟩:Addr).add i=⟨g,i,none⟩:=by unfold Addr.add;split<;>simp_all
  have n:=l v (by simp);have p:w.cell? ⟨g,i,none⟩=some cur[i]:=by simp[World.cell?,e,s]
  have q:w.frozen? ⟨g,i,none⟩=false:=by simp[World.frozen?,e]
  have d:(store ((⟨g,0,none⟩:Addr).add i) v).run P w=.ok () (w.setRow g (cur.setIfInBounds i v)):=by rw[m,run_store P w _ v _ n,p];simp[q,setCell_eq_setRow w g i cur t (0,0) v e]
  have f:(store ((⟨g,0,none⟩:Addr).add i) v).events P w es=es.push ⟨.cell ⟨g,i,none⟩,true,false⟩:=by rw[m,events_store P w es _ v _ n,p];simp only[q,Ss,Sp];rfl
  simp only[storeCells,Sem.events_bind,d,Result.evThen_ok,f]at h;rcases r (i+1) _ _ _ (setRow_heap w g cur _ t _ e) (by simp at j⊢;omega) (λx u=>l x (by simp[u])) ev h with h2|h2
  ·obtain h2|rfl:=Un.1 h2
   ·exact .inl h2
   ·exact .inr ⟨_,rfl,rfl⟩
  ·exact .inr h2
variable {mn:Bool} {ty:TypeId} {Wg:Nat} {S:aJ} {K M:Nat->Prop} {w:World} {b:Frame} {a:Act} {k:List Item} {cs:List Frame} {ops:Array Oper} {i:Nat} {rest:List Nat} {o:Oper}
def wV(t A v):storeVar t A v=storeVar t A (.agg v.cells):=by unfold storeVar;rfl
def Run.store(J:ops[i]? =some o)(L:Region.wanted o (yielded ops a.tmps)=true)(N:b.kind≠ .early){t x y}(l:o.op=.store t x y){g}(A:a.eval x=.pointer (some ⟨g,0,Option.none⟩)){e old cells}(C:(a.eval y).cells=cells)
 (O:w.heap[g]? =some (.cells old e (0,0))) (D:(P.info? t).map (·.size)=some cells.size) (m:old.size=cells.size) (E:cells.all (·.oneCell')=true) (F:K g) (H:M g) (r:g≠Wg)
 (Q:∀w',(∀b,K b->b≠g->w'.heap[b]? =w.heap[b]?)->w'.heap[g]? =some (.cells cells e (0,0))->w.heap.size<=w'.heap.size->(WgLive ty Wg w->WgLive ty Wg w')->Run P mn ty Wg S K M (G (b.at (a.put o.dst undef) (.inRegion ops rest::k)) cs) w'):
 Run P mn ty Wg S K M (G (b.at a (.inRegion ops (i::rest)::k)) cs) w:=by
 refine .none J L N λc d=>?_;have h:=(d.keep g F).trans O;have n:=run_storeVar_row (P:=P) c g e t old cells h D m E;have f:=setRow_size c g cells;refine⟨c.setRow g cells,?_,⟨(setRow_os _ _ _).1,(setRow_os _ _ _).2.1,(setRow_os _ _ _).2.2,by omega,λI _ s=>od _ _ _ _ λe=>s (e▸H)⟩,λev j=>?_,?_⟩
 ·unfold execOp
  simp only[l,A,Instr.storeAt,Instr.sureAddr];simp[Sem.run_bind,wV t _ (a.eval y),C,n]
 ·unfold execOp at j
  obtain⟨inf,p,q⟩:=SH.1 D;simp[l,A,Instr.storeAt,Instr.sureAddr,Sem.events_bind,storeVar,C,sizeOf,typeInfo,p,q]at j;rcases A2 g e cells.toList 0 old c #[] h (by simp;omega) (λv R=>(Array.all_eq_true_iff_forall_mem.1 E) v (by simpa using R)) ev j with h2|⟨B,hB,rfl⟩
  ·simp at h2
  ·rw[bY f,bY f]
   exact zp (by rw[hB];exact F) (by rw[hB];exact H)
 ·rw[bY f,bY f]
  refine Q _ (λI s u=>(od _ _ _ _ u).trans (d.keep I s)) (setRow_heap c g old _ e _ h) (by rw[f];exact d.size) λT=>?_;obtain⟨st,sm,z⟩:=d.live T;exact⟨st,sm,z.of_block (od _ _ _ _ (Sn r))⟩
end
end Go.Tm

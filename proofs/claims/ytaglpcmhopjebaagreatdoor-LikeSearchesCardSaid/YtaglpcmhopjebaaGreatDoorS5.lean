import Derived.Conc.WgGenN3
import Derived.Conc.Beside
import Derived.Conc.CrowdTrace
import Derived.Test.YtaglpcmhopjebaaGreatDoorS4
set_option linter.all false
set_option maxRecDepth 100000
set_option maxHeartbeats 20000000
namespace Go.Tm
variable {P:Program}
def ME(a:kT P)(fr cs)(b:fr.kind=.normal):bD (λw=>stepG.oper P true fr cs none w):=by unfold stepG.oper;cases fr.oper? with|none=>exact bD.no λw=>iF.ended _ _ _|some o=>dsimp only;split;exact kB a fr cs _ b;exact kB a fr cs _ b
def bD.MF(d:kT P){c F}(s:Sem c)(fn)(K:Result c->GStep)(e:∀w,F w=GStep.after (seen P fn (s.runT P w #[]).2) (K (s.runT P w #[]).1)) (b:∀a,bD (λw=>K (.ok a w))) (f:∀h,bD (λw=>K (.halt h w))):bD F:=
 bD.congr e (bD.sem d s fn (λ_ es=>seen P fn es) K (λa=>⟨λ_ _=>rfl,b a⟩) λh=>.inr ⟨λ_ _=>rfl,f h⟩)
def J0(b:kT P)(main:Bool)(fr:Frame)(cs:List Frame)(c:fr.kind=.normal)(jump:Option Code):bD (λw=>match fr.roundOf with
 |none=>if jump matches none|some .ret then GStep.go {frame:={fr with mode:=.returning},callers:=cs,status:=.running,dying:=none} w else GStep.ended (.stuck "exit, goto: no such block or label" (fr.pos P)) w
 |some l=>GStep.after (seen P fr.fn ((Instr.endRound l jump).runT P w #[]).2) (match((Instr.endRound l jump).runT P w #[]).1 with
  | .ok v w=>doReturn P main fr cs none v w
  | .halt _ w=>GStep.ended (.stuck "range over a function: no such loop" (fr.pos P)) w)):=by
 cases fr.roundOf with
 |none=>
  dsimp only;split
  .simp only[TK];exact bD.go _ _
  .simp only[TK];exact bD.go _ _
  .simp only[TS,TP];exact bD.no λw=>iF.ended _ _ _
 |some l=>
  exact bD.MF b (Instr.endRound l jump) fr.fn (λr=>match r with
   | .ok v w=>doReturn P main fr cs none v w
   | .halt _ w=>GStep.ended (.stuck "range over a function: no such loop" (fr.pos P)) w) (λw=>rfl) (λa=>nw main fr cs a c) λh=>bD.no λw=>iF.ended _ _ _
def MG(n:kT P)(main fr cs)(m:fr.kind=.normal):bD (λw=>stepG.exec P main true fr cs none w):=by
 have j:=λfr m jump=>J0 n main fr cs m jump;obtain⟨fn,tmps,todo,defers,mode,kind,g⟩:=fr;unfold stepG.exec;cases todo with
 |nil=>exact j _ m none
 |cons x k=>
  cases x with
  |code c=>
   cases c with
   |ret=>exact j _ m (some .ret)
   |skip=>exact bD.go _ _
   |label=>exact bD.go _ _
   |seq=>exact bD.go _ _
   |cond c a b=>dsimp only;generalize Frame.eval _ c=v;cases v<;>first|exact bD.go _ _|exact bD.no λw=>iF.ended _ _ _
   |block=>exact bD.go _ _
   |loop=>exact bD.go _ _
   |scope=>exact bD.go _ _
   |exit o=>dsimp only;cases exitTo o k with|none=>exact j _ m (some (.exit o))|some q=>exact bD.go _ _
   |goto l=>dsimp only;cases gotoIn l k with|none=>exact j _ m (some (.goto l))|some q=>exact bD.go _ _
   |rangeFunc f params assign body=>
    exact bD.MF n (Instr.enterLoop fn tmps params assign body g) fn (λr=>match r with
     | .ok (l,mark) w=>stepG.apply P true ⟨fn,tmps,.inRangeFunc l::k,mark++defers,mode,kind,g⟩ cs none (do let d <-resolve (⟨fn,tmps,.inRangeFunc l::k,mark++defers,mode,kind,g⟩:Frame).eval {callee:=.value f,args:=#[.const (.func (.yield l) #[] #[])],argTypes:=#[]} 0;invoke d.target d.args) w
     | .halt _ w=>GStep.ended (.stuck "range over a function: no such loop" (Frame.pos P ⟨fn,tmps,.code (.rangeFunc f params assign body)::k,defers,mode,kind,g⟩)) w) (λw=>rfl) (λa=>kB n _ cs _ m) λh=>bD.no λw=>iF.ended _ _ _
   |refuse=>exact bD.no λw=>iF.ended _ _ _
   |region o ops p=>
    dsimp only;cases p with
    |false=>exact bD.go _ _
    |true=>
     exact bD.run (P:=P) (.order fn o) (λr=>match r with
      | .ok t w=>GStep.go {frame:=⟨fn,tmps,.inRegion ops (Region.schedule (P.follows .mixedOrders) ops t)::k,defers,mode,kind,g⟩,callers:=cs,status:=.running,dying:=none} w
      | .halt _ w=>GStep.ended (.stuck "order" (Frame.pos P ⟨fn,tmps,.code (.region o ops true)::k,defers,mode,kind,g⟩)) w) (λa=>bD.go _ _) λh=>bD.no λw=>iF.ended _ _ _
  |inBlock=>exact bD.go _ _
  |inLoop=>exact bD.go _ _
  |inScope=>exact bD.go _ _
  |inRegion ops l=>cases l with|nil=>exact bD.go _ _|cons i rest=>dsimp only;split;exact ME n _ cs m;exact bD.go _ _
  |call d b r s=>exact kB n _ cs _ m
  |extern row args=>dsimp only;cases Extern.next row with|none=>exact bD.no λw=>iF.ended _ _ _|some e=>exact kB n _ cs _ m
  |inRangeFunc=>exact bD.no λw=>iF.ended _ _ _
  |beginRound=>exact kB n _ cs _ m
  |endRangeFunc l=>
   exact bD.MF n (Instr.endLoop l) fn (λr=>match r with
    | .ok jump w=>GStep.go {frame:=⟨fn,tmps,(jump.map Item.code).toList++k,defers,mode,kind,g⟩,callers:=cs,status:=.running,dying:=none} w
    | .halt (.panic v) w=>GStep.go {frame:=Frame.raise ⟨fn,tmps,.endRangeFunc l::k,defers,mode,kind,g⟩ [{v,recovered:=false}],callers:=cs,status:=.running,dying:=none} w
    | .halt _ w=>GStep.ended (.stuck "range over a function: no such loop" (Frame.pos P ⟨fn,tmps,.endRangeFunc l::k,defers,mode,kind,g⟩)) w) (λw=>rfl) (λa=>bD.go _ _) λh=>by cases h<;>first|exact bD.go _ _|exact bD.no λw=>iF.ended _ _ _
def GQ(c:kT P)(main fr cs)(d:fr.kind=.normal)(f:∀D∈fr.defers,∃r,D=⟨.collected r,#[]⟩)(e:fr.mode=.returning):bD (λw=>unwind P main fr cs none w):=by
 obtain⟨fn,tmps,todo,defers,mode,kind,b⟩:=fr;unfold unwind;cases defers with
 |cons D ds=>
  obtain⟨r,rfl⟩:=f D (.head _);exact bD.MF c (Instr.takeDeferred r) fn (λx=>match x with
   | .ok calls w=>GStep.go {frame:=⟨fn,tmps,todo,calls++ds,mode,kind,b⟩,callers:=cs,status:=.running,dying:=none} w
   | .halt _ w=>GStep.ended (.stuck "the deferred calls of a range-over-func loop have been taken" (Frame.pos P ⟨fn,tmps,todo,⟨.collected r,#[]⟩::ds,mode,kind,b⟩)) w) (λw=>rfl) (λa=>bD.go _ _) λh=>bD.no λw=>iF.ended _ _ _
 |nil=>
  simp only at e;subst e;dsimp only;cases j:P.funcs[fn]? with
  |none=>exact nw main _ cs _ d
  |some g=>
   refine bD.MF c (results g tmps) fn (λx=>match x with
    | .ok v w=>doReturn P main ⟨fn,tmps,todo,[],.returning,kind,b⟩ cs none v w
    | .halt (.stuck s) w=>GStep.ended (.stuck s (Frame.pos P ⟨fn,tmps,todo,[],.returning,kind,b⟩)) w
    | .halt _ w=>GStep.ended (.stuck "return: the result variables cannot be read" (Frame.pos P ⟨fn,tmps,todo,[],.returning,kind,b⟩)) w) (λw=>?_) (λa=>nw main _ cs a d) λh=>?_
   dsimp only;generalize (results g tmps).runT P w #[]=i;obtain⟨r,es⟩:=i;obtain⟨a,w1⟩|⟨h,w1⟩:=r;rfl;cases h<;>rfl;cases h<;>exact bD.no λw=>iF.ended _ _ _
def uN(b:kT P)(main){fr cs}(c:fr.kind=.normal)(d:∀D∈fr.defers,∃r,D=⟨.collected r,#[]⟩)(f:fr.mode=.run\/fr.mode=.returning){w w' g' es} (h:stepG P main ⟨fr,cs,.running,none,none⟩ w=.go g' w' es) (a:g'.dying=none) (g:g'.status=.running) (i:jk es):w.drawn<=w'.drawn/\w'.tape=w.tape/\∀τ,Agr w w'.drawn τ->stepG P main ⟨fr,cs,.running,none,none⟩ (av w τ w.drawn)=.go g' (av w' τ w'.drawn) es:=by (have key:bD (λw=>stepG P main ⟨fr,cs,.running,none,none⟩ w):=by unfold stepG;obtain e|e:=f;simp only[e];exact MG b main fr cs c;simp only[e];exact GQ b main fr cs c d e);exact key w g' w' es h a g i
end Go.Tm
namespace Go.Tm
def uO{Pr G}{π:Ren G}{es}(h:∀e∈es,lx Pr π e):jk es:=by intro e a b;have:=h e a;unfold lx at this;rw[b]at this;exact this
def Cc{G}{π:Ren G}{d D}(h:bj (pU π) d D):∀x∈D,∃r,x=⟨.collected r,#[]⟩:=by induction h with|nil=>simp|cons h _ b=>intro x hx;cases h with|mk a=>obtain rfl|hx:=TZ.1 hx;exact⟨_,rfl⟩;exact b x hx
section
variable {S:Kn} {P:Program} {fs:Array Func} {Pr:Nat->Prop}
def Cp.calm{Post π c F CS W}(h:Cp S P fs Pr Post π c F CS W):F.kind=.normal/\(∀x∈F.defers,∃r,x=⟨.collected r,#[]⟩)/\(F.mode=.run\/F.mode=.returning):=⟨h.top.Kind,Cc h.top.defers,by rw[h.top.mode];exact h.top.calm⟩
def Cp.run(x:Tab S P fs)(y:kT P)(i:∀f,S.stop f=false){Post π c F CS W}(h:Cp S P fs Pr Post π c F CS W)(u:∀n,W.drawn<=n->S.calm (W.tape n)):∃(j:Ren P.globals.size) (c':Gh) (v:Frame) (k:World) (n:Nat),Cp S P fs Pr Post j c' v [] k/\c'.AtE/\Chg Pr π W k j/\W.drawn<=k.drawn/\∀B τ,Agr W k.drawn τ->runN P n (lone F (CS++B) (av W τ W.drawn))=.next (lone v B (av k τ k.drawn)):=by have l:=h.rm.acc;induction l generalizing π F CS W with|intro c _ z=>by_cases p:c.AtE;have m:=h.cs;rw[p.1]at m;cases m;exact⟨π,c,F,W,0,h,p,Chg.refl _ _ _,Tw _,λB τ _=>rfl⟩;obtain⟨c',N,A,k,ev,j,C,D,q,e,r⟩:=h.step x i p (u _ (Tw _)) true;(have d:=h.calm;have g:∀B,_:=λB=>uN y true d.1 d.2.1 d.2.2 (q B) rfl rfl (uO r);have s:=(g []).1;obtain⟨t,E,G,H,n,I,J,K,w,L⟩:=z c' C D λn M=>by rw[e.tape];exact u n (Tx s M));refine⟨t,E,G,H,n+1,I,J,e.trans K,Tx s w,λB τ o=>?_⟩;unfold runN;rw[step_lone_go (by rw[(g B).2.2 τ λn a b=>o n a (TB b w)];rfl)];exact L B τ λn a b=>by rw[e.tape];exact o n (Tx s a) b
end
def Ei{P fr x xs w'}:∀n w1,runN P n (lone aH [] w1)≠ .next (lone fr (x::xs) w'):=by intro n w1;cases n with|zero=>intro e;have:=(jD (Stepped.next.inj e)).2.1;simp at this|succ n=>(intro e;unfold runN at e;have:∃o w2,step P (lone aH [] w1)=.ended o w2:=by refine⟨_,_,step_lone_ended (o:=?_) (w':=w1) ?_⟩;rotate_left;simp[stepG,stepG.exec,aH,GStep.bare];rfl);obtain⟨o,w2,a⟩:=this;rw[a]at e;cases e
def gone{P a fr x xs w0 w' v}(b:a.leaving P w0 (.returned v)){n}(h:runN P (n+1) (lone a [aH] w0)=.next (lone fr (x::xs) w')):False:=by unfold runN at h;rw[step_leave_returned b]at h;exact Ei n w0 h
def gP(P){a n m m1 m2}(c:runN P a m=.next m1)(b:runN P n m=.next m2)(d:a<=n):runN P (n-a) m1=.next m2:=by (have:n=a+(n-a):=by omega);rw[this,runN_add,c]at b;exact b
section
variable {S:Kn} {P:Program} {fs:Array Func}
end
def Kept(w0 w:World):Prop:=w.heap.size=w0.heap.size/\∀b:Nat,w.heap[b]? =w0.heap[b]? \/w.heap[b]? =some (.deferred none)
def Kept.refl(w):Kept w w:=⟨rfl,λ_=>.inl rfl⟩
inductive xZ(G:Nat)(w0:World)(ch0:List PanicEntry):Machine->Prop
 |up {fr:Frame} {cs:List Frame} {w:World} (π:Ren G):fr.mode=.panicking ch0->(∀f∈fr::cs,Marks π f)->Dp π w->(∀f∈cs,f.mode=.run\/f.mode=.returning)->Kept w0 w->xZ G w0 ch0 (lone fr (cs++[aH]) w)
 |low (ch) (w:World):xZ G w0 ch0 (lone {aH with mode:=.panicking ch} [] w)
def Nf{G w0 ch0 m}(h:xZ G w0 ch0 m){fr w}(e:m=lone fr [aH] w):fr.mode=.panicking ch0/\Kept w0 w:=by cases h with| @up fr' cs w' π c _ _ _ b=>have a:=jD e;have d:=a.2.1;simp at d;obtain⟨rfl,_,rfl⟩:=a;exact⟨c,b⟩|low ch w'=>simp only[lone,Machine.mk.injEq]at e;have a:=e.2.1;simp at a
def Hf{G w0 ch0 P m}(h:xZ G w0 ch0 m):(∃o w,step P m=.ended o w)\/∃m',step P m=.next m'/\xZ G w0 ch0 m':=by
 cases h with
 |low ch w=>refine .inl ⟨_,_,step_lone_ended (o:=?_) (w':=w) ?_⟩;rotate_left;simp[stepG,unwind,callDeferred,aH,GStep.bare];rfl
 | @up fr cs w π p q s a i=>
  have j:=q fr (.head _);cases d:fr.defers with
  |nil=>
   by_cases g:fr.catches P=true
   .refine .inl ⟨_,_,step_lone_ended (o:=?_) (w':=w) ?_⟩;(rotate_left);simp[stepG,unwind,d,p,g,GStep.bare];rfl
   cases cs with|nil=>refine .inr ⟨_,step_lone_go (fr':={aH with mode:=.panicking ch0}) (cs':=[]) (w':=w) ?_,.low _ w⟩;simp[stepG,unwind,d,p,g,GStep.bare,Frame.raise,aH]|cons c cs=>have u:=q c (.tail _ (.head _));refine .inr ⟨_,step_lone_go (fr':=c.raise ch0) (cs':=cs++[aH]) (w':=w) ?_,?_⟩;simp[stepG,unwind,d,p,g,GStep.bare];(have e:c.raise ch0={c with mode:=.panicking ch0}:=by unfold Frame.raise;rcases a c (.head _)with x|x<;>rw[x]);rw[e];refine .up π rfl (λf j=>?_) s (λf j=>a f (.tail _ j)) i;cases j with|head=>exact u|tail _ j=>exact q f (.tail _ (.tail _ j))
  |cons D ds=>obtain⟨r,R,rfl,v⟩:=j D (by rw[d];exact .head _);have l:=Ef P r w λo k=>s r R o v k;obtain e|⟨x,w',e⟩:=l;refine .inr ⟨_,step_lone_go (fr':={fr with defers:=ds}) (cs':=cs++[aH]) (w':={w with heap:=w.heap.setIfInBounds r (.deferred none)}) ?_,?_⟩;simp only[stepG,p,unwind,d,e];rfl;refine .up π p (λf n=>?_) ?_ a ⟨by simpa using i.1,λb=>?_⟩;(cases n with|head=>exactλD y=>j D (by rw[d];exact .tail _ y)|tail _ n=>exact q f (.tail _ n));intro z R' o t k;simp only[Ui]at k;split at k;split at k;cases k;exact .inl rfl;cases k;exact s z R' o t k;simp only[Ui];split;split;exact .inr rfl;rename_i A B;subst A;refine .inl ?_;rw[eq_comm,Array.getElem?_eq_none_iff,<-i.1];omega;exact i.2 b;refine .inl ⟨_,_,step_lone_ended (o:=?_) (w':=w') ?_⟩;(rotate_left);simp only[stepG,p,unwind,d,e];rfl
def EV{G w0 ch0 P}:∀(n) {m},xZ G w0 ch0 m->∀{fr} {w},runN P n m=.next (lone fr [aH] w)->fr.mode=.panicking ch0/\Kept w0 w:=by intro n;induction n with|zero=>intro m h fr w e;exact Nf h (by simpa[runN]using e)|succ n c=>(intro m h fr w e;unfold runN at e;rcases Hf (P:=P) h with⟨o,w',a⟩|⟨d,a,b⟩);rw[a]at e;cases e;rw[a]at e;exact c b e
end Go.Tm
namespace Go.Tm
open Go.Conc Go.ConcN Go.RowKit Go.Conc.Lib Go.ConcR.Gen Go.ConcN.Gen
open Go.ConcR (KK wgBlock WgAt stA smA rd wr mk Payload Aside2 DC0)
def RL(ty:TypeId)(Wg:Nat)(w a:World):Prop:=WgLive ty Wg w->WgLive ty Wg a
def xl{ty Wg w Z1}(h:WgLive ty Wg w)(r:RL ty Wg w Z1):WgLive ty Wg Z1:=r h
section
variable (P:Program) (mn:Bool) (ty:TypeId) (Wg:Nat) (Fin:Goroutine->World->Prop)
def XKe(g:Goroutine)(w:World):Prop:=g.status=.running/\∃g',stepG P mn g w=.go g' w #[mk .enable]/\∃m,(Goes P mn (RL ty Wg) DC0) Fin m g' w
def XSr(g:Goroutine)(w:World):Prop:=g.status=.running/\∃g',stepG P mn g w=.go g' w #[mk (.read (smA Wg))]/\∃m,(Goes P mn (RL ty Wg) DC0) (XKe P mn ty Wg Fin) m g' w
def XA1(g:Goroutine)(w:World):Prop:=g.status=.running/\∀v:Nat,v<2147483647->WgAt ty Wg w (v*KK) 0->∃g',stepG P mn g w=.go g' (w.setCell (stA Wg) (.int .u64 ((v+1)*KK))) #[rd (stA Wg),wr (stA Wg)]/\((∃m,(Goes P mn (RL ty Wg) DC0) (XSr P mn ty Wg Fin) m g' (w.setCell (stA Wg) (.int .u64 ((v+1)*KK))))\/∃m,(Goes P mn (RL ty Wg) DC0) (XKe P mn ty Wg Fin) m g' (w.setCell (stA Wg) (.int .u64 ((v+1)*KK))))
def XKd(g:Goroutine)(w:World):Prop:=g.status=.running/\∃g',stepG P mn g w=.go g' w #[mk .disable]/\∃m,(Goes P mn (RL ty Wg) DC0) (XA1 P mn ty Wg Fin) m g' w
def R4(g:Goroutine)(w:World):Prop:=g.status=.running/\∃g',stepG P mn g w=.go g' w #[mk (.acquire (stA Wg))]/\∃m,(Goes P mn (RL ty Wg) DC0) Fin m g' w
def XWe(g:Goroutine)(w:World):Prop:=g.status=.running/\∃g',stepG P mn g w=.go g' w #[mk .enable]/\∃m,(Goes P mn (RL ty Wg) DC0) (R4 P mn ty Wg Fin) m g' w
def XW4(g:Goroutine)(w:World):Prop:=g.status=.running/\(WgAt ty Wg w 0 0->∃g',stepG P mn g w=.go g' w #[rd (stA Wg)]/\∃m,(Goes P mn (RL ty Wg) DC0) (XWe P mn ty Wg Fin) m g' w)
def XW3(g:Goroutine)(w:World):Prop:=g.status=.running/\g.offers=none/\((∃st,WgAt ty Wg w st 0)->stepG P mn g w=.go {g with status:=.blocked} w #[])/\(WgAt ty Wg w 0 1->∃g',stepG P mn g w=.go g' (w.setCell (smA Wg) (.int .u32 0)) (semEvents (smA Wg))/\∃m,(Goes P mn (RL ty Wg) DC0) (XW4 P mn ty Wg Fin) m g' (w.setCell (smA Wg) (.int .u32 0)))
def XSw(g:Goroutine)(w:World):Prop:=g.status=.running/\∃g',stepG P mn g w=.go g' w #[mk (.write (smA Wg))]/\∃m,(Goes P mn (RL ty Wg) DC0) (XW3 P mn ty Wg Fin) m g' w
variable (Anch:Goroutine->World->Prop)
def XW2(a:Nat)(g:Goroutine)(w:World):Prop:=
 g.status=.running/\∀v:Nat,v<2147483648->WgAt ty Wg w (v*KK) 0->
  (v=a->∃g',stepG P mn g w=.go g' (w.setCell (stA Wg) (.int .u64 (v*KK+1))) #[rd (stA Wg),wr (stA Wg)]/\∃m,(Goes P mn (RL ty Wg) DC0) (XSw P mn ty Wg Fin) m g' (w.setCell (stA Wg) (.int .u64 (v*KK+1))))/\
  (v≠a->∃g',stepG P mn g w=.go g' w #[rd (stA Wg)]/\∃m,(Goes P mn (RL ty Wg) DC0) Anch m g' w)
def XW1(g:Goroutine)(w:World):Prop:=g.status=.running/\∀v:Nat,v<2147483648->WgAt ty Wg w (v*KK) 0->∃g',stepG P mn g w=.go g' w #[rd (stA Wg)]/\(v=0->∃m,(Goes P mn (RL ty Wg) DC0) (XWe P mn ty Wg Fin) m g' w)/\(v≠0->∃m,(Goes P mn (RL ty Wg) DC0) (XW2 P mn ty Wg Fin Anch v) m g' w)
def XWd(g:Goroutine)(w:World):Prop:=g.status=.running/\∃g',stepG P mn g w=.go g' w #[mk .disable]/\∃m,(Goes P mn (RL ty Wg) DC0) Anch m g' w
def XAn(L:WgLink)(Wg:Nat)(c:Frame)(cs:List Frame)(g:Goroutine)(w:World):Prop:=∃T:Array Value,g=G ((base L.wait).at ⟨T,[]⟩ [.code (L7 L),.inLoop (L7 L),.inBlock 0]) (c::cs)/\T.size=84/\T[0]? =some (.pointer (some ⟨Wg,0,none⟩))/\WgLive L.tWg Wg w
end
section
variable {L:WgLink} {P:Program} {mn:Bool} {Wg:Nat} {Fin:Goroutine->World->Prop} {Y0:Frame} {Z0:Act} {ops0:Array Oper} {o0:Nat} {rest0:List Nat} {k₀:List Item} {cs:List Frame} {mT:Nat}
def Te(H:WgLib P L)(f:∀w,WgLive L.tWg Wg w->Goes P mn (RL L.tWg Wg) DC0 Fin mT (G (Y0.at (Z0.put ((ops0[o0]?).bind (·.dst)) (.tuple #[])) (.inRegion ops0 rest0::k₀)) cs) w)(w:World)(a:WgLive L.tWg Wg w):Goes P mn (RL L.tWg Wg) DC0 (XKd P mn L.tWg Wg Fin) 20 (G ((base L.add).at ⟨#[.pointer (some ⟨Wg,0,none⟩),.int .i64 1,bi,bi,bi,bi,bi,bi,bi,bi,bi,bi,bi,bi,bi,bi,bi,bi,bi,bi,bi,bi,bi,bi,bi,bi,bi,bi,bi,bi,bi,bi,bi,bi,bi,bi,bi,bi,bi,bi,bi,bi,bi,bi,bi,bi,bi,bi,bi,bi,bi,bi,bi,bi,bi,bi,bi,bi,bi,bi,bi,bi,bi,bi,bi,bi,bi,bi,bi,bi,bi,bi,bi,bi,bi,bi,bi,bi,bi,bi,bi,bi,bi,bi,bi,bi,bi,bi,bi,bi,bi,bi,bi,bi,bi,bi,bi,bi,bi,bi,bi,bi,bi,bi,bi,bi,bi,bi,bi,bi,bi,bi,bi,bi,bi,bi,bi],[]⟩ [.code (body_add L)]) (Y0.at Z0 (.inRegion ops0 (o0::rest0)::k₀)::cs)) w:=by
 lib_facts
 simp only[body_add,addFn,Va];u_c stepG_seq xl a
 u_cond true xl a
 iterate 2 (u_c stepG_seq xl a)
 u_reg xl a
 iterate 2 (u_op xl a)
 u_c stepG_region_end xl a
 u_cond false xl a
 u_c stepG_skip xl a
 u_c stepG_seq xl a
 u_reg xl a
 refine Goes.stop (λw1 g=>?_);replace a:=xl a g;clear g;refine⟨rfl,_,stepG_mark0 .disable (by simp) rfl rfl (by k_ne) rfl H.f_disable (x_disable_n L) (x_disable_b L) (x_disable_x L) (x_disable_f L),60,?_⟩;walk_nrm
 u_c stepG_region_end xl a
 u_reg xl a
 u_defer xl a
 u_c stepG_region_end xl a
 u_c stepG_seq xl a
 u_reg xl a
 u_op xl a
 u_c stepG_region_end xl a
 iterate 2 (u_c stepG_seq xl a)
 u_reg xl a
 u_bub xl a
 u_c stepG_region_end xl a
 u_cond false xl a
 u_c stepG_skip xl a
 u_c stepG_seq xl a
 u_reg xl a
 iterate 6 (u_op xl a)
 u_call H.f_uAdd (nm_uAdd L) uAddFn xl a
 u_c stepG_seq xl a
 u_reg xl a
 u_op xl a
 u_c stepG_region_end xl a
 u_c stepG_seq xl a
 u_reg xl a
 iterate 4 (u_op xl a)
 refine Goes.stop (λw2 h=>?_);replace a:=xl a h;clear h;refine⟨rfl,λv m b=>?_⟩;obtain rfl|hvp:=Ur v
 .replace b:WgAt L.tWg Wg w2 0 0:=by simpa using b
  have z:(((0:Nat):Int)+1)*KK=KK:=by simp
  rw[z];have e0:IntKind.u64.wrap (0+4294967296)=KK:=by decide
  refine⟨_,(stepG_add_atomic rfl rfl (by k_ne) rfl H.f_addU64 (x_addU64_n L) (x_addU64_b L) (x_addU64_x L) .u64 (x_addU64_f L) rfl rfl b.cellSt (b.thaw 0)).trans (by rw[e0];rfl),.inl ⟨110,?_⟩⟩;replace a:WgLive L.tWg Wg (w2.setCell (stA Wg) (.int .u64 KK)):=⟨_,_,b.setSt _⟩
  clear b;simp only[KK]at a⊢;walk_nrm
  u_op xl a
  u_c stepG_region_end xl a
  u_c stepG_ret' xl a
  u_leave1 H.f_uAdd xl a
  u_op xl a
  u_c stepG_region_end xl a
  iterate 2 (u_c stepG_seq xl a)
  u_reg xl a
  iterate 4 (u_op xl a)
  iterate 2 (u_skip xl a)
  u_op xl a
  u_c stepG_region_end xl a
  u_cond false xl a
  u_c stepG_skip xl a
  u_c stepG_seq xl a
  u_reg xl a
  iterate 4 (u_op xl a)
  u_c stepG_region_end xl a
  u_c stepG_seq xl a
  u_reg xl a
  iterate 4 (u_op xl a)
  u_c stepG_region_end xl a
  iterate 2 (u_c stepG_seq xl a)
  u_reg xl a
  iterate 10 (u_op xl a)
  u_c stepG_region_end xl a
  u_cond true xl a
  u_reg xl a
  iterate 3 (u_op xl a)
  u_conv H.underlying_tPU32 H.room_tU32 (WgLive.cell1 a).choose_spec xl a
  refine Goes.stop (λw3 i=>?_);replace a:=xl a i;clear i;refine⟨rfl,_,stepG_markAt .read (by simp) rfl rfl (by k_ne) rfl H.f_raceRead (x_raceRead_n L) (x_raceRead_b L) (x_raceRead_x L) (x_raceRead_f L) (ad:=⟨Wg,1,none⟩) (by simp[Act.eval]),60,?_⟩;walk_nrm
  u_c stepG_region_end xl a
  iterate 2 (u_c stepG_seq xl a)
  u_reg xl a
  iterate 2 (u_op xl a)
  u_c stepG_region_end xl a
  u_cond false xl a
  u_c stepG_skip xl a
  iterate 2 (u_c stepG_seq xl a)
  u_reg xl a
  iterate 3 (u_op xl a)
  iterate 2 (u_skip xl a)
  iterate 2 (u_op xl a)
  iterate 4 (u_skip xl a)
  u_op xl a
  u_c stepG_region_end xl a
  u_cond false xl a
  u_c stepG_skip xl a
  iterate 2 (u_c stepG_seq xl a)
  u_reg xl a
  iterate 3 (u_op xl a)
  iterate 2 (u_skip xl a)
  u_op xl a
  u_c stepG_region_end xl a
  u_cond true xl a
  u_c stepG_ret' xl a
  refine Goes.stop (λw4 d=>?_);replace a:=xl a d;clear d;refine⟨rfl,_,stepG_unwind_entry (v:=.tuple #[]) (evs:=#[mk .enable]) rfl H.f_enable (x_enable_n L) (x_enable_b L) (x_enable_x L) (x_enable_f L) (by simp[Extern.Race.none_]) (by simp[mk]) (by simp[mk]),mT+1,?_⟩
  u_leave0 H.f_add xl a
  exact f _ a
 obtain⟨V,e⟩:∃V:Int,V=(v:Int)+1:=⟨_,rfl⟩
 obtain⟨S,c⟩:∃S:Int,S=V*KK:=⟨_,rfl⟩
 have j:IntKind.u64.wrap ((v:Int)*KK+4294967296)=S:=by rw[IntKind.wrap_u64,c,e];simp only[KK];omega
 rw[<-e,<-c];have a1:S/4294967296=V:=by rw[c];simp only[KK];omega
 have n:bits .and .u64 S 2147483648=0:=by rw[c,e];have:=st_flag (v+1) 0 (by omega) (by omega);simpa[KK]using this
 have o:bits .and .u64 S 2147483647=0:=by rw[c,e];have:=st_waiters (v+1) 0 (by omega) (by omega);simpa[KK]using this
 have p:IntKind.i32.wrap V=V:=by rw[IntKind.wrap_i32];omega
 have k:1<V:=by omega
 have l:V<2147483648:=by omega
 have q:(V==1)=false:=by simp;omega
 have r:decide (V=1)=false:=Tz (by omega);have s:decide (V<0)=false:=Tz (by omega);have t:decide (0<V)=true:=TD (by omega);have u:(V==0)=false:=by simp;omega
 have x:decide (V=0)=false:=Tz (by omega);refine⟨_,(stepG_add_atomic rfl rfl (by k_ne) rfl H.f_addU64 (x_addU64_n L) (x_addU64_b L) (x_addU64_x L) .u64 (x_addU64_f L) rfl rfl b.cellSt (b.thaw 0)).trans (by rw[j];rfl),.inr ⟨110,?_⟩⟩;replace a:WgLive L.tWg Wg (w2.setCell (stA Wg) (.int .u64 S)):=⟨_,_,b.setSt _⟩
 clear b c e j;walk_nrm
 u_op xl a
 u_c stepG_region_end xl a
 u_c stepG_ret' xl a
 u_leave1 H.f_uAdd xl a
 u_op xl a
 u_c stepG_region_end xl a
 iterate 2 (u_c stepG_seq xl a)
 u_reg xl a
 iterate 4 (u_op xl a)
 iterate 2 (u_skip xl a)
 u_op xl a
 u_c stepG_region_end xl a
 u_cnd false xl a
 u_c stepG_skip xl a
 u_c stepG_seq xl a
 u_reg xl a
 iterate 4 (u_op xl a)
 u_c stepG_region_end xl a
 u_c stepG_seq xl a
 u_reg xl a
 iterate 4 (u_op xl a)
 u_c stepG_region_end xl a
 iterate 2 (u_c stepG_seq xl a)
 u_reg xl a
 iterate 10 (u_op xl a)
 u_c stepG_region_end xl a
 u_cnd false xl a
 u_c stepG_skip xl a
 iterate 2 (u_c stepG_seq xl a)
 u_reg xl a
 iterate 2 (u_op xl a)
 u_c stepG_region_end xl a
 u_cnd false xl a
 u_c stepG_skip xl a
 iterate 2 (u_c stepG_seq xl a)
 u_reg xl a
 iterate 3 (u_op xl a)
 iterate 2 (u_skip xl a)
 iterate 2 (u_op xl a)
 iterate 4 (u_skip xl a)
 u_op xl a
 u_c stepG_region_end xl a
 u_cnd false xl a
 u_c stepG_skip xl a
 iterate 2 (u_c stepG_seq xl a)
 u_reg xl a
 iterate 3 (u_op xl a)
 iterate 2 (u_skip xl a)
 u_op xl a
 u_c stepG_region_end xl a
 u_cnd true xl a
 u_c stepG_ret' xl a
 refine Goes.stop (λw4 d=>?_);replace a:=xl a d;clear d;refine⟨rfl,_,stepG_unwind_entry (v:=.tuple #[]) (evs:=#[mk .enable]) rfl H.f_enable (x_enable_n L) (x_enable_b L) (x_enable_x L) (x_enable_f L) (by simp[Extern.Race.none_]) (by simp[mk]) (by simp[mk]),mT+1,?_⟩
 u_leave0 H.f_add xl a
 exact f _ a
def R5(H:WgLib P L)(l:∀w,WgLive L.tWg Wg w->Goes P mn (RL L.tWg Wg) DC0 Fin mT (G (Y0.at (Z0.put ((ops0[o0]?).bind (·.dst)) (.tuple #[])) (.inRegion ops0 rest0::k₀)) cs) w) (g) (w) (h:XAn L Wg (Y0.at Z0 (.inRegion ops0 (o0::rest0)::k₀)) cs g w):∃m,Goes P mn (RL L.tWg Wg) DC0 (XW1 P mn L.tWg Wg Fin (XAn L Wg (Y0.at Z0 (.inRegion ops0 (o0::rest0)::k₀)) cs)) m g w:=by
 lib_facts
 obtain⟨T,rfl,d,o,a⟩:=h;obtain⟨v0,v1,v2,v3,v4,v5,v6,v7,v8,v9,t,u,x,y,z,A,B,C,D,E,F,I,J,K,M,N,O,Q,R,U,V,W,X,Y,Z,aa,ab,af,ag,ah,ak,an,ao,ar,ax,ay,aM,a6,a7,a8,ba,bb,bk,bm,bo,br,bs,bx,bA,bB,bC,b0,b3,b4,b5,b6,b7,b8,b9,ca,cb,cc,cd,cf,cg,ck,cl,cm,cn,cp,cq,cr,cv,cw,rfl⟩:=array84 T d;simp only[VE,Xb,Ug]at o;subst o;refine⟨30,?_⟩;simp only[L7,body_wait,waitFn,Va];u_c stepG_block xl a;u_c stepG_seq xl a
 u_reg xl a
 iterate 3 (u_op xl a)
 u_call H.f_uLoad (nm_uLoad L) uLoadFn xl a
 u_c stepG_seq xl a
 u_reg xl a
 u_op xl a
 u_c stepG_region_end xl a
 u_c stepG_seq xl a
 u_reg xl a
 iterate 3 (u_op xl a)
 refine Goes.stop (λw1 p=>?_);replace a:=xl a p;clear p;refine⟨rfl,λv hv b=>?_⟩;obtain rfl|hvp:=Ur v
 .replace b:WgAt L.tWg Wg w1 0 0:=by simpa using b
  refine⟨_,stepG_load_atomic (v:=0) rfl rfl (by k_ne) rfl H.f_loadU64 (x_loadU64_n L) (x_loadU64_b L) (x_loadU64_x L) .u64 (x_loadU64_f L) rfl b.cellSt,λ_=>⟨80,?_⟩,λh=>absurd rfl h⟩;clear b;walk_nrm
  u_op xl a
  u_c stepG_region_end xl a
  u_c stepG_ret' xl a
  u_leave1 H.f_uLoad xl a
  u_op xl a
  u_c stepG_region_end xl a
  u_c stepG_seq xl a
  u_reg xl a
  iterate 4 (u_op xl a)
  u_c stepG_region_end xl a
  u_c stepG_seq xl a
  u_reg xl a
  iterate 4 (u_op xl a)
  u_c stepG_region_end xl a
  iterate 2 (u_c stepG_seq xl a)
  u_reg xl a
  iterate 2 (u_op xl a)
  u_c stepG_region_end xl a
  u_cond true xl a
  u_c stepG_seq xl a
  u_cond true xl a
  u_c stepG_seq xl a
  u_reg xl a
  refine Goes.stop (λw5 f=>?_);replace a:=xl a f;clear f;refine⟨rfl,_,stepG_mark0 .enable (by simp) rfl rfl (by k_ne) rfl H.f_enable (x_enable_n L) (x_enable_b L) (x_enable_x L) (x_enable_f L),30,?_⟩;walk_nrm
  u_c stepG_region_end xl a
  u_reg xl a
  u_op xl a
  u_conv H.underlying_tWgP H.room_tWg (WgLive.cell0 a).choose_spec xl a
  refine Goes.stop (λw6 i=>?_);replace a:=xl a i;clear i;refine⟨rfl,_,stepG_markAt .acquire (by simp) rfl rfl (by k_ne) rfl H.f_acquire (x_acquire_n L) (x_acquire_b L) (x_acquire_x L) (x_acquire_f L) (by simp[Act.eval,stA]),⟨mT+20,?_⟩⟩;walk_nrm
  u_c stepG_region_end xl a
  iterate 2 (u_c stepG_seq xl a)
  u_reg xl a
  iterate 8 (u_op xl a)
  iterate 2 (u_skip xl a)
  u_op xl a
  u_c stepG_region_end xl a
  u_cond false xl a
  u_c stepG_skip xl a
  u_c stepG_ret' xl a
  u_leave0 H.f_wait xl a
  exact l _ a
 obtain⟨S,c⟩:∃S:Int,(v:Int)*KK=S:=⟨_,rfl⟩
 have a1:S/4294967296=(v:Int):=by rw[<-c];simp only[KK];omega
 have b1:bits .and .u64 S 2147483648=0:=by rw[<-c];have:=st_flag v 0 (by omega) (by omega);simpa[KK]using this
 have b2:bits .and .u64 S 2147483647=0:=by rw[<-c];have:=st_waiters v 0 (by omega) (by omega);simpa[KK]using this
 have c1:IntKind.i32.wrap (v:Int)=(v:Int):=by rw[IntKind.wrap_i32];omega
 have wq:IntKind.u64.wrap (S+1)=S+1:=by rw[IntKind.wrap_u64,<-c];simp only[KK];omega
 have q3:decide ((v:Int)<0)=false:=Tz (by omega);have q4:decide (0<(v:Int))=true:=TD (by omega);have q5:((v:Int)==0)=false:=by simp;omega
 have q6:decide ((v:Int)=0)=false:=Tz (by omega);rw[c]at b;refine⟨_,stepG_load_atomic (v:=S) rfl rfl (by k_ne) rfl H.f_loadU64 (x_loadU64_n L) (x_loadU64_b L) (x_loadU64_x L) .u64 (x_loadU64_f L) rfl b.cellSt,λh0=>absurd h0 (by omega),λ_=>⟨80,?_⟩⟩;clear b;walk_nrm
 u_op xl a
 u_c stepG_region_end xl a
 u_c stepG_ret' xl a
 u_leave1 H.f_uLoad xl a
 u_op xl a
 u_c stepG_region_end xl a
 u_c stepG_seq xl a
 u_reg xl a
 iterate 4 (u_op xl a)
 u_c stepG_region_end xl a
 u_c stepG_seq xl a
 u_reg xl a
 iterate 4 (u_op xl a)
 u_c stepG_region_end xl a
 iterate 2 (u_c stepG_seq xl a)
 u_reg xl a
 iterate 2 (u_op xl a)
 u_c stepG_region_end xl a
 u_cnd false xl a
 u_c stepG_skip xl a
 u_c stepG_seq xl a
 u_reg xl a
 iterate 6 (u_op xl a)
 u_call H.f_uCas (nm_uCas L) uCasFn xl a
 u_c stepG_seq xl a
 u_reg xl a
 u_op xl a
 u_c stepG_region_end xl a
 u_c stepG_seq xl a
 u_reg xl a
 iterate 5 (u_op xl a)
 refine Goes.stop (λw2 q=>?_);replace a:=xl a q;clear q;refine⟨rfl,λv' cx b=>⟨λe=>?_,λe=>?_⟩⟩
 .subst e;rw[c]at b⊢;refine⟨_,(stepG_cas_hit (v:=S) (n:=S+1) rfl rfl (by k_ne) rfl H.f_casU64 (x_casU64_n L) (x_casU64_b L) (x_casU64_x L) .u64 (x_casU64_f L) rfl rfl rfl b.cellSt (b.thaw 0)).trans (by rfl),80,?_⟩;replace a:WgLive L.tWg Wg (w2.setCell (stA Wg) (.int .u64 (S+1))):=⟨_,_,b.setSt _⟩
  clear b;walk_nrm
  u_op xl a
  u_c stepG_region_end xl a
  u_c stepG_ret' xl a
  u_leave1 H.f_uCas xl a
  u_c stepG_region_end xl a
  u_cond true xl a
  iterate 2 (u_c stepG_seq xl a)
  u_reg xl a
  iterate 4 (u_op xl a)
  u_c stepG_region_end xl a
  u_cond true xl a
  u_reg xl a
  iterate 3 (u_op xl a)
  u_conv H.underlying_tPU32 H.room_tU32 (WgLive.cell1 a).choose_spec xl a
  refine Goes.stop (λw3 r=>?_);replace a:=xl a r;clear r;refine⟨rfl,_,stepG_markAt .write (by simp) rfl rfl (by k_ne) rfl H.f_raceWrite (x_raceWrite_n L) (x_raceWrite_b L) (x_raceWrite_x L) (x_raceWrite_f L) (ad:=⟨Wg,1,none⟩) (by simp[Act.eval]),60,?_⟩;walk_nrm
  u_c stepG_region_end xl a
  u_c stepG_seq xl a
  u_reg xl a
  u_op xl a
  u_c stepG_region_end xl a
  iterate 2 (u_c stepG_seq xl a)
  u_reg xl a
  iterate 4 (u_op xl a)
  u_skip xl a
  u_op xl a
  u_c stepG_region_end xl a
  u_cond false xl a
  u_c stepG_skip xl a
  u_c stepG_seq xl a
  u_reg xl a
  iterate 4 (u_op xl a)
  refine Goes.stop (λw4 s=>?_);replace a:=xl a s;clear s;refine⟨rfl,rfl,λ⟨st,b⟩=>stepG_semacquire_wait rfl rfl rfl H.f_semacquire (x_semacquire_n L) (x_semacquire_b L) (x_semacquire_x L) (x_semacquire_f L) (by simp[Act.eval,smA]) b.cellSm,λj=>?_⟩;refine⟨_,(stepG_semacquire (n:=1) rfl rfl (by k_ne) rfl H.f_semacquire (x_semacquire_n L) (x_semacquire_b L) (x_semacquire_x L) (x_semacquire_f L) (by simp[Act.eval,smA]) j.cellSm (by k_ne) (j.thaw 1)).trans (by rfl),40,?_⟩;replace a:WgLive L.tWg Wg (w4.setCell (smA Wg) (.int .u32 0)):=⟨_,_,j.setSm 0⟩
  clear j;walk_nrm
  u_c stepG_region_end xl a
  u_c stepG_seq xl a
  u_reg xl a
  iterate 3 (u_op xl a)
  u_call H.f_uLoad (nm_uLoad L) uLoadFn xl a
  u_c stepG_seq xl a
  u_reg xl a
  u_op xl a
  u_c stepG_region_end xl a
  u_c stepG_seq xl a
  u_reg xl a
  iterate 3 (u_op xl a)
  refine Goes.stop (λw5 f=>?_);replace a:=xl a f;clear f;refine⟨rfl,λb=>⟨_,stepG_load_atomic (v:=0) rfl rfl (by k_ne) rfl H.f_loadU64 (x_loadU64_n L) (x_loadU64_b L) (x_loadU64_x L) .u64 (x_loadU64_f L) rfl b.cellSt,40,?_⟩⟩;clear b;walk_nrm
  u_op xl a
  u_c stepG_region_end xl a
  u_c stepG_ret' xl a
  u_leave1 H.f_uLoad xl a
  iterate 2 (u_op xl a)
  u_c stepG_region_end xl a
  u_c stepG_seq xl a
  u_cond true xl a
  u_c stepG_seq xl a
  u_reg xl a
  refine Goes.stop (λw6 i=>?_);replace a:=xl a i;clear i;refine⟨rfl,_,stepG_mark0 .enable (by simp) rfl rfl (by k_ne) rfl H.f_enable (x_enable_n L) (x_enable_b L) (x_enable_x L) (x_enable_f L),30,?_⟩;walk_nrm
  u_c stepG_region_end xl a
  u_reg xl a
  u_op xl a
  u_conv H.underlying_tWgP H.room_tWg (WgLive.cell0 a).choose_spec xl a
  refine Goes.stop (λw7 k=>?_);replace a:=xl a k;clear k;refine⟨rfl,_,stepG_markAt .acquire (by simp) rfl rfl (by k_ne) rfl H.f_acquire (x_acquire_n L) (x_acquire_b L) (x_acquire_x L) (x_acquire_f L) (by simp[Act.eval,stA]),⟨mT+10,?_⟩⟩;walk_nrm
  u_c stepG_region_end xl a
  iterate 2 (u_c stepG_seq xl a)
  u_reg xl a
  u_op xl a
  u_c stepG_region_end xl a
  u_cond false xl a
  u_c stepG_skip xl a
  u_c stepG_ret' xl a
  u_leave0 H.f_wait xl a
  exact l _ a
 refine⟨_,stepG_cas_miss (v:=(v':Int)*KK) (old:=S) (n:=S+1) rfl rfl (by k_ne) rfl H.f_casU64 (x_casU64_n L) (x_casU64_b L) (x_casU64_x L) .u64 (x_casU64_f L) rfl rfl rfl b.cellSt (b.thaw 0) (by rw[<-c];simp only[KK];omega),40,?_⟩;clear b;walk_nrm
 u_op xl a
 u_c stepG_region_end xl a
 u_c stepG_ret' xl a
 u_leave1 H.f_uCas xl a
 u_c stepG_region_end xl a
 u_cond false xl a
 u_c stepG_skip xl a
 u_c stepG_inBlock xl a
 u_c stepG_inLoop xl a
 exact Goes.stop (λw7 k=>⟨_,rfl,by simp,by simp,xl a k⟩)
def GR(H:WgLib P L)(w:World)(a:WgLive L.tWg Wg w):Goes P mn (RL L.tWg Wg) DC0 (XWd P mn L.tWg Wg (XAn L Wg (Y0.at Z0 (.inRegion ops0 (o0::rest0)::k₀)) cs)) 20 (G ((base L.wait).at ⟨#[.pointer (some ⟨Wg,0,none⟩),bi,bi,bi,bi,bi,bi,bi,bi,bi,bi,bi,bi,bi,bi,bi,bi,bi,bi,bi,bi,bi,bi,bi,bi,bi,bi,bi,bi,bi,bi,bi,bi,bi,bi,bi,bi,bi,bi,bi,bi,bi,bi,bi,bi,bi,bi,bi,bi,bi,bi,bi,bi,bi,bi,bi,bi,bi,bi,bi,bi,bi,bi,bi,bi,bi,bi,bi,bi,bi,bi,bi,bi,bi,bi,bi,bi,bi,bi,bi,bi,bi,bi,bi],[]⟩ [.code (body_wait L)]) (Y0.at Z0 (.inRegion ops0 (o0::rest0)::k₀)::cs)) w:=by (lib_facts);simp only[body_wait,waitFn,Va];u_c stepG_seq xl a;(u_cond true xl a);(u_reg xl a);refine Goes.stop (λw1 b=>?_);replace a:=xl a b;clear b;refine⟨rfl,_,stepG_mark0 .disable (by simp) rfl rfl (by k_ne) rfl H.f_disable (x_disable_n L) (x_disable_b L) (x_disable_x L) (x_disable_f L),10,?_⟩;(walk_nrm);(u_c stepG_region_end xl a);(u_c stepG_block xl a);(u_c stepG_loop xl a);exact Goes.stop (λw2 c=>⟨_,rfl,by simp,by simp,xl a c⟩)
end
end Go.Tm
namespace Go.Tm
open Go.Conc Go.ConcN
def blk:Loc->Option Nat
 | .cell a=>some a.block
 | .obj r=>some r
 |_=>none
def IS{B}{d:MemOp}{x}(h:d.act.low B)(a:d.act.touch?=some x){b}(i:blk x.loc=some b):b<B:=by obtain⟨g,fn,pos,f⟩:=d;cases f with|access e=>simp only[MemAct.touch?,Ug]at a;subst a;simp only[MemAct.low]at h;cases j:e.loc<;>simp_all [Loc.low,blk]|mark m=>cases m<;>simp_all [MemAct.touch?,MemAct.low];all_goals (subst a;simp_all [blk])|_=>simp[MemAct.touch?]at a
section
variable (shun sp:Nat->Prop) (c:Nat) (T0:Nat) (own low:Nat->Nat)
structure TI(t:Trace):Prop where
 nr:∀said,¬Race said t
 MH:∀(i:Nat) (op:MemOp) x b,t[i]? =some op->op.act.touch?=some x->blk x.loc=some b->own b≠0->op.g=own b
 wr:∀(i:Nat) x b,touchAt t i=some x->blk x.loc=some b->own b=0->¬sp b->¬shun b->x.write=true->Knows t 0 i/\∀k,b<low k->Knows t k i
 tc:∀(i:Nat) x b,touchAt t i=some x->blk x.loc=some b->own b=0->¬sp b->¬shun b->(∀k,low k<=b)->Knows t 0 i
 sh:∀(i:Nat) (op:MemOp) x,t[i]? =some op->op.act.touch?=some x->∀b,blk x.loc=some b->sp b->x.kind=.atomic\/(x.kind=.said/\((op.g=0/\x.write=false/\(low c≠0->Knows t c i))\/(op.g=c/\c≠0)))
 cl:∀op∈t,op.g=c->low c≠0
 at_:∀(i:Nat) (op:MemOp) x,T0<=i->t[i]? =some op->op.act.touch?=some x->x.kind=.atomic->∃b,blk x.loc=some b/\sp b
 who:∀(i:Nat) (op:MemOp) x,T0<=i->t[i]? =some op->op.act.touch?=some x->op.g=0\/low op.g≠0
 z_:low 0=0
 vI:∀b,sp b->own b=0
def Okx(g:Nat)(x:Touch):Prop:=
 (g=0\/low g≠0)/\∃b,blk x.loc=some b/\
  ((own b=g/\g≠0/\x.kind=.plain)\/
   (own b=0/\¬sp b/\¬shun b/\x.kind=.plain/\((g=0/\(x.write=true->∀k,low k<=b))\/(g≠0/\x.write=false/\b<low g)))\/
   (sp b/\(x.kind=.atomic\/(x.kind=.said/\((g=0/\x.write=false/\low c=0)\/(g=c/\c≠0))))))
end
section
variable {shun sp:Nat->Prop} {c T0:Nat} {own low:Nat->Nat} {t u:Trace}
def MI{d}{a x:Touch}(h:a.conflicts d x){b}(e:blk x.loc=some b):blk a.loc=some b:=by rw[h.1];exact e
def TI.app{g}(h:TI shun sp c T0 own low t)(G:∀f∈u,f.g=g)(hc:g=c->low c≠0)(v:∀f∈u,∀x,f.act.touch?=some x->Okx shun sp c own low g x):TI shun sp c T0 own low (t++u):=by (have old:∀{i:Nat} {a:Touch},touchAt (t++u) i=some a->touchAt t i=some a\/∃f,(t++u)[i]? =some f/\f∈u/\f.act.touch?=some a:=by intro i a M;obtain⟨z,hz,N⟩:=touch_of M;obtain⟨_,Y⟩|⟨_,Z⟩:=getElem?_append_cases hz;exact .inl (by rw[touchAt_of Y];exact N);exact .inr ⟨z,hz,Z,N⟩);(have F:∀{i:Nat} {f:MemOp},(t++u)[i]? =some f->f∈u->Knows (t++u) g i:=by intro i f w aa;have:=knows_own w;rwa[G f aa]at this);refine⟨λO=>?_,λi f x b w p y hn=>?_,λi x b p y P Q hs W=>?_,λi x b p y P Q hs hl=>?_,λi f x w p b y o=>?_,λf H hg=>?_,λi f x hi w p I=>?_,λi f x hi w p=>?_,h.z_,h.vI⟩;refine noRace_append (h.nr O) G λi a M f H x p E=>?_;obtain⟨hg,b,y,d⟩:=v f H x p;have C:=MI E y;obtain⟨oi,A,R⟩:=touch_of M;obtain⟨n,q,_⟩|⟨n,q,h3,_,m⟩|⟨o,m⟩:=d;have:=h.MH i oi a b A R C (by rw[n];exact q);have v:=knows_own A;rwa[this,n]at v;obtain⟨rfl,m⟩|⟨m,s,X⟩:=m;(cases S:x.write with|true=>exact h.tc i a b M C n q h3 (m S)|false=>exact(h.wr i a b M C n q h3 (E.2.2.1.resolve_right (by simp[S]))).1);exact(h.wr i a b M C n q h3 (E.2.2.1.resolve_right (by simp[s]))).2 g X;have B:=h.sh i oi a A R b C o;obtain⟨_,_,_,T⟩:=E;obtain m|⟨m,s⟩:=m;obtain e|e|⟨_,_,e⟩:=T;rcases B with U|⟨U,_⟩<;>rw[U]at e<;>cases e;rw[m]at e;cases e;rw[m]at e;cases e;(have D:a.kind=.said:=by obtain e|e|⟨_,e,_⟩:=T;rcases B with U|⟨U,_⟩<;>rw[U]at e<;>cases e;rw[m]at e;cases e;exact e);obtain e|⟨_,B⟩:=B;rw[e]at D;cases D;obtain⟨rfl,s,X⟩|⟨s,X⟩:=s;obtain⟨e1,e2,_⟩|⟨e1,_⟩:=B;have v:=knows_own A;rwa[e1]at v;exact absurd X (h.cl oi (mem_of_getElem? A) e1);obtain⟨_,_,e⟩|⟨e,_⟩:=B;rw[s];exact e (hc s);have v:=knows_own A;rwa[e,<-s]at v;obtain⟨_,r⟩|⟨_,j⟩:=getElem?_append_cases w;exact h.MH i f x b r p y hn;obtain⟨_,V,l,d⟩:=v f j x p;rw[y]at l;cases l;obtain⟨n,_⟩|⟨n,_⟩|⟨o,_⟩:=d;rw[G f j,n];exact absurd n hn;exact absurd (h.vI _ o) hn;obtain J|⟨f,w,j,K⟩:=old p;obtain⟨n,q⟩:=h.wr i x b J y P Q hs W;exact⟨n.app u,λk L=>(q k L).app u⟩;obtain⟨_,V,l,d⟩:=v f j x K;rw[y]at l;cases l;obtain⟨n,q,_⟩|⟨_,_,_,_,m⟩|⟨n,_⟩:=d;exact absurd (n.symm.trans P) q;obtain⟨rfl,m⟩|⟨_,s,_⟩:=m;exact⟨F w j,λk L=>absurd (m W k) (Wq.2 L)⟩;rw[s]at W;cases W;exact absurd n Q;obtain J|⟨f,w,j,K⟩:=old p;exact(h.tc i x b J y P Q hs hl).app u;obtain⟨_,V,l,d⟩:=v f j x K;rw[y]at l;cases l;obtain⟨n,q,_⟩|⟨_,_,_,_,m⟩|⟨n,_⟩:=d;exact absurd (n.symm.trans P) q;obtain⟨rfl,m⟩|⟨_,_,s⟩:=m;exact F w j;exact absurd (hl g) (Wq.2 s);exact absurd n Q;obtain⟨_,r⟩|⟨_,j⟩:=getElem?_append_cases w;obtain e|⟨e1,e2⟩:=h.sh i f x r p b y o;exact .inl e;exact .inr ⟨e1,e2.imp (λ⟨a,b,c⟩=>⟨a,b,λx=>(c x).app u⟩) id⟩;obtain⟨_,V,l,d⟩:=v f j x p;rw[y]at l;cases l;obtain⟨n,q,_⟩|⟨_,q,_⟩|⟨_,m⟩:=d;exact absurd (n.symm.trans (h.vI _ o)) q;exact absurd o q;obtain m|⟨m,s⟩:=m;exact .inl m;refine .inr ⟨m,s.imp (λ⟨a,b,c⟩=>⟨(G f j).trans a,b,λx=>absurd c x⟩) (λ⟨a,b⟩=>⟨(G f j).trans a,b⟩)⟩;obtain h'|h':=Us.1 H;exact h.cl f h' hg;exact hc ((G f h').symm.trans hg);obtain⟨_,r⟩|⟨_,j⟩:=getElem?_append_cases w;exact h.at_ i f x hi r p I;obtain⟨_,V,l,d⟩:=v f j x p;obtain⟨_,_,e⟩|⟨_,_,_,e,_⟩|⟨o,_⟩:=d;rw[I]at e;cases e;rw[I]at e;cases e;exact⟨V,l,o⟩;obtain⟨_,r⟩|⟨_,j⟩:=getElem?_append_cases w;exact h.who i f x hi r p;rw[G f j];exact(v f j x p).1
def TI.still(h:TI shun sp c T0 own low t)(s:∀op∈u,op.act.touch?=none)(I:∀op∈u,op.g=c->low c≠0):TI shun sp c T0 own low (t++u):=by (have old:∀{i:Nat} {a:Touch},touchAt (t++u) i=some a->touchAt t i=some a:=by intro i a q;obtain⟨z,J,n⟩:=touch_of q;obtain⟨_,o⟩|⟨_,p⟩:=getElem?_append_cases J;rw[touchAt_of o];exact n;rw[s z p]at n;cases n);(have f:∀{i:Nat} {op:MemOp} {a:Touch},(t++u)[i]? =some op->op.act.touch?=some a->t[i]? =some op:=by intro i op a l q;obtain⟨_,o⟩|⟨_,p⟩:=getElem?_append_cases l;exact o;rw[s op p]at q;cases q);refine⟨λr=>?_,λi op x b l d m s=>h.MH i op x b (f l d) d m s,λi x b d m v w y K=>?_,λi x b d m v w y L=>(h.tc i x b (old d) m v w y L).app u,λi op x l d b m A=>?_,λop B H=>?_,λi op x C l d D=>h.at_ i op x C (f l d) d D,λi op x C l d=>h.who i op x C (f l d) d,h.z_,h.vI⟩;rintro⟨i,j,E,⟨a,b,q,m,F⟩,M,N⟩;exact h.nr r ⟨i,j,E,⟨a,b,old q,old m,F⟩,λe=>M (hb_app u e),λe=>N (hb_app u e)⟩;obtain⟨O,P⟩:=h.wr i x b (old d) m v w y K;exact⟨O.app u,λk G=>(P k G).app u⟩;obtain e|⟨e1,Q⟩:=h.sh i op x (f l d) d b m A;exact .inl e;exact .inr ⟨e1,Q.imp (λ⟨a,b,c⟩=>⟨a,b,λx=>(c x).app u⟩) id⟩;obtain h'|h':=Us.1 B;exact h.cl op h' H;exact I op h' H
def TI.fork{k s x y}(h:TI shun sp c T0 own low t)(p:x.g=0/\x.act=.go k)(E:y.g=k/\y.act=.start)(F:Deaf t 0=0)(S:Deaf t k=0)(I:k≠0)(A:low k=0)(B:s≠0)(J:c≠0):TI shun sp c T0 own (upd low k s) (t++#[x,y]):=by (have G:∀op∈#[x,y],op.act.touch?=none:=by intro op m;simp only[Uy,TZ,Ue,Uf]at m;obtain rfl|rfl:=m;rw[p.2];rfl;rw[E.2];rfl);(have old:∀{i:Nat} {a:Touch},touchAt (t++#[x,y]) i=some a->touchAt t i=some a:=by intro i a w;obtain⟨z,U,q⟩:=touch_of w;obtain⟨_,r⟩|⟨_,v⟩:=getElem?_append_cases U;rw[touchAt_of r];exact q;rw[G z v]at q;cases q);(have f:∀{i:Nat} {op:MemOp} {a:Touch},(t++#[x,y])[i]? =some op->op.act.touch?=some a->t[i]? =some op:=by intro i op a l w;obtain⟨_,r⟩|⟨_,v⟩:=getElem?_append_cases l;exact r;rw[G op v]at w;cases w);(have le:∀k',low k'<=upd low k s k':=by intro k';unfold upd;split;rename_i e;rw[e,A];omega;exact Tw _);refine⟨λC=>?_,λi op x b l p n G=>h.MH i op x b (f l p) p n G,λi o b d n K L B V=>?_,λi o b d n F L B H=>(h.tc i o b (old d) n F L B λk'=>Tx (le k') (H k')).app _,λi op o l d b n M=>?_,λop m N=>?_,λi op o O l d P=>h.at_ i op o O (f l d) d P,λi op o O l d=>?_,?_,h.vI⟩;rintro⟨i,j,Q,⟨a,b,w,n,R⟩,W,X⟩;exact h.nr C ⟨i,j,Q,⟨a,b,old w,old n,R⟩,λe=>W (hb_app _ e),λe=>X (hb_app _ e)⟩;obtain⟨T,Y⟩:=h.wr i o b (old d) n K L B V;refine⟨T.app _,λk' D=>?_⟩;by_cases e:k'=k;subst e;exact fork_knows p E F S T;rw[upd_ne _ _ e]at D;exact(Y k' D).app _;obtain e|⟨e1,Z⟩:=h.sh i op o (f l d) d b n M;exact .inl e;refine .inr ⟨e1,Z.imp (λ⟨a,b,c'⟩=>⟨a,b,λH=>?_⟩) id⟩;by_cases e:c=k;subst e;have:=knows_own (f l d);rw[a]at this;exact fork_knows p E F S this;rw[upd_ne _ _ e]at H;exact(c' H).app _;have aa:=le c;obtain h'|h':=Us.1 m;have:=h.cl op h' N;omega;simp only[Uy,TZ,Ue,Uf]at h';obtain rfl|rfl:=h';exact absurd (p.1.symm.trans N).symm J;have e:=N.symm.trans E.1;rw[e,upd_same];exact B;obtain e|e:=h.who i op o O (f l d) d;exact .inl e;have:=le op.g;exact .inr (by omega);rw[upd_ne _ _ (TO I)];exact h.z_
def TI.owned{own':Nat->Nat}{B}(h:TI shun sp c T0 own low t)(l:∀(i) x b,touchAt t i=some x->blk x.loc=some b->b<B)(g:∀b,b<B->own' b=own b)(m:∀b,sp b->own' b=0):TI shun sp c T0 own' low t:=by (have lt:∀{i:Nat} {x:Touch} {b:Nat},touchAt t i=some x->blk x.loc=some b->b<B:=by intro i x b a d;exact l i x b a d);refine⟨h.nr,λi n x b e a d k=>?_,λi x b a d f=>?_,λi x b a d f=>?_,h.sh,h.cl,h.at_,h.who,h.z_,m⟩;have j:=lt (by rw[touchAt_of e];exact a) d;rw[g b j]at k⊢;exact h.MH i n x b e a d k;rw[g b (lt a d)]at f;exact h.wr i x b a d f;rw[g b (lt a d)]at f;exact h.tc i x b a d f
end
def R6(t:Trace)(g:Nat):Prop:=∀i,t.g? i=some g->t.counts i->Knows t 0 i
def TI.past{shun sp c D0 B' own low Shun t u}(h:TI shun sp c t.size own low (t++u))(F:Past Shun D0 t)(G:∀g,low g≠0->R6 (t++u) g) (m:Deaf (t++u) 0=0) (seen:∀n∈t++u,n.act.low B'):Past (λl=>Shun l\/∃b,blk l=some b/\sp b) B' (t++u):=by refine⟨h.nr,λi a I H=>?_,λi g A o r=>?_,m,seen⟩;obtain⟨n,d,k⟩:=touch_of I;obtain⟨hi,f⟩|⟨hi,_⟩:=getElem?_append_cases d;(exact(F.known i a (by rw[touchAt_of f];exact k) H).imp (·.app u) λ⟨x,y⟩=>⟨.inl x,y⟩);obtain e|e:=h.who i n a hi d k;have:=knows_own d;rw[e]at this;exact .inl this;by_cases r:(t++u).counts i;exact .inl (G n.g e i (by simp[Trace.g?,d]) r);(have w:a.kind=.atomic:=by apply UD;intro w;exact r ⟨a,by simp[Trace.act?,d,k],H,.inl w⟩);exact .inr ⟨.inr (h.at_ i n a hi d k w),w⟩;obtain hi|hi:=Ty i t.size;obtain⟨j,B,C⟩:=F.over i g (by rw[<-g?_old (u:=u) hi];exact A) o ((counts_old hi).1 r);(have D:j<t.size:=by unfold Trace.g? at B;obtain⟨z,s,_⟩:=T4.1 B;exact lt_size_of_getElem? s);exact⟨j,by rw[g?_old D];exact B,hb_app u C⟩;obtain⟨n,d,p⟩:=T4.1 A;have E:=r;obtain⟨x,J,_,_⟩:=E;obtain⟨K,f,k⟩:=touch_of J;rw[d]at f;cases f;obtain e|e:=h.who i n x hi d k;exact absurd (p.symm.trans e) o;rw[p]at e;obtain⟨q,z,s,v,hbe⟩:=G g e i A r;obtain rfl|hbe:=hbe;rw[d]at s;cases s;exact absurd (p.symm.trans v) o;exact⟨q,by simp[Trace.g?,s,v],hbe⟩
inductive iQ{α:Type}(r:α->α->Prop):List α->List α->Prop
 |head {a' a:α} {l:List α}:r a' a->iQ r (a'::l) (a::l)
 |tail {a:α} {l' l:List α}:iQ r l' l->iQ r (a::l') (a::l)
def iQ.Pa{a}(r:a->a->Prop):Acc (iQ r) []:=⟨_,λ_ h=>by cases h⟩
def iQ.MJ{e r a}(f:Acc r a):∀{l:List e},Acc (iQ r) l->Acc (iQ r) (a::l):=by induction f with|intro a _ b=>intro l g;induction g with|intro l c d=>refine⟨_,λy i=>?_⟩;cases i with|head h=>exact b _ h ⟨_,c⟩|tail h=>exact d _ h
def iQ.wf{b}{r:b->b->Prop}(h:WellFounded r):WellFounded (iQ r):=
 ⟨λl=>by
  induction l with
  |nil=>exact iQ.Pa r
  |cons a l c=>exact iQ.MJ (h.apply a) c⟩
theorem iQ.set{d r}:∀{l} {i} {a x:d},l[i]? =some a->r x a->iQ r (l.set i x) l
 |b::l,0,a,x,h,c=>by simp at h;subst h;exact .head c
 |b::l,i+1,a,x,h,c=>.tail (iQ.set (by simpa using h) c)
end Go.Tm
namespace Go.Tm
open Go.Conc Go.ConcN
open Go.ConcR (WgAt stA smA DC0)
structure RK(ty:TypeId)(Wg:Nat)(K:Nat->Prop)(w Z1:World):Prop where
 keep:∀b,K b->Z1.heap[b]? =w.heap[b]?
 live:WgLive ty Wg w->WgLive ty Wg Z1
 size:w.heap.size<=Z1.heap.size
def RK.refl{ty Wg K}(w):RK ty Wg K w w:=⟨λ_ _=>rfl,id,Tw _⟩
def RK.trans{ty Wg K a b c}(h:RK ty Wg K a b)(d:RK ty Wg K b c):RK ty Wg K a c:=⟨λx e=>(d.keep x e).trans (h.keep x e),d.live ∘ h.live,Tx h.size d.size⟩
def EvK(Wg:Nat)(K M:Nat->Prop)(e:Event):Prop:=(∀x,(MemAct.ofEvent e).touch?=some x->∃b,blk x.loc=some b/\((x.kind=.plain/\K b/\(x.write=true->M b))\/(b=Wg/\x.kind=.atomic)))/\e.loc≠ .mark .disable/\e.loc≠ .mark .enable/\(∀a,e.loc≠ .mark (.release a))/\∀B,(MemAct.ofEvent e).touch?=none->(MemAct.ofEvent e).low B
def GU(w w':World)(b:Nat):Prop:=w.heap.size<=b/\b<w'.heap.size
def orK(K:Nat->Prop)(w w':World)(b:Nat):Prop:=K b\/GU w w' b
def cu{K w w'}(h:w'.heap.size=w.heap.size):orK K w w'=K:=by funext b;apply propext;unfold orK GU;constructor;rintro(x|⟨x,y⟩);exact x;omega;exact .inl
abbrev aL:=(Nat->Prop)->(Nat->Prop)->Goroutine->World->Prop
section
variable (P:Program) (mn:Bool) (ty:TypeId) (Wg:Nat)
def R7(K M:Nat->Prop)(g:Goroutine)(a:World):Prop:=∃g' w' es,stepG P mn g a=.go g' w' es/\Eff M a w'/\∀e∈es,EvK Wg (orK K a w') (orK M a w') e
inductive Run(S:aL):(Nat->Prop)->(Nat->Prop)->Goroutine->World->Prop
 |stop {K M:Nat->Prop} {g:Goroutine} {w:World}:(∀Z1,RK ty Wg K w Z1->S K M g Z1)->Run S K M g w
 |step {K M:Nat->Prop} {g:Goroutine} {w:World}:g.status=.running->(∀Z1,RK ty Wg K w Z1->R7 P mn Wg K M g Z1)->(∀Z1 g' w' es,RK ty Wg K w Z1->stepG P mn g Z1=.go g' w' es->Run S (orK K Z1 w') (orK M Z1 w') g' w')->Run S K M g w
structure Cfg where
 K:Nat->Prop
 M:Nat->Prop
 g:Goroutine
 w:World
def AtS(S:aL)(c:Cfg):Prop:=∀a,RK ty Wg c.K c.w a->S c.K c.M c.g a
def Nxt(S:aL)(c' c:Cfg):Prop:=¬AtS ty Wg S c/\∃a g' w' es,RK ty Wg c.K c.w a/\stepG P mn c.g a=.go g' w' es/\c'=⟨orK c.K a w',orK c.M a w',g',w'⟩
end
section
variable {P:Program} {mn:Bool} {ty:TypeId} {Wg:Nat} {S:aL}
def Run.acc{K M g w}(h:Run P mn ty Wg S K M g w):Acc (Nxt P mn ty Wg S) ⟨K,M,g,w⟩:=by induction h with|stop h=>exact⟨_,λ_ b=>absurd h b.1⟩| @step K M g w f h i d=>refine⟨_,λc' b=>?_⟩;obtain⟨_,a,g',w',es,e,c,rfl⟩:=b;exact d a g' w' es e c
def Run.jY{K M g w}(k:g.status=.running) (h:∀f,RK ty Wg K w f->∃g' w' es,stepG P mn g f=.go g' w' es/\Eff M f w'/\(∀e∈es,EvK Wg (orK K f w') (orK M f w') e)/\Run P mn ty Wg S (orK K f w') (orK M f w') g' w'):Run P mn ty Wg S K M g w:=by refine .step k (λf i=>?_) λf g' w' es i j=>?_;obtain⟨g',w',es,a,b,c,_⟩:=h f i;exact⟨g',w',es,a,b,c⟩;obtain⟨m,w2,l,a,b,c,d⟩:=h f i;rw[j]at a;cases a;exact d
def Run.rely{K M g w Z1}(h:Run P mn ty Wg S K M g w)(c:RK ty Wg K w Z1):Run P mn ty Wg S K M g Z1:=by cases h with|stop h=>exact .stop λa b=>h a (c.trans b)|step d h e=>exact .step d (λa b=>h a (c.trans b)) λa g' w' es b=>e a g' w' es (c.trans b)
def Run.qv{K M g w}(h:Run P mn ty Wg S K M g w):S K M g w\/(g.status=.running/\∃g' w' es,stepG P mn g w=.go g' w' es/\Eff M w w'/\(∀e∈es,EvK Wg (orK K w w') (orK M w w') e)/\Run P mn ty Wg S (orK K w w') (orK M w w') g' w'):=by cases h with|stop h=>exact .inl (h w (.refl w))|step d h f=>obtain⟨g',w',es,a,b,c⟩:=h w (.refl w);exact .inr ⟨d,g',w',es,a,b,c,f w g' w' es (.refl w) a⟩
def Run.bind{d K M g w}(h:Run P mn ty Wg S K M g w)(e:∀K M g w,S K M g w->Run P mn ty Wg d K M g w):Run P mn ty Wg d K M g w:=by induction h with| @stop K M g w h=>exact e _ _ _ _ (h w (.refl w))|step f h j i=>exact .step f h λa g' w' es b c=>i a g' w' es b c
end
end Go.Tm
namespace Go.Tm
open Go.Conc Go.ConcN
section
variable {S:Kn} {P:Program} {fs:Array Func} {Pr:Nat->Prop}
def bq.Ej{π:Ren P.globals.size}{w W Y1:World}(h:bq S Pr π w W)(c:∀R,(∃r,π r R)->Y1.heap[R]? =W.heap[R]?)(e:∀R,Pr R->∃r,π r R)(a:W.heap.size<=Y1.heap.size):bq S Pr π w Y1:=⟨λr R b=>by rw[c R ⟨r,b⟩];exact h.obj r R b,h.ve,λR d=>TB (h.vX R d) a,h.gw,Tx h.gW a,h.w0⟩
def Cp.Ej{Post π c F CS W Y1}(h:Cp S P fs Pr Post π c F CS W)(a:∀R,(∃r,π r R)->Y1.heap[R]? =W.heap[R]?)(b:∀R,Pr R->∃r,π r R)(d:W.heap.size<=Y1.heap.size):Cp S P fs Pr Post π c F CS Y1:=⟨h.top,h.cs,h.w.Ej a b d,h.flat,h.rm,h.dB⟩
def qw(π:Ren P.globals.size)(R:Nat):Prop:=∃r,π r R
def iO.Ej{c e f d k Post l m F CS}{W Y1:World}(h:iO S P fs c d k Post e f l m F CS W) (i:∀R,qw e R->Y1.heap[R]? =W.heap[R]?) (n:W.heap.size<=Y1.heap.size):iO S P fs c d k Post e f l m F CS Y1:=
 ⟨h.a.Ej i (λR ⟨r,g⟩=>⟨r,h.la _ _ g⟩) n,h.b.Ej (λR j=>i R ((h.same R).2 j)) (λR j=>j.elim) n,h.la,h.lb,h.base,λr R g=>(i R ⟨r,h.la _ _ g⟩).trans (h.old r R g),h.same⟩
def xA{π c:Ren P.globals.size}{W W':World}(e:∀r R,c r R->π r R\/W.heap.size<=R)(f:∀R,W.heap.size<=R->R<W'.heap.size->∃r,c r R)(g:Ren.le π c)(h:∀r R,c r R->R<W'.heap.size):qw c=orK (qw π) W W':=by funext R;apply propext;unfold orK GU qw;constructor;rintro⟨r,d⟩;(exact(e r R d).imp (λx=>⟨r,x⟩) λx=>⟨x,h r R d⟩);rintro(⟨r,d⟩|⟨a,b⟩);exact⟨r,g _ _ d⟩;exact f R a b
def Af{d}{π:Ren P.globals.size}{Wg e}(h:lx d π e):EvK Wg (qw π) (λb=>qw π b/\¬d b) e:=by
 obtain⟨i,wr,l⟩:=e;unfold lx at h;cases i with
 |cell A=>obtain⟨rfl,c,j⟩:=h;refine⟨λx a=>?_,by simp,by simp,by simp,λB h=>by simp[MemAct.ofEvent,MemAct.touch?]at h⟩;simp[MemAct.ofEvent,MemAct.touch?]at a;subst a;exact⟨A.block,rfl,.inl ⟨rfl,c,λg=>⟨c,j g⟩⟩⟩
 |obj R=>(obtain⟨k,c,j⟩:=h;simp only at k;subst k;refine⟨λx a=>?_,by simp,by simp,by simp,λB h=>by cases wr<;>simp[MemAct.ofEvent,MemAct.touch?]at h⟩;cases wr<;>(simp[MemAct.ofEvent,MemAct.touch?]at a;subst a));exact⟨R,rfl,.inl ⟨rfl,c,λg=>by cases g⟩⟩;exact⟨R,rfl,.inl ⟨rfl,c,λg=>⟨c,j rfl⟩⟩⟩
 |mark m=>cases m with|extern f=>exact⟨λx a=>by simp[MemAct.ofEvent,MemAct.touch?]at a,by simp,by simp,by simp,λB _=>trivial⟩|noRoom=>exact⟨λx a=>by simp[MemAct.ofEvent,MemAct.touch?]at a,by simp,by simp,by simp,λB _=>trivial⟩|_=>exact h.elim
 |_=>exact h.elim
def uP(V:Tab S P fs)(n:∀f,S.stop f=false)(o:∀g,S.calm g){mn ty Wg Q d l L Post B}(q) (s:∀(i k) (C D) (F) (W),Ren.le q i->iO S P fs d l L Post i k C D F [] W->C.AtE->Run P mn ty Wg Q (qw i) (iO.Own d i) ⟨F,B,.running,none,none⟩ W) {i k} {C D} {F} {CS} {W} (M:Ren.le q i) (h:iO S P fs d l L Post i k C D F CS W):Run P mn ty Wg Q (qw i) (iO.Own d i) ⟨F,CS++B,.running,none,none⟩ W:=by have t:=h.a.rm.acc;induction t generalizing i k D F CS W with|intro c _ X=>by_cases E:c.AtE;have u:=h.a.cs;rw[E.1]at u;cases u;exact s _ _ _ _ _ _ M h E;refine .jY rfl λv m=>?_;(have Y:=h.Ej m.keep m.size;obtain⟨z,N,G,Z,FR,aa,W',ev,hr,H,I,A,o1,o2,o3,J,j⟩:=Y.step V n o E mn;have O:=xA j.old j.new j.le λr R p=>(H.a.w.lt p).2;have T:iO.Own d z=orK (iO.Own d i) v W':=by funext b;apply propext;constructor;intro U;(obtain⟨⟨r,p⟩,_⟩:=id U;exact(o2 b U).imp id λx=>⟨x,(H.a.w.lt p).2⟩);rintro(x|⟨x,y⟩);exact o1 b x;exact o3 b x y);refine⟨_,W',ev,I B,A,λe K=>?_,?_⟩;rw[<-O,<-T];exact Af (J e K);rw[<-O,<-T];exact X G hr (Ren.le_trans M j.le) H
end
section
variable {S:Kn} {P:Program} {fs:Array Func}
def iO.leave(I:Tab S P fs){d f s g Z Post J cB F W}(h:iO S P fs d g Z Post f s J cB F [] W)(t:J.AtE)(C B mn Wg):∃(v V:Value) (w' W':World) (ev:Array Event) (πA':Ren P.globals.size),stepG P mn ⟨F,C::B,.running,none,none⟩ W=.go ⟨C.finish V,B,.running,none,none⟩ W' ev/\Post v w'/\az πA' v V/\Eff (iO.Own d f) W W'/\(∀e∈ev,EvK Wg (orK (qw f) W W') (orK (iO.Own d f) W W') e)/\(∀r R,d r R->W'.heap[R]? =g.heap[R]?)/\bq S (λR=>∃r,d r R) πA' w' W'/\Ren.le f πA':=by (have u:cB.AtE:=by rw[vT h.b];rw[vT h.a]at t;exact t);(obtain⟨_,v,V,w',W',ev,πA',a1,a2,K,a4,L,j,a7⟩:=h.a.returns I t C B mn;obtain⟨_,v2,V2,w2,W2,aa,M,b1,b2,z,b4,b5,N,b7⟩:=h.b.returns I u C B mn;rw[K]at z;simp only[GStep.go.injEq]at z;obtain⟨_,e3,_⟩:=z;subst e3;have k:∀r R,d r R->W'.heap[R]? =g.heap[R]? :=by intro r R i;obtain⟨c,Q,e,l,A,D⟩:=h.base r R i;obtain⟨F',m⟩:=j.nZ R ⟨r,i⟩ Q e l (by rw[h.old r R i,D]);obtain⟨C1,F1,n,E⟩:=N.fz R Q e l (by rw[h.old r R i,D]);rw[m]at n;simp only[Ug,Obj.cells.injEq,true_and]at n;obtain⟨rfl,rfl⟩:=n;obtain⟨o,O,T,U,p⟩:=b5.obj r R (N.le _ _ (h.lb _ _ i));rw[b1 r R i,A]at T;rw[m]at U;cases T;cases U;cases p with|cells _ _ hf=>rw[m,D,Ae E (.refl _) hf]);have X:=xA j.old j.new j.le λr R G=>(L.lt G).2;refine⟨v,V,w',W',ev,πA',K,a1,a4,⟨j.os,j.tape,j.output,j.size,λb A q=>?_⟩,λe H=>?_,k,L,j.le⟩;by_cases Y:∃r,f r b;have:∃r,d r b:=UD λhx=>q ⟨Y,hx⟩;obtain⟨r,i⟩:=this;rw[k r b i,h.old r b i];exact j.keep b A Y;(have hm:(λb=>qw πA' b/\¬∃r,d r b)=orK (iO.Own d f) W W':=by funext b;apply propext;rw[X];constructor;rintro⟨x|x,q⟩;exact .inl ⟨x,q⟩;exact .inr x;rintro(⟨x,q⟩|⟨x,y⟩);exact⟨.inl x,q⟩;refine⟨.inr ⟨x,y⟩,λ⟨r,i⟩=>?_⟩;have:=(h.a.w.lt (h.la _ _ i)).2;omega);have:=Af (Wg:=Wg) (a7 e H);rw[hm,X]at this;exact this
end
end Go.Tm

import Derived.Calls
import Derived.Test.YtaglpcmhopjebaaGreatDoorS3
set_option linter.all false
set_option maxRecDepth 100000
set_option maxHeartbeats 20000000
namespace Go.Tm
section
variable {S:Kn} {P:Program} {fs:Array Func} {Pr:Nat->Prop} {D0 B:List Frame} {π:Ren P.globals.size} {w W:World} {d:Nat}
def oN(p main fr c cs v w)(h:fr.kind=.normal):doReturn p main fr (c::cs) none v w=.go ⟨c.finish v,cs,.running,none,none⟩ w:=by simp[doReturn,h]
def oO{f F:Frame}(h:bf S π f F)(main e:Bool){cs CS:List Frame}(t:bj (bf S π) cs CS)(m:cs≠[]){s s':Sem Value}(z:SR S (ai P fs) P VQ π s s')(A:bq S Pr π w W) {gh:Halt->World->GStep} {GH:Halt->World->GStep} (n:∀x w,∃o w' es,gh x w=.ended o w' es):dE S Pr P fs D0 (rb f::cs.map rb) π w W d (λw=>GStep.after (seen (ai P fs) f.fn (s.runT (ai P fs) w #[]).2) (match(s.runT (ai P fs) w #[]).1 with| .ok v w=>doReturn (ai P fs) main f (cs++D0) none v w| .halt x w=>gh x w)) (λB=>GStep.after (seen P F.fn (s'.runT P W #[]).2) (match(s'.runT P W #[]).1 with| .ok v w=>doReturn P e F (CS++B) none v w| .halt x w=>GH x w)):=by obtain⟨L,u,D|⟨a,w',i,b,E,ev,p,G,y,H,I,l,J⟩⟩:=z.run (Pr:=Pr) w W #[] #[] d A;refine⟨L,u,.inl λτ g=>?_⟩;obtain⟨x,w',i,e1,N,e3⟩:=D τ g;obtain⟨o,w2,K,e4⟩:=n x w';simp only[e1,e4];trivial;rw[UL]at y;have M:=t.mono λ_ _ x=>bf.mono l.le x;cases t with|nil=>exact absurd rfl m| @cons c C cs CS q r=>have j:=q.mono l.le;have k:=r.mono λ_ _ x=>bf.mono l.le x;refine⟨L,u,.inr ⟨c.finish a,cs,w',seen (ai P fs) f.fn i++#[],C.finish b,CS,E,seen P F.fn ev++#[],p,λτ g=>?_,?_,I,l,ko J,k,.inl (j.finish H),by rw[mJ];exact .inr (.inr ⟨_,rfl⟩)⟩⟩;simp only[G τ g,VN,oN _ _ _ _ _ _ _ h.kind];rfl;intro B;simp only[y,VN,oN _ _ _ _ _ _ _ h.Kind];rfl
def ji{f F:Frame}(h:bf S π f F)(main b:Bool){cs CS:List Frame}(j:bj (bf S π) cs CS)(g:f.roundOf≠none->cs≠[])(k:bq S Pr π w W)(jump:Option Code)(m:∀c,jump=some c->S.code c):dE S Pr P fs D0 (rb f::cs.map rb) π w W d (λw=>match f.roundOf with
   |none=>if jump matches none|some .ret then .go {frame:={f with mode:=.returning},callers:=cs++D0,status:=.running,dying:=none} w else .ended (.stuck "exit, goto: no such block or label" (f.pos (ai P fs))) w
   |some l=>
    let(r,es):=(Instr.endRound l jump).runT (ai P fs) w #[]
    GStep.after (seen (ai P fs) f.fn es)<|match r with
    | .ok v w=>doReturn (ai P fs) main f (cs++D0) none v w
    | .halt _ w=>.ended (.stuck "range over a function: no such loop" (f.pos (ai P fs))) w)
  (λB=>match F.roundOf with
   |none=>if jump matches none|some .ret then .go {frame:={F with mode:=.returning},callers:=CS++B,status:=.running,dying:=none} W else .ended (.stuck "exit, goto: no such block or label" (F.pos P)) W
   |some l=>
    let(r,es):=(Instr.endRound l jump).runT P W #[]
    GStep.after (seen P F.fn es)<|match r with
    | .ok v w=>doReturn P b F (CS++B) none v w
    | .halt _ w=>.ended (.stuck "range over a function: no such loop" (F.pos P)) w):=by
 have n:=h.round;have i:rb f=f.roundOf.isSome:=rfl;generalize f.roundOf=a at*;generalize F.roundOf=A at*;cases n with
 |none=>
  rw[i];have o:JU S P fs π cs ⟨f.fn,f.tmps,f.todo,f.defers,.returning,f.kind,none⟩ ⟨F.fn,F.tmps,F.todo,F.defers,.returning,F.kind,none⟩:=.inl ⟨h.fn,h.ent,h.tmps,h.todo,h.defers,rfl,.inr rfl,h.kind,h.Kind,.none⟩
  have e:=dE.still (Pr:=Pr) (D0:=D0) (st:=Option.isSome (none:Option Nat)::cs.map rb) (d:=d) (ev:=#[]) k j o (.inl rfl) #[] (by simp);cases jump with
  |none=>exact e
  |some c=>cases c<;>first|exact e|exact .xu λτ=>trivial
 |some p=>exact oO h main b j (g (by simp)) (Ee p jump m) k λx w=>⟨_,_,_,rfl⟩
def qq(fr:Frame)(g l):resolve fr.eval {callee:=.value g,args:=#[.const (.func (.yield l) #[] #[])],argTypes:=#[]} 0=Deferred.ofValue (fr.eval g) #[.func (.yield l) #[] #[]]:=by simp[resolve,Frame.eval]
def GN(p q w):(choose q).run p w=if q.forced then .ok 0 w else .ok (q.cut (w.tape w.drawn q)) {w with drawn:=w.drawn+1}:=by simp only[choose,Sem.run]
def B9(ht:Tab S P fs)(hG:∀g,S.dB g=true->π g g){f F}(h:bf S π f F)(hm:f.mode=.run)(main p){cs CS}(H:bj (bf S π) cs CS)(Q:f.roundOf≠none->cs≠[])(hR:S.calm (W.tape W.drawn))(I:bq S Pr π w W):dE S Pr P fs D0 (rb f::cs.map rb) π w W d (λw=>stepG.exec (ai P fs) main true f (cs++D0) none w) (λB=>stepG.exec P p true F (CS++B) none W):=by
 have R:=h.eval hG;have J:=h.todo;obtain⟨fn,tmps,todo,defers,mode,kind,ro⟩:=f;obtain⟨FN,r,a8,n,A,C,RO⟩:=F;simp only[]at J hm;subst hm;have to:∀{t T:List Item},bj (fI S π) t T->dE S Pr P fs D0 (ro.isSome::cs.map rb) π w W d (λw=>.go ⟨⟨fn,tmps,t,defers,.run,kind,ro⟩,cs++D0,.running,none,none⟩ w) (λB=>.go ⟨⟨FN,r,T,n,A,C,RO⟩,CS++B,.running,none,none⟩ W):=λ{t T} ah=>by have O:JU S P fs π cs ⟨fn,tmps,t,defers,.run,kind,ro⟩ ⟨FN,r,T,n,A,C,RO⟩:=.inl ⟨h.fn,h.ent,h.tmps,ah,h.defers,h.mode,h.calm,h.kind,h.Kind,h.round⟩;exact dE.still (ev:=#[]) I H O (.inl rfl) #[] (by simp)
 unfold stepG.exec;cases J with
 |nil=>exact ji h main p H Q I none (λc h=>by cases h)
 | @cons x X k K hx s=>
  cases hx with
  | @code c m=>
   cases c with
   |skip=>exact to s
   |label=>exact to s
   |ret=>exact ji h main p H Q I (some .ret) (λc h=>by cases h;rfl)
   |refuse=>exact .xu λτ=>trivial
   |seq a b=>simp only[iP,TH]at m;exact to (.cons (.code m.1) (.cons (.code m.2) s))
   |block E b=>exact to (.cons (.same m) (.cons (.inBlock E) s))
   |loop b=>exact to (.cons (.same m) (.cons (.inLoop m) s))
   |scope b=>exact to (.cons (.same m) (.cons (.inScope m) s))
   |cond x a b=>simp only[iP,codeOk,TH]at m;simp only[gR]at R⊢;have hv:=R x m.1.1;generalize Frame.eval _ x=v at*;generalize Frame.eval _ x=V at*;cases hv with|bool b'=>cases b';exact to (.cons (.same m.2) s);exact to (.cons (.same m.1.2) s)|_=>exact .xu λτ=>trivial
   |exit E=>have he:=GJ E s;simp only[gR];generalize exitTo E k=u at*;generalize exitTo E K=v at*;cases he with|none=>exact ji h main p H Q I (some (.exit E)) (λc h=>by cases h;rfl)|some he=>exact to he
   |goto l=>have he:=GK l s;simp only[gR];generalize gotoIn l k=u at*;generalize gotoIn l K=v at*;cases he with|none=>exact ji h main p H Q I (some (.goto l)) (λc h=>by cases h;rfl)|some he=>exact to he
   |region E ops ab=>(have D:∀o∈ops,opD S o.op=true:=by simp only[iP]at m;rw[Vg]at m;exact m);cases ab with|false=>have e:=to (.cons (.inRegion (List.range ops.size) D) s);simp only[gR,UZ];exact e|true=>have ak:FN=fn:=h.fn;subst ak;simp only[gR,GN,xt];by_cases hq:(Question.order FN E).forced=true;simp only[hq,TK];exact to (.cons (.inRegion _ D) s);simp only[hq,TP];(have O:∀t,bf S π ⟨FN,tmps,.inRegion (ops.map cJ) t::k,defers,.run,kind,ro⟩ ⟨FN,r,.inRegion ops t::K,n,A,C,RO⟩:=λt=>⟨h.fn,h.ent,h.tmps,.cons (.inRegion t D) s,h.defers,h.mode,h.calm,h.kind,h.Kind,h.round⟩);refine⟨[only (.order FN E) (W.tape W.drawn (.order FN E))],by simpa using FH (show S.ent FN=true from h.ent) hR E,.inr ⟨_,cs,w,#[],_,CS,_,#[],π,λτ q=>?_,λ_=>rfl,I.heap rfl rfl,Chg.heap rfl rfl rfl rfl,by simp,H,.inl (O _),.inl rfl⟩⟩;simp only[show(av w τ d).tape (av w τ d).drawn (.order FN E)=W.tape W.drawn (.order FN E)from(congrFun q.head _).trans (tj _ _)];rfl
   |rangeFunc g params a b=>simp only[iP,codeOk,TH]at m;simp only[gR]at h R⊢;obtain rfl:fn=FN:=h.fn.symm;obtain⟨L,hL,hh|⟨x,w',G,X,W',ev,M,h1,h2,h3,h4,N,h6⟩⟩:=(B8 (S:=S) (P:=P) (fs:=fs) h.ent h.tmps params m.1.2 m.2 h.round).run (Pr:=Pr) w W #[] #[] d I;refine⟨L,hL,.inl λτ q=>?_⟩;obtain⟨y,w',G,e1,e2,e3⟩:=hh τ q;simp only[e1];exact jR.after _ trivial;rw[UL]at h2;(obtain⟨l,mk⟩:=x;obtain⟨LL,MK⟩:=X;obtain⟨Z,ad⟩:=h3;simp only[]at Z ad;have U:=s.mono λ_ _ x=>fI.mono N.le x;have z:=h.mono N.le;have O:bf S M ⟨fn,tmps,.inRangeFunc l::k,mk++defers,.run,kind,ro⟩ ⟨fn,r,.inRangeFunc LL::K,MK++n,A,C,RO⟩:=⟨z.fn,z.ent,z.tmps,.cons (.inRangeFunc Z) U,ad.append z.defers,z.mode,z.calm,z.kind,z.Kind,z.round⟩);have aa:VsR M #[Value.func (.yield l) #[] #[]] #[Value.func (.yield LL) #[] #[]]:=aY.push aY.empty (.func (.yield Z) rfl (λi x X h=>by simp at h) rfl (λi x X h=>by simp at h));have hs:=uI (S:=S) ht (λg hg=>N.le _ _ (hG g hg)) ((O.eval λg hg=>N.le _ _ (hG g hg)) g m.1.1) aa;rw[<-qq,<-qq]at hs;obtain⟨L2,af,gg|⟨an,ao,w2,ar,ax,ay,W2,aM,a1,g1,g2,g3,g4,g5,g6,g7⟩⟩:=mf (D0:=D0) (d:=d+L.length) ht O (H.mono λ_ _ x=>bf.mono N.le x) hs h4;refine⟨L++L2,hZ hL af,.inl λτ q=>?_⟩;have:=hU q;simp only[h1 τ this.1];exact jR.after _ (gg τ this.2);refine⟨L++L2,hZ hL af,.inr ⟨an,ao,w2,seen (ai P fs) fn G++ar,ax,ay,W2,seen P fn ev++aM,a1,λτ q=>?_,?_,g3,N.trans g4,?_,g6,g7⟩⟩;have:=hU q;simp only[h1 τ this.1];have e:=g1 τ this.2;rw[Vm,<-TR]at e;exact T7 (GStep.after (seen (ai P fs) fn G)) e;intro B;simp only[h2];exact T7 (GStep.after (seen P fn ev)) (g2 B);intro e he;obtain he|he:=Us.1 he;exact(h6 e (Ea _ _ _ e he)).mono g4.le;exact g5 e he
  |inBlock=>exact to s
  |inScope=>exact to s
  |inLoop hb=>exact to (.cons (.same hb) (.cons (.inLoop hb) s))
  |inRangeFunc=>exact .xu λτ=>trivial
  | @endRangeFunc l LL Z=>obtain⟨L,hL,hh|⟨a,w',G,b,W',ev,M,h1,h2,h3,h4,N,h6⟩⟩:=(GL (fs:=fs) Z).run (Pr:=Pr) w W #[] #[] d I;refine⟨L,hL,.inl λτ q=>?_⟩;(obtain⟨x,w',G,e1,e2,e3⟩:=hh τ q;simp only[e1];refine jR.after _ ?_;cases x with|panic v=>exact sG h H e3 v #[]|_=>trivial);rw[UL]at h2;(obtain⟨rfl,m⟩:=h3;have U:=s.mono λ_ _ x=>fI.mono N.le x;have z:=h.mono N.le;have O:bf S M ⟨fn,tmps,(a.map Item.code).toList++k,defers,.run,kind,ro⟩ ⟨FN,r,(a.map Item.code).toList++K,n,A,C,RO⟩:=by refine⟨z.fn,z.ent,z.tmps,?_,z.defers,z.mode,z.calm,z.kind,z.Kind,z.round⟩;cases a with|none=>exact U|some c=>exact .cons (.same (m c rfl)) U);refine⟨L,hL,.inr ⟨_,cs,w',seen (ai P fs) fn G++#[],_,CS,W',seen P FN ev++#[],M,λτ q=>?_,?_,h4,N,ko h6,H.mono λ_ _ x=>bf.mono N.le x,.inl O,.inl rfl⟩⟩;simp only[h1 τ q];rfl;intro B;simp only[h2];rfl
  |beginRound=>refine mf ht h H (sx ?_) I;have hr:=h.round;simp only[]at hr;cases hr with|none=>exact aq|some Z=>exact y8 Z
  | @inRegion ops l D=>
   cases l with
   |nil=>exact to s
   |cons i rest=>
    have hy:yielded ops r=yielded ops tmps:=funext λj=>(Ec h.tmps ops j).symm;have a6:((((ops.map cJ)[i]?).map (Region.wanted · (yielded ops tmps))).getD false)=(((ops[i]?).map (Region.wanted · (yielded ops tmps))).getD false):=by simp only[T3,Option.map_map,Function.comp_def,B6]
    simp only[y7,hy,a6];cases hb:(((ops[i]?).map (Region.wanted · (yielded ops tmps))).getD false);case true=>
     simp only[TK];unfold stepG.oper;simp only[Frame.oper?,T3];cases ho:ops[i]? with
     |none=>exact .xu λτ=>trivial
     |some o=>
      have ag:=D o (Uq ho);have hs:=GD ht hG R (λ_=>rfl) (λ_=>rfl) o ag;have key:=mf (D0:=D0) (d:=d) ht h H hs I;have Y:=My o;simp only[Ud]
      revert key Y
      generalize cJ o=o';intro key Y;obtain⟨bm,op,ty,pos,bo,gd⟩:=o;obtain⟨ba,a7,br,bb,bk,bs⟩:=o';have hr:=h.round;simp only[]at hr Y;subst Y;cases a7<;>first|(simp[opD,AZ,kG]at ag;done)|(cases hr<;>exact key)
    case false=>simp only[TS,TP];have O:=h.finish (az.tuple' (.empty:VsR π #[] #[]));exact dE.still (ev:=#[]) I H (.inl O) (by rw[mJ];exact .inl rfl) #[] (by simp)
end
section
variable {S:Kn} {P:Program} {fs:Array Func} {Pr:Nat->Prop} {D0:List Frame} {st:List Bool} {π:Ren P.globals.size} {w W:World} {d:Nat}
def dE.congr{b gs' GS a}(c:∀w,b w=gs' w)(e:GS=a)(h:dE S Pr P fs D0 st π w W d gs' a):dE S Pr P fs D0 st π w W d b GS:=by rw[e,funext c];exact h
def Ca(H:Tab S P fs)(M:∀g,S.dB g=true->π g g){f F}(h:bf S π f F)(main i){cs CS}(A:bj (bf S π) cs CS)(j:f.roundOf≠none->cs≠[]) (p:f.mode=.returning->f.defers=[]->cs≠[]) (N:S.calm (W.tape W.drawn)) (C:bq S Pr π w W):dE S Pr P fs D0 (rb f::cs.map rb) π w W d (λw=>stepG (ai P fs) main ⟨f,cs++D0,.running,none,none⟩ w) (λB=>stepG P i ⟨F,CS++B,.running,none,none⟩ W):=by
 have e:=h.mode;unfold stepG;obtain hm|hm:=h.calm;rw[hm]at e;simp only[hm,e];exact B9 H M h hm main i A j N C;rw[hm]at e
 simp only[hm,e];unfold unwind;have m:=h.defers;cases n:f.defers with
 |nil=>
  rw[n]at m;cases k:F.defers with
  |cons=>rw[k]at m;cases m
  |nil=>
   simp only[hm,e];obtain⟨_,g,c,e1,I,_,O,E⟩:=H.ent _ h.ent;rw[h.fn];simp only[show(ai P fs).funcs=fs from rfl,e1,I];have q:∀t,results {g with body:=some (gR c)} t=results g t:=λ_=>rfl;simp only[q];have key:=oO (Pr:=Pr) (D0:=D0) (d:=d) (fs:=fs) h main i A (p hm n) (rj g h.tmps) C
    (gh:=λx w=>match x with| .stuck s=>.ended (.stuck s (f.pos (ai P fs))) w|_=>.ended (.stuck "return: the result variables cannot be read" (f.pos (ai P fs))) w)
    (GH:=λx w=>match x with| .stuck s=>.ended (.stuck s (F.pos P)) w|_=>.ended (.stuck "return: the result variables cannot be read" (F.pos P)) w)
    (λx w=>by cases x<;>exact⟨_,_,_,rfl⟩)
   refine dE.congr ?_ ?_ key;intro w;(generalize (results g f.tmps).runT (ai P fs) w #[]=r;obtain⟨r,es⟩:=r;cases r with|ok=>rfl|halt x=>cases x<;>rfl);funext B;rw[<-h.fn];generalize (results g F.tmps).runT P W #[]=r;obtain⟨r,es⟩:=r;cases r with|ok=>rfl|halt x=>cases x<;>rfl
 |cons D ds=>rw[n]at m;cases k:F.defers with|nil=>rw[k]at m;cases m|cons DD Q=>rw[k]at m;cases m with|cons T G=>cases T with| @mk r R U=>simp only[];obtain⟨L,J,V|⟨a,w',u,b,X,ev,v,Y,K,⟨rfl,rfl⟩,Z,z,h6⟩⟩:=(vH (S:=S) (P:=P) (fs:=fs) U).run (Pr:=Pr) w W #[] #[] d C;refine⟨L,J,.inl λτ o=>?_⟩;obtain⟨x,w',u,e1,I,e3⟩:=V τ o;simp only[e1];exact jR.after _ trivial;rw[UL]at K;(have l:=h.mono z.le;have y:=G.mono λ_ _ x=>pU.mono z.le x;have hf:bf S v {f with defers:=ds} {F with defers:=Q}:=⟨l.fn,l.ent,l.tmps,l.todo,y,l.mode,l.calm,l.kind,l.Kind,l.round⟩);refine⟨L,J,.inr ⟨_,cs,w',seen (ai P fs) f.fn u++#[],_,CS,X,seen P F.fn ev++#[],v,λτ o=>?_,?_,Z,z,ko h6,A.mono λ_ _ x=>bf.mono z.le x,.inl hf,.inl rfl⟩⟩;simp only[Y τ o];rfl;intro B;simp only[K];rfl
end
def aH:Frame:={fn:=0,tmps:=#[],todo:=[.code (.refuse "")],defers:=[{target:=.nil,args:=#[]}],mode:=.run,kind:=.normal}
def Off(ch:List PanicEntry):Prop:=2<=ch.length
inductive Ac(G:Nat):Machine->Prop
 |up {fr:Frame} {cs:List Frame} {w:World} (π:Ren G) (v):fr.mode=.panicking [{v,recovered:=false}]->(∀f∈fr::cs,Marks π f)->Dp π w->(∀f∈cs,f.mode=.run\/f.mode=.returning)->Ac G (lone fr (cs++[aH]) w)
 |low (ch) (w:World):Ac G (lone {aH with mode:=.panicking ch} [] w)
def O9{G m}(h:Ac G m){fr w}(e:m=lone fr [aH] w):fr.mode≠ .returning/\∀ch,Off ch->fr.mode≠ .panicking ch:=by cases h with| @up fr' cs w' π ch b _ _ _=>simp only[lone,Machine.mk.injEq]at e;have a:=e.2.1;simp at a;obtain⟨rfl,_⟩:=a;rw[b];refine⟨by simp,λch c e=>?_⟩;cases e;simp[Off]at c|low ch w'=>simp only[lone,Machine.mk.injEq]at e;have a:=e.2.1;simp at a
def Ef(P r w)(h:∀o,w.heap[r]? =some (.deferred o)->o=none\/o=some []):((Instr.takeDeferred r).runT P w #[]).1=.ok [] {w with heap:=w.heap.setIfInBounds r (.deferred none)}\/∃x w',((Instr.takeDeferred r).runT P w #[]).1=.halt x w':=by unfold Instr.takeDeferred;cases a:w.heap[r]? with|none=>right;simp[getObj,bind,Sem.bind,Sem.run,a]|some o=>cases o with|deferred o=>obtain rfl|rfl:=h o a;right;simp[getObj,bind,Sem.bind,Sem.run,a,stuck];left;simp[getObj,bind,Sem.bind,Sem.run,a,setObj,pure]|_=>right;simp[getObj,bind,Sem.bind,Sem.run,a,stuck]
def JW{G P m}(h:Ac G m):(∃o w,step P m=.ended o w)\/∃m',step P m=.next m'/\Ac G m':=by
 cases h with
 |low ch w=>refine .inl ⟨_,_,step_lone_ended (o:=?_) (w':=w) ?_⟩;rotate_left;simp[stepG,unwind,callDeferred,aH,GStep.bare];rfl
 | @up fr cs w π v0 l n p a=>
  have g:=n fr (.head _);cases b:fr.defers with
  |nil=>
   by_cases d:fr.catches P=true
   .refine .inl ⟨_,_,step_lone_ended (o:=?_) (w':=w) ?_⟩;(rotate_left);simp[stepG,unwind,b,l,d,GStep.bare];rfl
   cases cs with|nil=>refine .inr ⟨_,step_lone_go (fr':={aH with mode:=.panicking [{v:=v0,recovered:=false}]}) (cs':=[]) (w':=w) ?_,.low _ w⟩;simp[stepG,unwind,b,l,d,GStep.bare,Frame.raise,aH]|cons c cs=>have s:=n c (.tail _ (.head _));refine .inr ⟨_,step_lone_go (fr':=c.raise [{v:=v0,recovered:=false}]) (cs':=cs++[aH]) (w':=w) ?_,?_⟩;simp[stepG,unwind,b,l,d,GStep.bare];(have e:c.raise [{v:=v0,recovered:=false}]={c with mode:=.panicking [{v:=v0,recovered:=false}]}:=by unfold Frame.raise;rcases a c (.head _)with x|x<;>rw[x]);rw[e];refine .up π v0 rfl (λf g=>?_) p λf g=>a f (.tail _ g);cases g with|head=>exact s|tail _ g=>exact n f (.tail _ (.tail _ g))
  |cons D ds=>obtain⟨r,R,rfl,t⟩:=g D (by rw[b];exact .head _);have j:=Ef P r w λo i=>p r R o t i;obtain e|⟨x,w',e⟩:=j;refine .inr ⟨_,step_lone_go (fr':={fr with defers:=ds}) (cs':=cs++[aH]) (w':={w with heap:=w.heap.setIfInBounds r (.deferred none)}) ?_,?_⟩;simp only[stepG,l,unwind,b,e];rfl;refine .up π v0 l (λf k=>?_) ?_ a;(cases k with|head=>exactλD u=>g D (by rw[b];exact .tail _ u)|tail _ k=>exact n f (.tail _ k));intro y R' o q i;simp only[Ui]at i;split at i;split at i;cases i;exact .inl rfl;cases i;exact p y R' o q i;refine .inl ⟨_,_,step_lone_ended (o:=?_) (w':=w') ?_⟩;(rotate_left);simp only[stepG,l,unwind,b,e];rfl
def GO{G P}:∀(n) {m},Ac G m->∀{fr} {w},runN P n m=.next (lone fr [aH] w)->fr.mode≠ .returning/\∀ch,Off ch->fr.mode≠ .panicking ch:=by intro n;induction n with|zero=>intro m h fr w e;exact O9 h (by simpa[runN]using e)|succ n c=>(intro m h fr w e;unfold runN at e;rcases JW (P:=P) h with⟨o,w',a⟩|⟨d,a,b⟩);rw[a]at e;cases e;rw[a]at e;exact c b e
structure Gh where
 fr:Frame
 cs:List Frame
 w:World
def Gh.AtE(c:Gh):Prop:=c.cs=[]/\c.fr.mode=.returning/\c.fr.defers=[]
def Gh.Flat(c:Gh):Prop:=∀b,(rb c.fr::c.cs.map rb).getLast?=some b->b=false
def Ends(P:Program)(Post:Value->World->Prop)(fr:Frame)(w':World):Prop:=(∃v,fr.leaving P w' (.returned v)/\Post v w')\/∃ch,Off ch/\fr.mode=.panicking ch/\fr.defers=[]
def Ends.MB{P Post fr w'}(h:Ends P Post fr w')(a:fr.mode≠ .returning/\∀ch,Off ch->fr.mode≠ .panicking ch):False:=by obtain⟨v,h,_⟩|⟨ch,b,h,_⟩:=h;exact a.1 h.1;exact a.2 ch b h
def sH{P a fr x xs w0 w' ch}(g:a.mode=.panicking ch)(i:a.defers=[]):∀{n},runN P (n+1) (lone a [aH] w0)=.next (lone fr (x::xs) w')->False:=by
 intro n h;unfold runN at h;by_cases b:a.catches P=true
 .have:∃o w2,step P (lone a [aH] w0)=.ended o w2:=by refine⟨_,_,step_lone_ended (o:=?_) (w':=w0) ?_⟩;rotate_left;simp[stepG,unwind,i,g,b,GStep.bare];rfl
  obtain⟨o,w2,c⟩:=this;rw[c]at h;cases h
 obtain⟨f,d⟩:=ex ({aH with mode:=.panicking ch});have c:step P (lone a [aH] w0)=.next (lone f [] w0):=by refine step_lone_go ?_;simp[stepG,unwind,i,g,b,GStep.bare,Frame.raise,aH,d]
 rw[c]at h;change runN P n (lone f [] w0)=_ at h;cases n with|zero=>have e:=Stepped.next.inj h;simp only[lone,Machine.mk.injEq]at e;have:=e.2.1;simp at this|succ n=>(unfold runN at h;have:∃o w2,step P (lone f [] w0)=.ended o w2:=by refine⟨_,_,step_lone_ended (o:=?_) (w':=w0) ?_⟩;rotate_left;simp[stepG,unwind,callDeferred,aH,GStep.bare,d];rfl);obtain⟨o,w2,c⟩:=this;rw[c]at h;cases h
def Gd(S:Kn)(P:Program)(Post:Value->World->Prop)(c:Gh):Prop:=(∀n,c.w.drawn<=n->S.gi (c.w.tape n))/\∀τ,(∀n<c.w.drawn,τ n=c.w.tape n)->(∀n,c.w.drawn<=n->S.gi (τ n))->∃n fr w',runN P n (lone c.fr (c.cs++[aH]) (av c.w τ c.w.drawn))=.next (lone fr [aH] w')/\Ends P Post fr w'
def Nx(S:Kn)(P:Program)(c c':Gh):Prop:=c.w.drawn<=c'.w.drawn/\(∀n,c.w.drawn<=n->S.gi (c'.w.tape n))/\(∀n<c.w.drawn,c'.w.tape n=c.w.tape n)/\∃es,∀τ,(∀n<c'.w.drawn,τ n=c'.w.tape n)->stepG P true ⟨c.fr,c.cs++[aH],.running,none,none⟩ (av c.w τ c.w.drawn)=.go ⟨c'.fr,c'.cs++[aH],.running,none,none⟩ (av c'.w τ c'.w.drawn) es
def Nx.step{S P c c'}(h:Nx S P c c'){τ}(a:∀n<c'.w.drawn,τ n=c'.w.tape n):step P (lone c.fr (c.cs++[aH]) (av c.w τ c.w.drawn))=.next (lone c'.fr (c'.cs++[aH]) (av c'.w τ c'.w.drawn)):=by obtain⟨_,_,_,es,b⟩:=h;exact step_lone_go (by rw[b τ a];rfl)
def jD{fr fr' cs cs' w w'}(h:lone fr cs w=lone fr' cs' w'):fr=fr'/\cs=cs'/\w=w':=by simp only[lone,Machine.mk.injEq]at h;obtain⟨b,a,_⟩:=h;simp at a;exact⟨a.1,a.2,b⟩
def MC{P}{c:Gh}{fr w w' v}(h:lone c.fr (c.cs++[aH]) w=lone fr [aH] w')(a:fr.leaving P w' (.returned v)):c.AtE:=by obtain⟨rfl,b,_⟩:=jD h;obtain⟨d,e,_⟩:=a;exact⟨by simpa using b,d,e⟩
def Ad{S P Post c c' fr w' τ}(f:Nx S P c c')(g:∀n<c'.w.drawn,τ n=c'.w.tape n)(h:¬c.AtE)(d:lone c.fr (c.cs++[aH]) (av c.w τ c.w.drawn)=lone fr [aH] w')(a:Ends P Post fr w'):False:=by obtain⟨v,a,_⟩|⟨ch,_,i,j⟩:=a;exact h (MC d a);have b:=f.step g;(rw[d]at b;have:∃x xs,c'.cs++[aH]=x::xs:=by cases c'.cs<;>exact⟨_,_,rfl⟩);obtain⟨x,xs,e⟩:=this;rw[e]at b;refine sH (n:=0) i j (x:=x) (xs:=xs) (fr:=c'.fr) (w0:=w') (w':=av c'.w τ c'.w.drawn) (P:=P) ?_;unfold runN;rw[b];rfl
def Gd.next{S P Post c c'}(h:Gd S P Post c)(a:Nx S P c c')(i:¬c.AtE):Gd S P Post c':=by (refine⟨λn b=>a.2.1 n (Tx a.1 b),λτ e j=>?_⟩;have k:∀n<c.w.drawn,τ n=c.w.tape n:=λn d=>(e n (TB d a.1)).trans (a.2.2.1 n d);have l:∀n,c.w.drawn<=n->S.gi (τ n):=λn b=>by obtain x|x:=Ty n c'.w.drawn;rw[e n x];exact a.2.1 n b;exact j n x);obtain⟨n,fr,w',f,g⟩:=h.2 τ k l;cases n with|zero=>exact(Ad a e i (by simpa[runN]using f) g).elim|succ n=>unfold runN at f;rw[a.step e]at f;exact⟨n,fr,w',f,g⟩
def mK{c:Type}{r a}(h:¬Acc r a):∃f:Nat->c,f 0=a/\∀n,r (f (n+1)) (f n):=by (have b:∀x:{x:c//¬Acc r x},∃y:{x:c//¬Acc r x},r y.1 x.1:=by intro⟨x,i⟩;apply UD;intro d;refine i ⟨x,λy j=>?_⟩;exact UD λe=>d ⟨⟨y,e⟩,j⟩);let g:Nat->{x:c//¬Acc r x}:=λn=>Nat.rec ⟨a,h⟩ (λ_ x=>(b x).choose) n;refine⟨λn=>(g n).1,rfl,λn=>?_⟩;exact(b (g n)).choose_spec
def Gd.acc{S P Post c}(h:Gd S P Post c):Acc (λc' c=>Nx S P c c'/\¬c.AtE) c:=by (apply UD;intro s;obtain⟨f,z,g⟩:=mK s;have t:∀n k,(f n).w.drawn<=(f (n+k)).w.drawn:=by intro n k;induction k with|zero=>exact Tw _|succ k j=>exact Tx j (g (n+k)).1.1);(have p:∀n k i,i<(f n).w.drawn->(f (n+k)).w.tape i=(f n).w.tape i:=by intro n k;induction k with|zero=>intro i _;rfl|succ k j=>intro i l;exact((g (n+k)).1.2.2.1 i (TB l (t n k))).trans (j i l));(have u:∀n m i,i<(f n).w.drawn->i<(f m).w.drawn->(f n).w.tape i=(f m).w.tape i:=by intro n m i r A;obtain hnm|hnm:=Nat.le_total n m;obtain⟨k,rfl⟩:=VV hnm;exact(p n k i r).symm;obtain⟨k,rfl⟩:=VV hnm;exact p m k i A);(let τ:Nat->Question->Nat:=λi=>open Classical in if h:∃n,i<(f n).w.drawn then(f h.choose).w.tape i elseλ_=>0);(have e:∀n i,i<(f n).w.drawn->τ i=(f n).w.tape i:=by (intro n i l;have d:∃n,i<(f n).w.drawn:=⟨n,l⟩);show(open Classical in if h:∃n,i<(f n).w.drawn then(f h.choose).w.tape i elseλ_=>0)=_;rw[U9 d];exact u _ _ i d.choose_spec l);(have o:∀n i,(f 0).w.drawn<=i->i<(f n).w.drawn->S.gi ((f n).w.tape i):=by intro n;induction n with|zero=>intro i a b;omega|succ n j=>intro i a b;obtain x|x:=Ty i (f n).w.drawn;rw[(g n).1.2.2.1 i x];exact j i a x;exact(g n).1.2.1 i x);(have q:∀i,(f 0).w.drawn<=i->S.gi (τ i):=by intro i l;by_cases d:∃n,i<(f n).w.drawn;obtain⟨n,r⟩:=d;rw[e n i r];exact o n i l r;show S.gi (open Classical in if h:∃n,i<(f n).w.drawn then(f h.choose).w.tape i elseλ_=>0);rw[dif_neg d];exact my);(subst z;obtain⟨N,fr,w',y,B⟩:=h.2 τ (e 0) q;have v:∀n k,runN P n (lone (f k).fr ((f k).cs++[aH]) (av (f k).w τ (f k).w.drawn))=.next (lone (f (k+n)).fr ((f (k+n)).cs++[aH]) (av (f (k+n)).w τ (f (k+n)).w.drawn)):=by intro n;induction n with|zero=>intro k;rfl|succ n j=>intro k;unfold runN;rw[(g k).1.step (e (k+1))];have:=j (k+1);rw[show k+1+n=k+(n+1) by omega]at this;exact this);have:=v N 0;rw[TF]at this;rw[this]at y;exact Ad (g N).1 (e (N+1)) (g N).2 (Stepped.next.inj y) B
def Gd.ends{S P Post c}(h:Gd S P Post c)(y:c.AtE)(k:c.fr.kind=.normal):∃v,c.fr.leaving P c.w (.returned v)/\Post v c.w:=by (obtain⟨n,fr,w',d,q⟩:=h.2 c.w.tape (λ_ _=>rfl) h.1;obtain⟨a,z,w0⟩:=c;obtain⟨t,j,l⟩:=y;simp only[]at t j l k d;subst t;have d:runN P n (lone a [aH] w0)=.next (lone fr [aH] w'):=d);cases n with|zero=>obtain⟨rfl,_,rfl⟩:=jD (Stepped.next.inj d);obtain q|⟨ch,_,u,_⟩:=q;exact q;rw[j]at u;cases u|succ n=>(exfalso;have f:∀n w1,runN P n (lone aH [] w1)≠ .next (lone fr [aH] w'):=by intro n w1;cases n with|zero=>intro e;have:=(jD (Stepped.next.inj e)).2.1;simp at this|succ n=>(intro e;unfold runN at e;have:∃o w2,step P (lone aH [] w1)=.ended o w2:=by refine⟨_,_,step_lone_ended (o:=?_) (w':=w1) ?_⟩;rotate_left;simp[stepG,stepG.exec,aH,GStep.bare];rfl);obtain⟨o,w2,m⟩:=this;rw[m]at e;cases e);(unfold runN at d;have i:(∃o w2,step P (lone a [aH] w0)=.ended o w2)\/∃w1,step P (lone a [aH] w0)=.next (lone aH [] w1):=by cases p:P.funcs[a.fn]? with|none=>refine .inr ⟨w0,step_lone_go ?_⟩;simp[stepG,unwind,doReturn,j,l,k,p,Frame.finish,aH,GStep.bare]|some g=>cases b:(results g a.tmps).runT P w0 #[]with|mk r es=>cases r with|ok v w1=>refine .inr ⟨w1,step_lone_go ?_⟩;simp only[stepG,unwind,doReturn,j,l,k,p,b];rfl|halt x w1=>cases x with|stuck s=>refine .inl ⟨_,_,step_lone_ended (o:=?_) (w':=w1) ?_⟩;rotate_left;simp only[stepG,unwind,doReturn,j,l,k,p,b];rfl|_=>refine .inl ⟨_,_,step_lone_ended (o:=?_) (w':=w1) ?_⟩;rotate_left;simp only[stepG,unwind,doReturn,j,l,k,p,b];rfl);obtain⟨o,w2,m⟩|⟨w1,m⟩:=i;rw[m]at d;cases d;rw[m]at d;exact f n w1 d
section
variable {S:Kn} {P:Program} {fs:Array Func} {Pr:Nat->Prop} {π:Ren P.globals.size} {W:World}
def Eg{L}(a:∀g∈L,S.gi g)(d n):S.gi (lO d L n):=by unfold lO;cases h:L[n-d]? with|none=>exact my|some g=>exact a g (UC h)
def pG{L}(a:∀g∈L,S.gi g){d}{t:Nat->Question->Nat}:∀n,d<=n->S.gi ((λn=>if n<d then t n else lO d L n) n):=λn b=>by show S.gi (if n<d then t n else lO d L n);rw[Tu (by omega)];exact Eg a d n
def JX{c c':Gh}(h:c.Flat)(d:Sh (rb c.fr::c.cs.map rb) (rb c'.fr::c'.cs.map rb)):c'.Flat:=by unfold Gh.Flat at*;intro b a;obtain e|⟨x,e⟩|⟨x,e⟩:=d;rw[e]at a;exact h b a;rw[e]at a;refine h b ?_;simpa using a;refine h b ?_;rw[e];rw[Xd];exact a
def follow(O:Tab S P fs)(Q:∀g,S.dB g=true->π g g){Post c F CS}(h:bf S π c.fr F)(R:bj (bf S π) c.cs CS)(T:bq S Pr π c.w W)(b:c.Flat) (J:Gd S (ai P fs) Post c) (m:¬c.AtE) (U:S.calm (W.tape W.drawn)) (f):∃(c':Gh) (z:Frame) (j:List Frame) (q:World) (ev:Array Event) (a:Ren P.globals.size),Nx S (ai P fs) c c'/\Gd S (ai P fs) Post c'/\(∀B,stepG P f ⟨F,CS++B,.running,none,none⟩ W=.go ⟨z,j++B,.running,none,none⟩ q ev)/\bq S Pr a c'.w q/\Chg Pr π W q a/\(∀e∈ev,lx Pr a e)/\bj (bf S a) c'.cs j/\JU S P fs a c'.cs c'.fr z/\c'.Flat:=by
 have k:c.fr.roundOf≠none->c.cs≠[]:=by intro l D;have:=b (rb c.fr) (by rw[D];rfl);unfold rb at this;cases hx:c.fr.roundOf<;>simp_all
 have s:c.fr.mode=.returning->c.fr.defers=[]->c.cs≠[]:=λV X Y=>m ⟨Y,V,X⟩;obtain⟨L,K,Z|⟨fr',cs',w',es,z,j,q,ev,a,g1,g2,g3,g4,g5,g6,g7,g8⟩⟩:=Ca (D0:=[aH]) (d:=c.w.drawn) O Q h true f R k s U T;exfalso;let τ:Nat->Question->Nat:=λn=>if n<c.w.drawn then c.w.tape n else lO c.w.drawn L n
 have E:Fits τ c.w.drawn L:=λi g A=>by show(if c.w.drawn+i<c.w.drawn then _ else _)=g;rw[Tu (by omega)];exact ly c.w.drawn L i g A
 obtain⟨n,fr,w',l,C⟩:=J.2 τ (λn G=>Tv G) (pG K);have p:jR P.globals.size [aH] (stepG (ai P fs) true ⟨c.fr,c.cs++[aH],.running,none,none⟩ (av c.w τ c.w.drawn)):=Z τ E;cases n with
 |zero=>obtain⟨v,C,_⟩|⟨ch,_,hm,_⟩:=C;exact m (MC (Stepped.next.inj l) C);have t:=h.calm;rw[(jD (Stepped.next.inj l)).1,hm]at t;rcases t with x|x<;>cases x
 |succ n=>unfold runN at l;generalize u:stepG (ai P fs) true ⟨c.fr,c.cs++[aH],.running,none,none⟩ (av c.w τ c.w.drawn)=r at p;cases r with|ended o w2 H=>rw[step_lone_ended (by rw[u];rfl)]at l;cases l|go g w2 H=>obtain⟨I,aa,e1,M,e3,e4,⟨ch,e5⟩,e6,e7,e8⟩:=p;obtain⟨gf,gc,gs,gd,go⟩:=g;simp only[]at e1 M e3 e4 e5 e6;subst e1 M e3 e4;rw[step_lone_go (by rw[u];rfl)]at l;exact C.MB (GO n (.up I ch e5 e6 e7 e8) l)|_=>exact p
 let τ:Nat->Question->Nat:=λn=>if n<c.w.drawn then c.w.tape n else lO c.w.drawn L n
 have N:Nx S (ai P fs) c ⟨fr',cs',av w' τ (c.w.drawn+L.length)⟩:=by (refine⟨WS _ _,pG K,λn G=>Tv G,es,λy h'=>?_⟩;have hf:Fits y c.w.drawn L:=λi g A=>by have ab:=(UO.1 A).1;rw[h' (c.w.drawn+i) (show c.w.drawn+i<c.w.drawn+L.length by omega)];show(if c.w.drawn+i<c.w.drawn then _ else _)=g;rw[Tu (by omega)];exact ly c.w.drawn L i g A);exact g1 y hf
 exact⟨⟨fr',cs',av w' τ (c.w.drawn+L.length)⟩,z,j,q,ev,a,N,J.next N m,g2,g3.heap rfl rfl,g4,g5,g6,g7,JX b g8⟩
end
def Eh{S P Post f args w}(b:∀n,w.drawn<=n->S.gi (w.tape n)) (h:∀τ,(∀n<w.drawn,τ n=w.tape n)->(∀n,w.drawn<=n->S.gi (τ n))->Calls P f args (av w τ w.drawn) λe w'=>∃v,e=.returned v/\Post v w'):Gd S P Post ⟨Frame.enter P f args .normal,[],w⟩:=by refine⟨b,λτ c a=>?_⟩;obtain⟨e,w',fr,⟨v,rfl,d⟩,g,_,i⟩:=h τ c a [aH];obtain⟨n,j⟩:=g;exact⟨n,fr,w',j,.inl ⟨v,i,d⟩⟩
def Cb{S P Post f args w}(d:∀n,w.drawn<=n->S.gi (w.tape n)) (h:∀τ,(∀n<w.drawn,τ n=w.tape n)->Calls P f args (av w τ w.drawn) λe w'=>(∃v,e=.returned v/\Post v w')\/∃ch,Off ch/\e=.panicked ch):Gd S P Post ⟨Frame.enter P f args .normal,[],w⟩:=by refine⟨d,λτ g _=>?_⟩;obtain⟨e,w',fr,i,c,_,a⟩:=h τ g [aH];obtain⟨v,rfl,j⟩|⟨ch,k,rfl⟩:=i;obtain⟨n,b⟩:=c;exact⟨n,fr,w',b,.inl ⟨v,a,j⟩⟩;obtain⟨n,b⟩:=c;exact⟨n,fr,w',b,.inr ⟨ch,k,a.1,a.2.1⟩⟩
section
variable {S:Kn} {P:Program} {fs:Array Func} {Pr:Nat->Prop}
structure Cp(S:Kn)(P:Program)(fs:Array Func)(Pr:Nat->Prop)(Post:Value->World->Prop)(π:Ren P.globals.size)(c:Gh)(F:Frame)(CS:List Frame)(W:World):Prop where
 top:bf S π c.fr F
 cs:bj (bf S π) c.cs CS
 w:bq S Pr π c.w W
 flat:c.Flat
 rm:Gd S (ai P fs) Post c
 dB:∀g,S.dB g=true->π g g
def Cp.step(p:Tab S P fs)(i:∀f,S.stop f=false){Post π c F CS W}(h:Cp S P fs Pr Post π c F CS W)(j:¬c.AtE)(q:S.calm (W.tape W.drawn))(main):∃(c':Gh) (l:Frame) (d:List Frame) (k:World) (ev:Array Event) (b:Ren P.globals.size),(Nx S (ai P fs) c c'/\¬c.AtE)/\Cp S P fs Pr Post b c' l d k/\(∀B,stepG P main ⟨F,CS++B,.running,none,none⟩ W=.go ⟨l,d++B,.running,none,none⟩ k ev)/\Chg Pr π W k b/\∀e∈ev,lx Pr b e:=by obtain⟨c',l,d,k,ev,b,r,s,t,u,n,v,x,m,y⟩:=follow p h.dB h.top h.cs h.w h.flat h.rm j q main;refine⟨c',l,d,k,ev,b,⟨r,j⟩,⟨?_,x,u,y,s,λg z=>n.le _ _ (h.dB g z)⟩,t,n,v⟩;obtain m|⟨_,g,a,A,o,_⟩:=m;exact m;rw[i g]at o;cases o
def Cp.Qx(m:Tab S P fs)(a:∀f,S.stop f=false)(b:∀g,S.calm g){Post π c F CS W}(h:Cp S P fs Pr Post π c F CS W):∃(π':Ren P.globals.size) (c':Gh) (n:Frame) (k:World) (v:Value),Cp S P fs Pr Post π' c' n [] k/\c'.AtE/\Post v c'.w/\c'.fr.leaving (ai P fs) c'.w (.returned v)/\Chg Pr π W k π':=by have d:=h.rm.acc;induction d generalizing π F CS W with|intro c _ o=>by_cases j:c.AtE;obtain⟨v,p,q⟩:=h.rm.ends j h.top.kind;have e:=h.cs;rw[j.1]at e;cases e;exact⟨π,c,F,W,v,h,j,q,p,Chg.refl _ _ _⟩;obtain⟨c',E,r,k,ev,π',s,t,_,i,_⟩:=h.step m a j (b _) true;obtain⟨l,u,x,y,v,z,A,B,C,D⟩:=o c' s t;exact⟨l,u,x,y,v,z,A,B,C,i.trans D⟩
def Gd.av{S P Post c}(h:Gd S P Post c){τ:Nat->Question->Nat}(f:∀n<c.w.drawn,τ n=c.w.tape n)(g:∀n,c.w.drawn<=n->S.gi (τ n)):Gd S P Post ⟨c.fr,c.cs,av c.w τ c.w.drawn⟩:=⟨g,λa b d=>h.2 a (λn e=>(b n e).trans (f n e)) d⟩
def Cp.returns(z:Tab S P fs){Post π c F CS W}(h:Cp S P fs Pr Post π c F CS W)(r:c.AtE)(C B main):CS=[]/\∃(v V:Value) (w' m:World) (ev:Array Event) (f:Ren P.globals.size),Post v w'/\w'.heap=c.w.heap/\stepG P main ⟨F,C::B,.running,none,none⟩ W=.go ⟨C.finish V,B,.running,none,none⟩ m ev/\az f v V/\bq S Pr f w' m/\Chg Pr π W m f/\∀e∈ev,lx Pr f e:=by
 have o:=h.cs;rw[r.1]at o;refine⟨by cases o;rfl,?_⟩;obtain⟨_,g,A,e1,D,_,_,_⟩:=z.ent _ h.top.ent;have s:=rj (S:=S) (P:=P) (fs:=fs) g h.top.tmps;obtain⟨L,E,G|⟨a,w',t,b,m,ev,f,H,y,I,J,K,M⟩⟩:=s.run (Pr:=Pr) c.w W #[] #[] c.w.drawn h.w;all_goals
  let τ:Nat->Question->Nat:=λn=>if n<c.w.drawn then c.w.tape n else lO c.w.drawn L n
  have p:Fits τ c.w.drawn L:=λi g N=>by show(if c.w.drawn+i<c.w.drawn then _ else _)=g;rw[Tu (by omega)];exact ly c.w.drawn L i g N
  have u:∀n<c.w.drawn,τ n=c.w.tape n:=λn O=>Tv O;obtain⟨v,⟨_,_,_,g',k,j⟩,Q⟩:=(h.rm.av u (pG E)).ends r h.top.kind;simp only[show(ai P fs).funcs=fs from rfl]at k;rw[e1]at k;cases k;rw[show results {g with body:=some (gR A)} c.fr.tmps=results g c.fr.tmps from rfl]at j;have d:((results g c.fr.tmps).runT (ai P fs) (av c.w τ c.w.drawn) #[]).1=.ok v (av c.w τ c.w.drawn):=by rw[<-j];simp
 obtain⟨x,w',t,e,_⟩:=G τ p;rw[e]at d;cases d;rw[H τ p]at d;simp only[Result.ok.injEq]at d;obtain⟨rfl,R⟩:=d;rw[UL]at y;refine⟨a,b,av c.w τ c.w.drawn,m,seen P F.fn ev++#[],f,Q,rfl,?_,I,?_,K,ko M⟩;have l:=h.top.mode.trans r.2.1;have q:F.defers=[]:=by have:=h.top.defers;rw[r.2.2]at this;cases T:F.defers with|nil=>rfl|cons=>rw[T]at this;cases this
 have U:P.funcs[F.fn]? =some g:=by rw[h.top.fn];exact D
 simp only[stepG,unwind,l,q,U,y,oN _ _ _ _ _ _ _ h.top.Kind];rfl;refine J.heap ?_ rfl;rw[<-R];rfl
end
section
variable {S:Kn} {P:Program} {fs:Array Func}
structure Eff(Own:Nat->Prop)(W W':World):Prop where
 os:W'.os=W.os
 tape:W'.tape=W.tape
 output:W'.output=W.output
 size:W.heap.size<=W'.heap.size
 keep:∀b,b<W.heap.size->¬Own b->W'.heap[b]? =W.heap[b]?
def Eff.refl(Own W):Eff Own W W:=⟨rfl,rfl,rfl,Tw _,λ_ _ _=>rfl⟩
structure iO(S:Kn)(P:Program)(fs:Array Func)(π₀:Ren P.globals.size)(C0 wB:World)(Post:Value->World->Prop)(πA πB:Ren P.globals.size)(cA cB:Gh)(F:Frame)(CS:List Frame)(W:World):Prop where
 a:Cp S P fs (λR=>∃r,π₀ r R) Post πA cA F CS W
 b:Cp S P fs (λ_=>False) (λ_ w'=>∀r R,π₀ r R->w'.heap[r]? =wB.heap[r]?) πB cB F CS W
 la:Ren.le π₀ πA
 lb:Ren.le π₀ πB
 base:∀r R,π₀ r R->∃c C e F,wB.heap[r]? =some (.cells c e F)/\C0.heap[R]? =some (.cells C e F)
 old:∀r R,π₀ r R->W.heap[R]? =C0.heap[R]?
 same:∀R,(∃r,πA r R)↔∃r,πB r R
def iO.Own(a c:Ren P.globals.size)(b:Nat):Prop:=(∃r,c r b)/\¬∃r,a r b
def vT{π Pr Post c F CS W}(h:Cp S P fs Pr Post π c F CS W):c.AtE↔CS=[]/\F.mode=.returning/\F.defers=[]:=by (unfold Gh.AtE;have a:c.cs=[]↔CS=[]:=by have:=h.cs.length;exact⟨λe=>by rw[e]at this;exact Uj this.symm,λe=>by rw[e]at this;exact Uj this⟩);(have b:c.fr.defers=[]↔F.defers=[]:=by have:=h.top.defers.length;exact⟨λe=>by rw[e]at this;exact Uj this.symm,λe=>by rw[e]at this;exact Uj this⟩);rw[a,b,h.top.mode]
def Ae{X0 a b n}(d:Fle X0 a)(c:Fle a b)(f:Jg n X0 b):a=X0:=by (refine Fle.back d ?_;have:b=X0:=by obtain e|⟨e1,g,e3⟩:=f;exact e;obtain e|⟨h,i⟩:=d.trans c;exact e;refine Prod.ext ?_ ?_<;>omega);rw[this]at c;exact c
def iO.step(V:Tab S P fs)(j:∀f,S.stop f=false)(k:∀g,S.calm g){d l X p wB Post T cB F CS W} (h:iO S P fs d p wB Post l X T cB F CS W) (A:¬T.AtE) (main):∃(πA' m:Ren P.globals.size) (q D:Gh) (U:Frame) (t:List Frame) (u:World) (ev:Array Event),(Nx S (ai P fs) T q/\¬T.AtE)/\iO S P fs d p wB Post πA' m q D U t u/\(∀B,stepG P main ⟨F,CS++B,.running,none,none⟩ W=.go ⟨U,t++B,.running,none,none⟩ u ev)/\Eff (iO.Own d l) W u/\(∀b,iO.Own d l b->iO.Own d πA' b)/\(∀b,iO.Own d πA' b->iO.Own d l b\/W.heap.size<=b)/\(∀b,W.heap.size<=b->b<u.heap.size->iO.Own d πA' b)/\(∀e∈ev,lx (λR=>∃r,d r R) πA' e)/\Chg (λR=>∃r,d r R) l W u πA':=by (have J:¬cB.AtE:=by rw[vT h.b];rw[vT h.a]at A;exact A);(obtain⟨q,U,t,u,ev,πA',a1,a2,a3,n,a5⟩:=h.a.step V j A (k _) main;obtain⟨D,ad,af,W2,ag,m,b1,Y,K,I,b5⟩:=h.b.step V j J (k _) main;have K:=K [];rw[a3 []]at K;simp only[GStep.go.injEq,Goroutine.mk.injEq]at K;obtain⟨⟨e1,e2,_⟩,e3,_⟩:=K;have Z:=List.append_cancel_right e2;subst e1;subst Z;subst e3;have y:∀r R,d r R->u.heap[R]? =p.heap[R]? :=by intro r R i;obtain⟨c,C,e,z,hb,hW⟩:=h.base r R i;obtain⟨F',E⟩:=n.nZ R ⟨r,i⟩ C e z (by rw[h.old r R i,hW]);obtain⟨C1,F1,G,aa⟩:=I.fz R C e z (by rw[h.old r R i,hW]);rw[E]at G;simp only[Ug,Obj.cells.injEq,true_and]at G;obtain⟨rfl,rfl⟩:=G;obtain⟨ah,c2,F2,We,v,g1,g2,g3,g4,g5⟩:=Y.Qx V j k;obtain⟨C2,Fe,ab,L⟩:=g5.fz R C e F' E;obtain⟨o,O,ho,hO,M⟩:=g1.w.obj r R (g5.le _ _ (I.le _ _ (h.lb _ _ i)));rw[g3 r R i,hb]at ho;rw[ab]at hO;cases ho;cases hO;cases M with|cells _ _ hf=>rw[E,hW,Ae aa L hf]);(have H:∀R,(∃r,πA' r R)↔∃r,m r R:=by intro R;constructor;rintro⟨r,i⟩;obtain x|x:=n.old r R i;obtain⟨s,hs⟩:=(h.same R).1 ⟨r,x⟩;exact⟨s,I.le _ _ hs⟩;exact I.new R x (a2.w.lt i).2;rintro⟨r,i⟩;obtain x|x:=I.old r R i;obtain⟨s,hs⟩:=(h.same R).2 ⟨r,x⟩;exact⟨s,n.le _ _ hs⟩;exact n.new R x (Y.w.lt i).2);(have N:∀b,iO.Own d l b->iO.Own d πA' b:=λb ⟨⟨r,i⟩,Q⟩=>⟨⟨r,n.le _ _ i⟩,Q⟩);refine⟨πA',m,q,D,U,t,u,ev,a1,⟨a2,Y,Ren.le_trans h.la n.le,Ren.le_trans h.lb I.le,h.base,y,H⟩,a3,⟨n.os,n.tape,n.output,n.size,λb hb Q=>?_⟩,N,λb ⟨⟨r,i⟩,Q⟩=>?_,λb h1 h2=>?_,a5,n⟩;by_cases hp:∃r,l r b;have:∃r,d r b:=UD λhx=>Q ⟨hp,hx⟩;obtain⟨r,i⟩:=this;rw[y r b i,h.old r b i];exact n.keep b hb hp;obtain x|x:=n.old r b i;exact .inl ⟨⟨r,x⟩,Q⟩;exact .inr x;refine⟨n.new b h1 h2,λ⟨r,i⟩=>?_⟩;have:=(h.a.w.lt (h.la _ _ i)).2;omega
end
def Rw{a}:Result a->World
 | .ok _ w=>w
 | .halt _ w=>w
def Rt{b}(τ:Nat->Question->Nat):Result b->Result b
 | .ok a w=>.ok a (av w τ w.drawn)
 | .halt h w=>.halt h (av w τ w.drawn)
def jk(es:Array Event):Prop:=∀e∈es,e.loc≠ .output
def Agr(w:World)(d:Nat)(τ:Nat->Question->Nat):Prop:=∀n,w.drawn<=n->n<d->τ n=w.tape n
def MD{f}(P)(s:Sem f):∀(w) (es),∀e∈es,e∈(s.runT P w es).2:=by
 induction s with
 |pure a=>exactλw es e b=>b
 |load m a k d=>intro w es e b;simp only[Sem.runT];cases w.cell? a with|some v=>exact d v w _ e (Vq _ b)|none=>simp only[];cases w.farLoad P a (m== .atomic)with|ok r=>exact d r.1 w _ e (WX _ b)|error h=>exact b
 |store m a v k d=>intro w es e b;cases v with|agg=>exact b|tuple=>exact b|_=>simp only[Sem.runT];cases w.cell? a with|some v=>simp only[];split;exact b;exact d _ _ e (Vq _ b)|none=>simp only[];split;exact d _ _ e (WX _ b);exact b
 |new o k d=>exactλw es=>d _ _ _
 |shape r k d=>exactλw es=>d _ _ _
 |freeze a n k d=>exactλw es=>d _ _
 |frozen a k d=>exactλw es=>d _ _ _
 |getObj r k d=>intro w es e b;simp only[Sem.runT];split;exact b;exact d _ _ _ e (Vq _ b);exact b
 |setObj r o k d=>intro w es e b;simp only[Sem.runT];split;exact b;exact d _ _ e (Vq _ b);exact b
 |choose q k d=>intro w es e b;simp only[Sem.runT];split;exact d _ _ _ e b;exact d _ _ _ e b
 |sys c k d=>exactλw es e b=>d _ _ _ e (Vq _ b)
 |program k d=>exactλw es=>d _ _ _
 |mark m k d=>exactλw es e b=>d _ _ e (Vq _ b)
 |halt h=>exactλw es e b=>b
def xx{P}{w w1:World}{a v m as}(h:w.farStore P a v m=.ok (w1,as)):w1.drawn=w.drawn/\w1.tape=w.tape:=by have:=gy P w w.tape w.drawn a v m;rw[show av w w.tape w.drawn=w from rfl,h]at this;simp only[Except.map,Except.ok.injEq,Wo,and_true]at this;rw[this];exact⟨rfl,rfl⟩
def JY{z}(P)(s:Sem z):∀(w) (es),jk (s.runT P w es).2->w.drawn<=(Rw (s.runT P w es).1).drawn/\(Rw (s.runT P w es).1).tape=w.tape/\∀τ,Agr w (Rw (s.runT P w es).1).drawn τ->s.runT P (av w τ w.drawn) es=(Rt τ (s.runT P w es).1,(s.runT P w es).2):=by
 induction s with
 |pure a=>exactλw es _=>⟨Tw _,rfl,λτ _=>rfl⟩
 |load m a k d=>intro w es h;simp only[Sem.runT,show ∀τ,(av w τ w.drawn).cell? a=w.cell? a fromλ_=>rfl,show ∀τ,(av w τ w.drawn).farLoad P a (m== .atomic)=w.farLoad P a (m== .atomic)fromλ_=>rfl]at h⊢;cases i:w.cell? a with|some v=>simp only[i]at h⊢;exact d v w _ h|none=>simp only[i]at h⊢;cases j:w.farLoad P a (m== .atomic)with|ok r=>simp only[j]at h⊢;exact d r.1 w _ h|error e=>exact⟨Tw _,rfl,λτ _=>rfl⟩
 |store m a v k d=>
  intro w es h;by_cases f:(∀c,v≠ .agg c)/\(∀c,v≠ .tuple c);case neg=>cases v<;>first|exact⟨Tw _,rfl,λτ _=>rfl⟩|exact absurd ⟨by simp,by simp⟩ f
  have key:∀w:World,(Sem.store m a v k).runT P w es=match w.cell? a with
   |some _=>if w.frozen? a=true then(.halt (.unsupported (.unsafePointer "a write to bytes that a string shares")) w,es)else k.runT P (w.setCell a v) (es.push ⟨.cell a,true,m== .atomic⟩)
   |none=>match w.farStore P a v (m== .atomic)with
    | .ok (w',as)=>k.runT P w' (es++as.toArray.map (⟨.cell ·,true,m== .atomic⟩))
    | .error h=>(.halt h w,es):=by
   intro w;cases v<;>first|rfl|exact absurd rfl (f.1 _)|exact absurd rfl (f.2 _)
  simp only[key,show ∀τ,(av w τ w.drawn).cell? a=w.cell? a fromλ_=>rfl,show ∀τ,(av w τ w.drawn).frozen? a=w.frozen? a fromλ_=>rfl,gy]at h⊢;cases i:w.cell? a with|some B=>simp only[i]at h⊢;split;exact⟨Tw _,rfl,λτ _=>rfl⟩;rename_i A;simp only[Tu A]at h;exact d (w.setCell a v) _ h|none=>simp only[i]at h⊢;cases j:w.farStore P a v (m== .atomic)with|ok r=>obtain⟨w1,as⟩:=r;simp only[j,Except.map]at h⊢;obtain⟨e1,y⟩:=xx j;obtain⟨t,l,p⟩:=d w1 _ h;refine⟨by omega,l.trans y,λτ g=>?_⟩;have:=p τ (λn a b=>by rw[y];exact g n (by omega) b);rw[e1]at this;exact this|error e=>simp only[j,Except.map];exact⟨Tw _,rfl,λτ _=>rfl⟩
 |new o k d=>exactλw es h=>d _ {w with heap:=w.heap.push o} es h
 |shape r k d=>exactλw es h=>d _ w es h
 |freeze a n k d=>(intro w es h;have e:(w.freeze a n).drawn=w.drawn/\(w.freeze a n).tape=w.tape:=by unfold World.freeze;split<;>exact⟨rfl,rfl⟩);obtain⟨t,l,p⟩:=d (w.freeze a n) es h;refine⟨by simp only[Sem.runT];omega,l.trans e.2,λτ g=>?_⟩;simp only[Sem.runT,pW]at g⊢;have:=p τ (λn a b=>by rw[e.2];exact g n (by omega) b);rw[e.1]at this;exact this
 |frozen a k d=>exactλw es h=>d _ w es h
 |getObj r k d=>intro w es h;simp only[Sem.runT,show ∀τ,(av w τ w.drawn).heap[r]? =w.heap[r]? fromλ_=>rfl]at h⊢;cases u:w.heap[r]? with|none=>exact⟨Tw _,rfl,λτ _=>rfl⟩|some o=>cases o<;>simp only[u]at h⊢<;>first|exact d _ w _ h|exact⟨Tw _,rfl,λτ _=>rfl⟩
 |setObj r o k d=>intro w es h;simp only[Sem.runT,show ∀τ,(av w τ w.drawn).heap[r]? =w.heap[r]? fromλ_=>rfl]at h⊢;cases u:w.heap[r]? with|none=>exact⟨Tw _,rfl,λτ _=>rfl⟩|some o'=>cases o'<;>simp only[u]at h⊢<;>first|exact d {w with heap:=w.heap.setIfInBounds r o} _ h|exact⟨Tw _,rfl,λτ _=>rfl⟩
 |choose q k d=>intro w es h;simp only[Sem.runT]at h⊢;split;rename_i x;simp only[Tv x]at h;exact d 0 w es h;rename_i x;simp only[Tu x]at h;obtain⟨t,l,p⟩:=d _ {w with drawn:=w.drawn+1} es h;refine⟨Tx (Nat.le_succ _) t,l,λτ g=>?_⟩;have e:=g w.drawn (Tw _) t;have:=p τ (λn a b=>g n (Nat.le_of_succ_le a) b);simp only[av]at this⊢;rw[e];exact this
 |sys c k d=>intro w es h;exact absurd rfl (h _ (MD P (k (w.sys c).1) (w.sys c).2 (es.push ⟨.output,true,false⟩) ⟨.output,true,false⟩ Array.mem_push_self))
 |program k d=>exactλw es h=>d _ w es h
 |mark m k d=>exactλw es h=>d w _ h
 |halt h=>exactλw es _=>⟨Tw _,rfl,λτ _=>rfl⟩
end Go.Tm
namespace Go.Tm
structure kT(P:Program):Prop where
 norace:∀f:Nat,(P.funcs[f]?).any (λx:Func=>x.norace)=false
 follows:P.follows .staticDataAhead=true
 stepOf:∀g,P.stepOf g=none
variable {P:Program}
def xy(g:kT P)(fn es)(h:jk (seen P fn es)):jk es:=by (obtain⟨l⟩:=es;unfold seen at h;simp only[g.norace,List.foldl_toArray']at h;have key:∀(l:List Event) (k:Array Event),jk (l.foldl (λ(x:Bool×Array Event) e=>match e.loc with| .mark (.extern f)=>(false,x.2)|_=>(x.1,if x.1&& !e.sync then x.2 else x.2.push e)) (false,k)).2->jk k/\∀e∈l,e.loc≠ .output:=by intro l;induction l with|nil=>exactλk h=>⟨h,by simp⟩|cons e l d=>intro k h;rw[Wn]at h;split at h;rename_i f b;obtain⟨a,c⟩:=d k h;refine⟨a,λx hx=>?_⟩;obtain rfl|hx:=TZ.1 hx;rw[b];simp;exact c x hx;simp only[Wp,TS,TP]at h;obtain⟨a,c⟩:=d (k.push e) h;refine⟨λx hx=>a x (Vq _ hx),λx hx=>?_⟩;obtain rfl|hx:=TZ.1 hx;exact a x Array.mem_push_self;exact c x hx);exactλe b=>(key l #[] h).2 e (by simpa using b)
def bD(f:World->GStep):Prop:=∀w g' w' es,f w=.go g' w' es->g'.dying=none->g'.status=.running->jk es->w.drawn<=w'.drawn/\w'.tape=w.tape/\∀τ,Agr w w'.drawn τ->f (av w τ w.drawn)=.go g' (av w' τ w'.drawn) es
def iF(r:GStep):Prop:=∀g' w' es,r=.go g' w' es->g'.dying=none->g'.status=.running->False
def bD.go(g es):bD (λw=>.go g w es):=by intro w g' w' a h _ _ _;cases h;exact⟨Tw _,rfl,λ_ _=>rfl⟩
def bD.no{f:World->GStep}(h:∀w,iF (f w)):bD f:=λw g' w' es e a b _=>(h w g' w' es e a b).elim
def iF.ended(o w es):iF (.ended o w es):=λ_ _ _ h=>by cases h
def bD.sem(F:kT P){t}(s:Sem t)(fn)(k:Result t->Array Event->Array Event)(K:Result t->GStep) (u:∀a,(∀w es,k (.ok a w) es=seen P fn es)/\bD (λw=>K (.ok a w))) (H:∀h,(∀w,iF (K (.halt h w)))\/((∀w es,k (.halt h w) es=seen P fn es)/\bD (λw=>K (.halt h w)))):bD (λw=>GStep.after (k (s.runT P w #[]).1 (s.runT P w #[]).2) (K (s.runT P w #[]).1)):=by (intro w g' w' es h v y G;dsimp only at h⊢;have z:∃es0,K (s.runT P w #[]).1=.go g' w' es0/\es=k (s.runT P w #[]).1 (s.runT P w #[]).2++es0:=by cases j:K (s.runT P w #[]).1<;>rw[j]at h<;>simp only[GStep.after]at h<;>cases h;exact⟨_,rfl,rfl⟩);obtain⟨es0,j,rfl⟩:=z;have l:jk es0:=λe A=>G e (Array.mem_append_right _ A);have c:jk (k (s.runT P w #[]).1 (s.runT P w #[]).2):=λe A=>G e (WX _ A);have d:=JY P s w #[];cases m:s.runT P w #[]with|mk r o=>rw[m]at j c d;cases r with|ok a w1=>obtain⟨f,B⟩:=u a;rw[f]at c;obtain⟨g,i,p⟩:=d (xy F fn o c);obtain⟨k1,C,D⟩:=B w1 g' w' es0 j v y l;simp only[Rw]at g i p;refine⟨Tx g k1,C.trans i,λτ q=>?_⟩;have e1:=p τ (λn a b=>q n a (TB b k1));have E:=D τ (λn a b=>by rw[i];exact q n (Tx g a) b);simp only[e1,Rt,f,GStep.after,E]|halt x w1=>obtain f|⟨f,B⟩:=H x;exact(f w1 g' w' es0 j v y).elim;rw[f]at c;obtain⟨g,i,p⟩:=d (xy F fn o c);obtain⟨k1,C,D⟩:=B w1 g' w' es0 j v y l;simp only[Rw]at g i p;refine⟨Tx g k1,C.trans i,λτ q=>?_⟩;have e1:=p τ (λn a b=>q n a (TB b k1));have E:=D τ (λn a b=>by rw[i];exact q n (Tx g a) b);simp only[e1,Rt,f,GStep.after,E]
def bD.run(q)(K:Result Nat->GStep)(c:∀a,bD (λw=>K (.ok a w)))(m:∀h,bD (λw=>K (.halt h w))):bD (λw=>K ((choose q).run P w)):=by intro w g' w' es h d f g;dsimp only at h⊢;simp only[choose,Sem.run,pure]at h⊢;by_cases i:q.forced=true;simp only[Tv i]at h⊢;exact c 0 w g' w' es h d f g;simp only[Tu i]at h⊢;obtain⟨k1,k,l⟩:=c _ {w with drawn:=w.drawn+1} g' w' es h d f g;refine⟨Tx (Nat.le_succ _) k1,k,λτ j=>?_⟩;have e:=j w.drawn (Tw _) k1;have:=l τ (λn a b=>j n (Nat.le_of_succ_le a) b);simp only[av]at this⊢;rw[e];exact this
end Go.Tm
namespace Go.Tm
section
variable {G:Nat}
def idR(G)(B:Nat->Prop):Ren G:=⟨λr R=>r=R/\B r,λ_ _ _ h a=>h.1.symm.trans a.1,λ_ _ _ h a=>h.1.trans a.1.symm,λ_ _ h=>by rw[h.1]⟩
theorem lL(π:Ren G):∀V,∃v,az π v V
 | .bool b=>⟨_,.bool b⟩
 | .int k n=>⟨_,.int k n⟩
 | .float k b=>⟨_,.float k b⟩
 | .complex k a b=>⟨_,.complex k a b⟩
 | .string s=>⟨_,.string s⟩
 | .pointer none=>⟨_,.Je⟩
 | .pointer (some a)=>⟨_,.mv _ rfl⟩
 | .slice none l c=>⟨_,.iM l c⟩
 | .slice (some a) l c=>⟨_,.mv _ rfl⟩
 | .map none=>⟨_,.LB⟩
 | .map (some r)=>⟨_,.mv _ rfl⟩
 | .chan none=>⟨_,.Q2⟩
 | .chan (some r)=>⟨_,.mv _ rfl⟩
 | .func (.method n) f c=>⟨_,.Jf n f c⟩
 | .func (.func g) f c=>⟨_,.mv _ rfl⟩
 | .func (.methodOf t n) f c=>⟨_,.mv _ rfl⟩
 | .func (.via t p g b) f c=>⟨_,.mv _ rfl⟩
 | .func (.yield l) f c=>⟨_,.mv _ rfl⟩
 | .nilFunc=>⟨_,.nilFunc⟩
 | .iface t v=>⟨_,.mv _ rfl⟩
 | .nilIface=>⟨_,.nilIface⟩
 | .agg cs=>by
  have h:∀i:Nat,∃v,∀x,cs[i]? =some x->az π v x:=λi=>by
   by_cases e:i<cs.size
   .obtain⟨v,m⟩:=lL π cs[i]
    exact⟨v,λx d=>by rw[TW e]at d;cases d;exact m⟩
   .exact⟨.bool false,λx d=>by rw[UQ (by omega)]at d;cases d⟩
  refine⟨.agg (Array.ofFn λi:Fin cs.size=>(h i).choose),.agg (by simp) λi x X d j=>?_⟩;have e:=(TC.1 j).1;simp only[Array.getElem?_ofFn,e,U9,Ug]at d;subst d;exact(h i).choose_spec X j
 | .tuple cs=>by
  have h:∀i:Nat,∃v,∀x,cs[i]? =some x->az π v x:=λi=>by
   by_cases e:i<cs.size
   .obtain⟨v,m⟩:=lL π cs[i]
    exact⟨v,λx d=>by rw[TW e]at d;cases d;exact m⟩
   .exact⟨.bool false,λx d=>by rw[UQ (by omega)]at d;cases d⟩
  refine⟨.tuple (Array.ofFn λi:Fin cs.size=>(h i).choose),.tuple (by simp) λi x X d j=>?_⟩;have e:=(TC.1 j).1;simp only[Array.getElem?_ofFn,e,U9,Ug]at d;subst d;exact(h i).choose_spec X j
noncomputable def mask(π:Ren G)(V:Value):Value:=open Classical in if az π V V then V else match V with
 | .slice (some _) 0 0=>.slice (some ⟨0,0,some 0⟩) 0 0
 |_=>(lL π V).choose
def Nc(π:Ren G)(V):az π (mask π V) V:=by unfold mask;split;assumption;split;exact .qJ _;exact(lL π V).choose_spec
def ja{π:Ren G}{V}(h:az π V V):mask π V=V:=Tv h
def Hd(π:Ren G)(c):∃b,mask π (.slice c 0 0)=.slice b 0 0:=by cases c with|none=>exact⟨none,ja (.iM _ _)⟩|some a=>unfold mask;split;exact⟨_,rfl⟩;exact⟨_,rfl⟩
noncomputable def kq(π:Ren G)(fz:Prop):Obj->Obj
 | .cells c e f=>.cells (c.map (mask π)) e (open Classical in if fz then(0,max f.2 (c.size+1))else f)
 |o=>o
noncomputable def db(π:Ren G)(fz:Nat->Prop)(W:World):World:={W with heap:=(Array.range W.heap.size).map λb=>kq π (fz b) (W.heap[b]?.getD default)}
def fX(π:Ren G)(fz W b):(db π fz W).heap[b]? =(W.heap[b]?).map (kq π (fz b)):=by unfold db;simp only[T3,Array.getElem?_range];by_cases a:b<W.heap.size;simp[a];simp[a]
def lg(π:Ren G)(fz W):(db π fz W).heap.size=W.heap.size:=by simp[db]
def kD{S B Pr W}(d:∀b,B b->∃o,W.heap[b]? =some o/\((∃c e f,o=.cells c e f)\/(¬Pr b/\(∀c e f,o≠ .cells c e f)/\fR S (idR G B) o o)))(g:∀b,Pr b->B b)(p:G<=W.heap.size)(j:∃c e f,W.heap[0]? =some (.cells c e f)):bq S Pr (idR G B) (db (idR G B) Pr W) W:=by refine⟨λr R h=>?_,λr R h k=>?_,λR h=>?_,by rw[lg];exact p,p,by obtain⟨c,e,f,j⟩:=j;rw[fX,j];exact⟨_,_,_,rfl⟩⟩;obtain⟨rfl,l⟩:=h;obtain⟨o,a,m⟩:=d r l;refine⟨kq (idR G B) (Pr r) o,o,by rw[fX,a];rfl,a,?_⟩;obtain⟨c,e,f,rfl⟩|⟨k,n,q⟩:=m;unfold kq;refine .cells e (aY.lN λi=>?_) ?_;rw[T3];(cases s:c[i]? with|none=>exact .none|some x=>exact .some (Nc _ x));split;refine .inr ⟨rfl,?_,?_⟩;simp only[UZ];omega;simp only[];omega;exact .inl rfl;(cases o<;>first|exact absurd rfl (n _ _ _)|exact q);obtain⟨rfl,l⟩:=h;obtain⟨o,a,m⟩:=d r l;obtain⟨c,e,f,rfl⟩|⟨n,_⟩:=m;refine⟨c.map (mask (idR G B)),e,(0,max f.2 (c.size+1)),?_,rfl,?_⟩;rw[fX,a];simp[kq,k];simp only[UZ];omega;exact absurd k n;obtain⟨o,a,_⟩:=d R (g R h);exact(TC.1 a).1
end
section
variable {S:Kn} {P:Program} {fs:Array Func} {π:Ren P.globals.size}
def Nl{a A}(h:VsR π a A):(SR S (ai P fs) P) VQ π (Extern.AbiNoEscape.same a) (Extern.AbiNoEscape.same A):=by have b:=h.toList;obtain⟨a⟩:=a;obtain⟨A⟩:=A;simp only[]at b;cases b with|nil=>exact aq|cons c b=>cases b with|nil=>exact aj c|cons=>exact aq
def vN(n):∀{π:Ren P.globals.size} {a A} (acc),aR π a A->(SR S (ai P fs) P) EqQ π (Extern.Bytes.loadBytes a n acc) (Extern.Bytes.loadBytes A n acc):=by
 induction n with
 |zero=>intro π a A acc h;exact aj rfl
 |succ n b=>
  intro π a A acc h;unfold Extern.Bytes.loadBytes;refine(rJ h).bind ?_;intro c d v V e;cases e with
  |int k n=>cases k<;>first|exact b _ ((h.mono d).add 1)|exact aq
  |_=>exact aq
def nF{x X}(h:az π x X):(SR S (ai P fs) P) EqQ π (Extern.Bytes.bytesOf x) (Extern.Bytes.bytesOf X):=by cases h with|string=>exact aj rfl|iM=>exact aj rfl|slice l c h=>exact vN _ _ h|qJ A=>exact aj rfl|_=>exact aq
def AB{x X}(h:az π x X):(SR S (ai P fs) P) EqQ π (Extern.Bytes.asByte x) (Extern.Bytes.asByte X):=by
 cases h with
 |int k n=>cases k<;>first|exact aj rfl|exact aq
 |_=>exact aq
def Cz{a A}(h:VsR π a A):(SR S (ai P fs) P) VQ π (Extern.BytealgIndexByte.indexByte a) (Extern.BytealgIndexByte.indexByte A):=by have d:=h.toList;obtain⟨a⟩:=a;obtain⟨A⟩:=A;simp only[]at d;cases d with|nil=>exact aq|cons e d=>cases d with|nil=>exact aq|cons f d=>cases d with|cons=>exact aq|nil=>refine(nF e).bind ?_;rintro g i b _ rfl;refine(AB (f.mono i)).bind ?_;rintro j k c _ rfl;split<;>exact aj (.int _ _)
def Nn{a A}(h:VsR π a A):(SR S (ai P fs) P) VQ π (Extern.BytealgCount.count a) (Extern.BytealgCount.count A):=by have d:=h.toList;obtain⟨a⟩:=a;obtain⟨A⟩:=A;simp only[]at d;cases d with|nil=>exact aq|cons e d=>cases d with|nil=>exact aq|cons f d=>cases d with|cons=>exact aq|nil=>refine(nF e).bind ?_;rintro g i b _ rfl;refine(AB (f.mono i)).bind ?_;rintro j k c _ rfl;exact aj (.int _ _)
def yb:∀(n t) (acc),bh acc->bh (Extern.BytealgMakeNoZero.digits n t acc):=by intro n;induction n with|zero=>exactλ_ _ h=>h|succ n a=>exactλt acc h=>a _ _ (h.push (kz _ _))
def zh(f e){a A}(h:VsR π a A):(SR S (ai P fs) P) VQ π (Extern.BytealgMakeNoZero.makeNoZero f e a) (Extern.BytealgMakeNoZero.makeNoZero f e A):=by
 have c:=h.toList;obtain⟨a⟩:=a;obtain⟨A⟩:=A;simp only[]at c;cases c with
 |nil=>exact aq
 |cons g c=>
 cases c with
 |cons=>exact aq
 |nil=>
 cases g with
 |int k n=>(cases k<;>first|exact aq|skip);unfold Extern.BytealgMakeNoZero.makeNoZero;cases e[0]? with|none=>exact aq|some t=>(refine(aA t).bind ?_;rintro i q d _ ⟨rfl,_⟩;cases d<;>first|exact aq|skip);refine cZ (.never (aB (aF _))) ?_;refine(eE _).bind ?_;rintro j r cap _ rfl;refine(qR _).bind ?_;intro l s _ _ _;refine(eE _).bind ?_;rintro m u b _ rfl;refine(iT _ (fH (yb _ _ _ .empty))).bind ?_;intro o v a A p;exact aj (.slice _ _ p)
 |_=>exact aq
def zi(a:∀g,S.dB g=true->π g g)(n)(b:∀g,P.globals.findIdx? (·.name==n)=some g->S.dB g=true):(SR S (ai P fs) P) AQ π (globalAddr n) (globalAddr n):=by unfold globalAddr;refine bY.bind ?_;rintro c d _ _ ⟨rfl,rfl⟩;rw[show(ai P fs).globals=P.globals from rfl];cases h:P.globals.findIdx? (·.name==n)with|none=>exact aq|some g=>exact aj (.mk (d _ _ (a g (b g h))))
def Ks(k:∀g,S.dB g=true->π g g)(l:∀g,P.globals.findIdx? (·.name== "internal/bytealg.MaxLen")=some g->S.dB g=true){a A}(h:VsR π a A):(SR S (ai P fs) P) VQ π (Extern.BytealgIndex.index a) (Extern.BytealgIndex.index A):=by have d:=h.toList;obtain⟨a⟩:=a;obtain⟨A⟩:=A;simp only[]at d;cases d with|nil=>exact aq|cons n d=>cases d with|nil=>exact aq|cons o d=>cases d with|cons=>exact aq|nil=>(refine(nF n).bind ?_;rintro p j b _ rfl;refine(nF (o.mono j)).bind ?_;rintro f q c _ rfl;have e:(SR S (ai P fs) P) EqQ f Extern.BytealgIndex.maxLen Extern.BytealgIndex.maxLen:=by unfold Extern.BytealgIndex.maxLen;refine(zi (λg r=>q _ _ (j _ _ (k g r))) _ l).bind ?_;intro i s x X t;refine(rJ t).bind ?_;intro u y v V w;exact jA w);refine e.bind ?_;rintro i s m _ rfl;refine cZ (.never (aB (.halt _))) ?_;refine cZ (.never (aB (.halt _))) ?_;split<;>exact aj (.int _ _)
end
end Go.Tm
namespace Go.Tm
variable {P:Program}
def bD.ended(f:World->Outcome×World×Array Event):bD (λw=>.ended (f w).1 (f w).2.1 (f w).2.2):=bD.no λw=>iF.ended _ _ _
def xz(fr a m b w):iF (dieOf fr a m b w):=by intro g' w' es h c _;unfold dieOf at h;cases h;cases c
def qu(fr m w):iF (endThrow fr m w):=xz _ _ _ _ _
def y9(fr cs d m w):iF (endFatal P fr cs d m w):=by unfold endFatal;dsimp only;split;exact xz _ _ _ _ _;exact iF.ended _ _ _;exact iF.ended _ _ _
def GP(a:kT P)(fr cs d g w):iF (early P fr cs d g w):=by unfold early;simp only[a.follows,a.stepOf,UJ,TS,TP];exact iF.ended _ _ _
def nw(main fr cs v)(a:fr.kind=.normal):bD (λw=>doReturn P main fr cs none v w):=by unfold doReturn;cases cs with|cons c cs=>simp only[a];exact bD.go _ _|nil=>simp only[a];cases main with|false=>exact bD.go _ _|true=>simp only[UJ,TS,TP];cases P.inits.idxOf? fr.fn with|some k=>exact bD.go _ _|none=>exact bD.ended λw=>(.done v,w,_)
def oP(p f):seen p f #[]=#[]:=rfl
def IQ{b}:Result b->Sem b
 | .ok a _=>.pure a
 | .halt h _=>.halt h
def JZ{a}(r:Result a):(IQ r).runT P (Rw r) #[]=(r,#[]):=by cases r<;>rfl
def kA(r):GStep.after #[] r=r:=by cases r<;>simp[GStep.after]
def bD.congr{f g:World->GStep}(h:∀w,f w=g w)(a:bD g):bD f:=by rw[funext h];exact a
def iY{r}(h:iF r):iF (GStep.after #[] r):=by rw[kA];exact h
def kB(f:kT P)(fr cs s)(i:fr.kind=.normal):bD (λw=>stepG.apply P true fr cs none s w):=by
 have b:(fr.kind==CallKind.early)=false:=by rw[i];rfl
 refine bD.congr (λw=>?_) (bD.sem f s fr.fn (λr es=>seen P fr.fn (match r with| .halt .blocked _| .halt .waiting _| .halt (.unsupported (.initOrder _)) _=>#[]|_=>es)) (λr=>stepG.apply P true fr cs none (IQ r) (Rw r)) ?_ ?_);unfold stepG.apply;simp only[TK,b,TS,TP,JZ];generalize s.runT P w #[]=j;obtain⟨r,es⟩:=j;dsimp only;obtain⟨a,w1⟩|⟨h,w1⟩:=r;simp only[oP,kA];cases h with|unsupported u=>cases u<;>simp only[oP,kA]|_=>simp only[oP,kA]
 .intro a
  refine⟨λw es=>rfl,?_⟩;unfold stepG.apply;simp only[TK,b,TS,TP,IQ,Rw,Sem.runT,oP,kA];cases a with
  |callThen d r k wr=>dsimp only;split<;>exact bD.go _ _
  |row r args=>dsimp only;split<;>exact bD.go _ _
  |stack r k=>dsimp only;split<;>exact bD.go _ _
  |recover=>dsimp only;split<;>exact bD.go _ _
  |spawn d=>(refine bD.no λw=>?_;dsimp only;repeat' split);all_goals first|exact qu _ _ _|exactλ_ _ _ h=>by cases h
  |_=>first|exact bD.go _ _|exact bD.no λw _ _ _ h=>by cases h
 intro h
 unfold stepG.apply;simp only[TK,b,TS,TP,IQ,Rw,Sem.runT,oP,kA];cases h with
 |panic v=>exact .inr ⟨λw es=>rfl,bD.go _ _⟩
 |goexit=>exact .inr ⟨λw es=>rfl,bD.go _ _⟩
 |blocked=>exact .inl λw g' w' es h _ e=>by cases h;cases e
 |waiting=>exact .inl λw g' w' es h _ e=>by cases h;cases e
 |exit c=>exact .inl λw=>iY (iF.ended _ _ _)
 |fatal m=>exact .inl λw=>iY (y9 _ _ _ _ _)
 |throw m=>exact .inl λw=>iY (qu _ _ _)
 |unsupported u=>cases u with|initOrder g=>exact .inl λw=>iY (GP f _ _ _ _ _)|_=>exact .inl λw=>iY (iF.ended _ _ _)
 |stuck m=>exact .inl λw=>iY (iF.ended _ _ _)
end Go.Tm

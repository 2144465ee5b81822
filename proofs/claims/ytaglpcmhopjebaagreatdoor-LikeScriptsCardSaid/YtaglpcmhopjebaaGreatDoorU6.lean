import Derived.Calls
import Derived.Test.YtaglpcmhopjebaaGreatDoorU5
set_option linter.all false
set_option maxRecDepth 100000
set_option maxHeartbeats 20000000
namespace Go.Tm
section
variable {S:Kn} {P:Program} {fs:Array Func} {Pr:Nat->Prop} {B₀ B:List Frame} {π:Ren P.globals.size} {w W:World} {d:Nat}
def oH(p main fr c cs v w)(h:fr.kind=.normal):doReturn p main fr (c::cs) none v w=.go ⟨c.finish v,cs,.running,none,none⟩ w:=by simp[doReturn,h]
def oI{f F:Frame}(h:bg S π f F)(main e:Bool){cs CS:List Frame}(t:bt (bg S π) cs CS)(m:cs≠[]){s s':Sem Value}(z:SR S (ah P fs) P VQ π s s')(A:bw S Pr π w W) {gh:Halt->World->GStep} {GH:Halt->World->GStep} (n:∀x w,∃o w' es,gh x w=.ended o w' es):dK S Pr P fs B₀ (rb f::cs.map rb) π w W d (λw=>GStep.after (seen (ah P fs) f.fn (s.runT (ah P fs) w #[]).2) (match(s.runT (ah P fs) w #[]).1 with| .ok v w=>doReturn (ah P fs) main f (cs++B₀) none v w| .halt x w=>gh x w)) (λB=>GStep.after (seen P F.fn (s'.runT P W #[]).2) (match(s'.runT P W #[]).1 with| .ok v w=>doReturn P e F (CS++B) none v w| .halt x w=>GH x w)):=by obtain⟨L,u,D|⟨a,w',i,b,E,ev,p,G,y,H,I,l,J⟩⟩:=z.run (Pr:=Pr) w W #[] #[] d A;refine⟨L,u,.inl λτ g=>?_⟩;obtain⟨x,w',i,e1,N,e3⟩:=D τ g;obtain⟨o,w2,K,e4⟩:=n x w';simp only[e1,e4];trivial;rw[Vw]at y;have M:=t.mono λ_ _ x=>bg.mono l.le x;cases t with|nil=>exact absurd rfl m| @cons c C cs CS q r=>have j:=q.mono l.le;have k:=r.mono λ_ _ x=>bg.mono l.le x;refine⟨L,u,.inr ⟨c.finish a,cs,w',seen (ah P fs) f.fn i++#[],C.finish b,CS,E,seen P F.fn ev++#[],p,λτ g=>?_,?_,I,l,ki J,k,.inl (j.finish H),by rw[mK];exact .inr (.inr ⟨_,rfl⟩)⟩⟩;simp only[G τ g,WJ,oH _ _ _ _ _ _ _ h.kind];rfl;intro B;simp only[y,WJ,oH _ _ _ _ _ _ _ h.Kind];rfl
def ji{f F:Frame}(h:bg S π f F)(main b:Bool){cs CS:List Frame}(j:bt (bg S π) cs CS)(g:f.roundOf≠none->cs≠[])(k:bw S Pr π w W)(jump:Option Code)(m:∀c,jump=some c->S.code c):dK S Pr P fs B₀ (rb f::cs.map rb) π w W d (λw=>match f.roundOf with
   |none=>if jump matches none|some .ret then .go {frame:={f with mode:=.returning},callers:=cs++B₀,status:=.running,dying:=none} w else .ended (.stuck "exit, goto: no such block or label" (f.pos (ah P fs))) w
   |some l=>
    let(r,es):=(Instr.endRound l jump).runT (ah P fs) w #[]
    GStep.after (seen (ah P fs) f.fn es)<|match r with
    | .ok v w=>doReturn (ah P fs) main f (cs++B₀) none v w
    | .halt _ w=>.ended (.stuck "range over a function: no such loop" (f.pos (ah P fs))) w)
  (λB=>match F.roundOf with
   |none=>if jump matches none|some .ret then .go {frame:={F with mode:=.returning},callers:=CS++B,status:=.running,dying:=none} W else .ended (.stuck "exit, goto: no such block or label" (F.pos P)) W
   |some l=>
    let(r,es):=(Instr.endRound l jump).runT P W #[]
    GStep.after (seen P F.fn es)<|match r with
    | .ok v w=>doReturn P b F (CS++B) none v w
    | .halt _ w=>.ended (.stuck "range over a function: no such loop" (F.pos P)) w):=by
 have n:=h.round;have i:rb f=f.roundOf.isSome:=rfl;generalize f.roundOf=a at*;generalize F.roundOf=A at*;cases n with
 |none=>
  rw[i];have o:Ko S P fs π cs ⟨f.fn,f.tmps,f.todo,f.defers,.returning,f.kind,none⟩ ⟨F.fn,F.tmps,F.todo,F.defers,.returning,F.kind,none⟩:=.inl ⟨h.fn,h.ent,h.tmps,h.todo,h.defers,rfl,.inr rfl,h.kind,h.Kind,.none⟩
  have e:=dK.still (Pr:=Pr) (B₀:=B₀) (st:=Option.isSome (none:Option Nat)::cs.map rb) (d:=d) (ev:=#[]) k j o (.inl rfl) #[] (by simp);cases jump with
  |none=>exact e
  |some c=>cases c<;>first|exact e|exact .xG λτ=>trivial
 |some p=>exact oI h main b j (g (by simp)) (Et p jump m) k λx w=>⟨_,_,_,rfl⟩
def qj(fr:Frame)(g l):resolve fr.eval {callee:=.value g,args:=#[.const (.func (.yield l) #[] #[])],argTypes:=#[]} 0=Deferred.ofValue (fr.eval g) #[.func (.yield l) #[] #[]]:=by simp[resolve,Frame.eval]
def Ho(p q w):(choose q).run p w=if q.forced then .ok 0 w else .ok (q.cut (w.tape w.drawn q)) {w with drawn:=w.drawn+1}:=by simp only[choose,Sem.run]
def Ci(ht:Tab S P fs)(hG:∀g,S.dF g=true->π g g){f F}(h:bg S π f F)(hm:f.mode=.run)(main p){cs CS}(H:bt (bg S π) cs CS)(Q:f.roundOf≠none->cs≠[])(hR:S.calm (W.tape W.drawn))(I:bw S Pr π w W):dK S Pr P fs B₀ (rb f::cs.map rb) π w W d (λw=>stepG.exec (ah P fs) main true f (cs++B₀) none w) (λB=>stepG.exec P p true F (CS++B) none W):=by
 have R:=h.eval hG;have J:=h.todo;obtain⟨fn,tmps,todo,defers,mode,kind,ro⟩:=f;obtain⟨FN,r,ba,n,A,C,RO⟩:=F;simp only[]at J hm;subst hm;have to:∀{t T:List Item},bt (fv S π) t T->dK S Pr P fs B₀ (ro.isSome::cs.map rb) π w W d (λw=>.go ⟨⟨fn,tmps,t,defers,.run,kind,ro⟩,cs++B₀,.running,none,none⟩ w) (λB=>.go ⟨⟨FN,r,T,n,A,C,RO⟩,CS++B,.running,none,none⟩ W):=λ{t T} ak=>by have O:Ko S P fs π cs ⟨fn,tmps,t,defers,.run,kind,ro⟩ ⟨FN,r,T,n,A,C,RO⟩:=.inl ⟨h.fn,h.ent,h.tmps,ak,h.defers,h.mode,h.calm,h.kind,h.Kind,h.round⟩;exact dK.still (ev:=#[]) I H O (.inl rfl) #[] (by simp)
 unfold stepG.exec;cases J with
 |nil=>exact ji h main p H Q I none (λc h=>by cases h)
 | @cons x X k K hx s=>
  cases hx with
  | @code c m=>
   cases c with
   |skip=>exact to s
   |label=>exact to s
   |ret=>exact ji h main p H Q I (some .ret) (λc h=>by cases h;rfl)
   |refuse=>exact .xG λτ=>trivial
   |seq a b=>simp only[iO,Un]at m;exact to (.cons (.code m.1) (.cons (.code m.2) s))
   |block E b=>exact to (.cons (.same m) (.cons (.inBlock E) s))
   |loop b=>exact to (.cons (.same m) (.cons (.inLoop m) s))
   |scope b=>exact to (.cons (.same m) (.cons (.inScope m) s))
   |cond x a b=>simp only[iO,codeOk,Un]at m;simp only[gS]at R⊢;have hv:=R x m.1.1;generalize Frame.eval _ x=v at*;generalize Frame.eval _ x=V at*;cases hv with|bool b'=>cases b';exact to (.cons (.same m.2) s);exact to (.cons (.same m.1.2) s)|_=>exact .xG λτ=>trivial
   |exit E=>have he:=Hj E s;simp only[gS];generalize exitTo E k=u at*;generalize exitTo E K=v at*;cases he with|none=>exact ji h main p H Q I (some (.exit E)) (λc h=>by cases h;rfl)|some he=>exact to he
   |goto l=>have he:=Hk l s;simp only[gS];generalize gotoIn l k=u at*;generalize gotoIn l K=v at*;cases he with|none=>exact ji h main p H Q I (some (.goto l)) (λc h=>by cases h;rfl)|some he=>exact to he
   |region E ops ab=>(have D:∀o∈ops,opD S o.op=true:=by simp only[iO]at m;rw[V8]at m;exact m);cases ab with|false=>have e:=to (.cons (.inRegion (List.range ops.size) D) s);simp only[gS,VI];exact e|true=>have an:FN=fn:=h.fn;subst an;simp only[gS,Ho,xF];by_cases hq:(Question.order FN E).forced=true;simp only[hq,Us];exact to (.cons (.inRegion _ D) s);simp only[hq,Uy];(have O:∀t,bg S π ⟨FN,tmps,.inRegion (ops.map cT) t::k,defers,.run,kind,ro⟩ ⟨FN,r,.inRegion ops t::K,n,A,C,RO⟩:=λt=>⟨h.fn,h.ent,h.tmps,.cons (.inRegion t D) s,h.defers,h.mode,h.calm,h.kind,h.Kind,h.round⟩);refine⟨[only (.order FN E) (W.tape W.drawn (.order FN E))],by simpa using Ga (show S.ent FN=true from h.ent) hR E,.inr ⟨_,cs,w,#[],_,CS,_,#[],π,λτ q=>?_,λ_=>rfl,I.heap rfl rfl,Chg.heap rfl rfl rfl rfl,by simp,H,.inl (O _),.inl rfl⟩⟩;simp only[show(av w τ d).tape (av w τ d).drawn (.order FN E)=W.tape W.drawn (.order FN E)from(congrFun q.head _).trans (tt _ _)];rfl
   |rangeFunc g params a b=>simp only[iO,codeOk,Un]at m;simp only[gS]at h R⊢;obtain rfl:fn=FN:=h.fn.symm;obtain⟨L,hL,hh|⟨x,w',G,X,W',ev,M,h1,h2,h3,h4,N,h6⟩⟩:=(Ch (S:=S) (P:=P) (fs:=fs) h.ent h.tmps params m.1.2 m.2 h.round).run (Pr:=Pr) w W #[] #[] d I;refine⟨L,hL,.inl λτ q=>?_⟩;obtain⟨y,w',G,e1,e2,e3⟩:=hh τ q;simp only[e1];exact jN.after _ trivial;rw[Vw]at h2;(obtain⟨l,mk⟩:=x;obtain⟨LL,MK⟩:=X;obtain⟨Z,ad⟩:=h3;simp only[]at Z ad;have U:=s.mono λ_ _ x=>fv.mono N.le x;have z:=h.mono N.le;have O:bg S M ⟨fn,tmps,.inRangeFunc l::k,mk++defers,.run,kind,ro⟩ ⟨fn,r,.inRangeFunc LL::K,MK++n,A,C,RO⟩:=⟨z.fn,z.ent,z.tmps,.cons (.inRangeFunc Z) U,ad.append z.defers,z.mode,z.calm,z.kind,z.Kind,z.round⟩);have aa:VsR M #[Value.func (.yield l) #[] #[]] #[Value.func (.yield LL) #[] #[]]:=aZ.push aZ.empty (.func (.yield Z) rfl (λi x X h=>by simp at h) rfl (λi x X h=>by simp at h));have hs:=uP (S:=S) ht (λg hg=>N.le _ _ (hG g hg)) ((O.eval λg hg=>N.le _ _ (hG g hg)) g m.1.1) aa;rw[<-qj,<-qj]at hs;obtain⟨L2,af,gg|⟨ao,ar,w2,ax,ay,aM,W2,a1,a6,g1,g2,g3,g4,g5,g6,g7⟩⟩:=mg (B₀:=B₀) (d:=d+L.length) ht O (H.mono λ_ _ x=>bg.mono N.le x) hs h4;refine⟨L++L2,ic hL af,.inl λτ q=>?_⟩;have:=ia q;simp only[h1 τ this.1];exact jN.after _ (gg τ this.2);refine⟨L++L2,ic hL af,.inr ⟨ao,ar,w2,seen (ah P fs) fn G++ax,ay,aM,W2,seen P fn ev++a1,a6,λτ q=>?_,?_,g3,N.trans g4,?_,g6,g7⟩⟩;have:=ia q;simp only[h1 τ this.1];have e:=g1 τ this.2;rw[Wb,<-Uw]at e;exact UQ (GStep.after (seen (ah P fs) fn G)) e;intro B;simp only[h2];exact UQ (GStep.after (seen P fn ev)) (g2 B);intro e he;obtain he|he:=Vf.1 he;exact(h6 e (Ep _ _ _ e he)).mono g4.le;exact g5 e he
  |inBlock=>exact to s
  |inScope=>exact to s
  |inLoop hb=>exact to (.cons (.same hb) (.cons (.inLoop hb) s))
  |inRangeFunc=>exact .xG λτ=>trivial
  | @endRangeFunc l LL Z=>obtain⟨L,hL,hh|⟨a,w',G,b,W',ev,M,h1,h2,h3,h4,N,h6⟩⟩:=(Hl (fs:=fs) Z).run (Pr:=Pr) w W #[] #[] d I;refine⟨L,hL,.inl λτ q=>?_⟩;(obtain⟨x,w',G,e1,e2,e3⟩:=hh τ q;simp only[e1];refine jN.after _ ?_;cases x with|panic v=>exact sI h H e3 v #[]|_=>trivial);rw[Vw]at h2;(obtain⟨rfl,m⟩:=h3;have U:=s.mono λ_ _ x=>fv.mono N.le x;have z:=h.mono N.le;have O:bg S M ⟨fn,tmps,(a.map Item.code).toList++k,defers,.run,kind,ro⟩ ⟨FN,r,(a.map Item.code).toList++K,n,A,C,RO⟩:=by refine⟨z.fn,z.ent,z.tmps,?_,z.defers,z.mode,z.calm,z.kind,z.Kind,z.round⟩;cases a with|none=>exact U|some c=>exact .cons (.same (m c rfl)) U);refine⟨L,hL,.inr ⟨_,cs,w',seen (ah P fs) fn G++#[],_,CS,W',seen P FN ev++#[],M,λτ q=>?_,?_,h4,N,ki h6,H.mono λ_ _ x=>bg.mono N.le x,.inl O,.inl rfl⟩⟩;simp only[h1 τ q];rfl;intro B;simp only[h2];rfl
  |beginRound=>refine mg ht h H (sG ?_) I;have hr:=h.round;simp only[]at hr;cases hr with|none=>exact al|some Z=>exact zm Z
  | @inRegion ops l D=>
   cases l with
   |nil=>exact to s
   |cons i rest=>
    have hy:yielded ops r=yielded ops tmps:=funext λj=>(Es h.tmps ops j).symm;have a7:((((ops.map cT)[i]?).map (Region.wanted · (yielded ops tmps))).getD false)=(((ops[i]?).map (Region.wanted · (yielded ops tmps))).getD false):=by simp only[UK,Option.map_map,Function.comp_def,Ce]
    simp only[zl,hy,a7];cases hb:(((ops[i]?).map (Region.wanted · (yielded ops tmps))).getD false);case true=>
     simp only[Us];unfold stepG.oper;simp only[Frame.oper?,UK];cases ho:ops[i]? with
     |none=>exact .xG λτ=>trivial
     |some o=>
      have ag:=D o (UZ ho);have hs:=Hh ht hG R (λ_=>rfl) (λ_=>rfl) o ag;have key:=mg (B₀:=B₀) (d:=d) ht h H hs I;have Y:=MU o;simp only[UW]
      revert key Y
      generalize cT o=o';intro key Y;obtain⟨bo,op,ty,pos,bp,gd⟩:=o;obtain⟨bb,a8,bq,bk,bm,br⟩:=o';have hr:=h.round;simp only[]at hr Y;subst Y;cases a8<;>first|(simp[opD,A8,kE]at ag;done)|(cases hr<;>exact key)
    case false=>simp only[Uz,Uy];have O:=h.finish (aA.tuple' (.empty:VsR π #[] #[]));exact dK.still (ev:=#[]) I H (.inl O) (by rw[mK];exact .inl rfl) #[] (by simp)
end
section
variable {S:Kn} {P:Program} {fs:Array Func} {Pr:Nat->Prop} {B₀:List Frame} {st:List Bool} {π:Ren P.globals.size} {w W:World} {d:Nat}
def dK.congr{b gs' GS a}(c:∀w,b w=gs' w)(e:GS=a)(h:dK S Pr P fs B₀ st π w W d gs' a):dK S Pr P fs B₀ st π w W d b GS:=by rw[e,funext c];exact h
def Cj(H:Tab S P fs)(M:∀g,S.dF g=true->π g g){f F}(h:bg S π f F)(main i){cs CS}(A:bt (bg S π) cs CS)(j:f.roundOf≠none->cs≠[]) (p:f.mode=.returning->f.defers=[]->cs≠[]) (N:S.calm (W.tape W.drawn)) (C:bw S Pr π w W):dK S Pr P fs B₀ (rb f::cs.map rb) π w W d (λw=>stepG (ah P fs) main ⟨f,cs++B₀,.running,none,none⟩ w) (λB=>stepG P i ⟨F,CS++B,.running,none,none⟩ W):=by
 have e:=h.mode;unfold stepG;obtain hm|hm:=h.calm;rw[hm]at e;simp only[hm,e];exact Ci H M h hm main i A j N C;rw[hm]at e
 simp only[hm,e];unfold unwind;have m:=h.defers;cases n:f.defers with
 |nil=>
  rw[n]at m;cases k:F.defers with
  |cons=>rw[k]at m;cases m
  |nil=>
   simp only[hm,e];obtain⟨_,g,c,e1,I,_,O,E⟩:=H.ent _ h.ent;rw[h.fn];simp only[show(ah P fs).funcs=fs from rfl,e1,I];have q:∀t,results {g with body:=some (gS c)} t=results g t:=λ_=>rfl;simp only[q];have key:=oI (Pr:=Pr) (B₀:=B₀) (d:=d) (fs:=fs) h main i A (p hm n) (qZ g h.tmps) C
    (gh:=λx w=>match x with| .stuck s=>.ended (.stuck s (f.pos (ah P fs))) w|_=>.ended (.stuck "return: the result variables cannot be read" (f.pos (ah P fs))) w)
    (GH:=λx w=>match x with| .stuck s=>.ended (.stuck s (F.pos P)) w|_=>.ended (.stuck "return: the result variables cannot be read" (F.pos P)) w)
    (λx w=>by cases x<;>exact⟨_,_,_,rfl⟩)
   refine dK.congr ?_ ?_ key;intro w;(generalize (results g f.tmps).runT (ah P fs) w #[]=r;obtain⟨r,es⟩:=r;cases r with|ok=>rfl|halt x=>cases x<;>rfl);funext B;rw[<-h.fn];generalize (results g F.tmps).runT P W #[]=r;obtain⟨r,es⟩:=r;cases r with|ok=>rfl|halt x=>cases x<;>rfl
 |cons D ds=>rw[n]at m;cases k:F.defers with|nil=>rw[k]at m;cases m|cons DD Q=>rw[k]at m;cases m with|cons T G=>cases T with| @mk r R U=>simp only[];obtain⟨L,J,V|⟨a,w',u,b,X,ev,v,Y,K,⟨rfl,rfl⟩,Z,z,h6⟩⟩:=(vO (S:=S) (P:=P) (fs:=fs) U).run (Pr:=Pr) w W #[] #[] d C;refine⟨L,J,.inl λτ o=>?_⟩;obtain⟨x,w',u,e1,I,e3⟩:=V τ o;simp only[e1];exact jN.after _ trivial;rw[Vw]at K;(have l:=h.mono z.le;have y:=G.mono λ_ _ x=>pM.mono z.le x;have hf:bg S v {f with defers:=ds} {F with defers:=Q}:=⟨l.fn,l.ent,l.tmps,l.todo,y,l.mode,l.calm,l.kind,l.Kind,l.round⟩);refine⟨L,J,.inr ⟨_,cs,w',seen (ah P fs) f.fn u++#[],_,CS,X,seen P F.fn ev++#[],v,λτ o=>?_,?_,Z,z,ki h6,A.mono λ_ _ x=>bg.mono z.le x,.inl hf,.inl rfl⟩⟩;simp only[Y τ o];rfl;intro B;simp only[K];rfl
end
def aH:Frame:={fn:=0,tmps:=#[],todo:=[.code (.refuse "")],defers:=[{target:=.nil,args:=#[]}],mode:=.run,kind:=.normal}
def Off(ch:List PanicEntry):Prop:=2<=ch.length
inductive Ak(G:Nat):Machine->Prop
 |up {fr:Frame} {cs:List Frame} {w:World} (π:Ren G) (v):fr.mode=.panicking [{v,recovered:=false}]->(∀f∈fr::cs,Marks π f)->Dp π w->(∀f∈cs,f.mode=.run\/f.mode=.returning)->Ak G (lone fr (cs++[aH]) w)
 |low (ch) (w:World):Ak G (lone {aH with mode:=.panicking ch} [] w)
def PF{G m}(h:Ak G m){fr w}(e:m=lone fr [aH] w):fr.mode≠ .returning/\∀ch,Off ch->fr.mode≠ .panicking ch:=by cases h with| @up fr' cs w' π ch b _ _ _=>simp only[lone,Machine.mk.injEq]at e;have a:=e.2.1;simp at a;obtain⟨rfl,_⟩:=a;rw[b];refine⟨by simp,λch c e=>?_⟩;cases e;simp[Off]at c|low ch w'=>simp only[lone,Machine.mk.injEq]at e;have a:=e.2.1;simp at a
def Eu(P r w)(h:∀o,w.heap[r]? =some (.deferred o)->o=none\/o=some []):((Instr.takeDeferred r).runT P w #[]).1=.ok [] {w with heap:=w.heap.setIfInBounds r (.deferred none)}\/∃x w',((Instr.takeDeferred r).runT P w #[]).1=.halt x w':=by unfold Instr.takeDeferred;cases a:w.heap[r]? with|none=>right;simp[getObj,bind,Sem.bind,Sem.run,a]|some o=>cases o with|deferred o=>obtain rfl|rfl:=h o a;right;simp[getObj,bind,Sem.bind,Sem.run,a,stuck];left;simp[getObj,bind,Sem.bind,Sem.run,a,setObj,pure]|_=>right;simp[getObj,bind,Sem.bind,Sem.run,a,stuck]
def Kq{G P m}(h:Ak G m):(∃o w,step P m=.ended o w)\/∃m',step P m=.next m'/\Ak G m':=by
 cases h with
 |low ch w=>refine .inl ⟨_,_,step_lone_ended (o:=?_) (w':=w) ?_⟩;rotate_left;simp[stepG,unwind,callDeferred,aH,GStep.bare];rfl
 | @up fr cs w π v0 l n p a=>
  have g:=n fr (.head _);cases b:fr.defers with
  |nil=>
   by_cases d:fr.catches P=true
   ·refine .inl ⟨_,_,step_lone_ended (o:=?_) (w':=w) ?_⟩;(rotate_left);simp[stepG,unwind,b,l,d,GStep.bare];rfl
   cases cs with|nil=>refine .inr ⟨_,step_lone_go (fr':={aH with mode:=.panicking [{v:=v0,recovered:=false}]}) (cs':=[]) (w':=w) ?_,.low _ w⟩;simp[stepG,unwind,b,l,d,GStep.bare,Frame.raise,aH]|cons c cs=>have s:=n c (.tail _ (.head _));refine .inr ⟨_,step_lone_go (fr':=c.raise [{v:=v0,recovered:=false}]) (cs':=cs++[aH]) (w':=w) ?_,?_⟩;simp[stepG,unwind,b,l,d,GStep.bare];(have e:c.raise [{v:=v0,recovered:=false}]={c with mode:=.panicking [{v:=v0,recovered:=false}]}:=by unfold Frame.raise;rcases a c (.head _)with x|x<;>rw[x]);rw[e];refine .up π v0 rfl (λf g=>?_) p λf g=>a f (.tail _ g);cases g with|head=>exact s|tail _ g=>exact n f (.tail _ (.tail _ g))
  |cons D ds=>obtain⟨r,R,rfl,t⟩:=g D (by rw[b];exact .head _);have j:=Eu P r w λo i=>p r R o t i;obtain e|⟨x,w',e⟩:=j;refine .inr ⟨_,step_lone_go (fr':={fr with defers:=ds}) (cs':=cs++[aH]) (w':={w with heap:=w.heap.setIfInBounds r (.deferred none)}) ?_,?_⟩;simp only[stepG,l,unwind,b,e];rfl;refine .up π v0 l (λf k=>?_) ?_ a;(cases k with|head=>exactλD u=>g D (by rw[b];exact .tail _ u)|tail _ k=>exact n f (.tail _ k));intro y R' o q i;simp only[UY]at i;split at i;split at i;cases i;exact .inl rfl;cases i;exact p y R' o q i;refine .inl ⟨_,_,step_lone_ended (o:=?_) (w':=w') ?_⟩;(rotate_left);simp only[stepG,l,unwind,b,e];rfl
def Hp{G P}:∀(n) {m},Ak G m->∀{fr} {w},runN P n m=.next (lone fr [aH] w)->fr.mode≠ .returning/\∀ch,Off ch->fr.mode≠ .panicking ch:=by intro n;induction n with|zero=>intro m h fr w e;exact PF h (by simpa[runN]using e)|succ n c=>(intro m h fr w e;unfold runN at e;rcases Kq (P:=P) h with⟨o,w',a⟩|⟨d,a,b⟩);rw[a]at e;cases e;rw[a]at e;exact c b e
structure Gh where
 fr:Frame
 cs:List Frame
 w:World
def Gh.AtE(c:Gh):Prop:=c.cs=[]/\c.fr.mode=.returning/\c.fr.defers=[]
def Gh.Flat(c:Gh):Prop:=∀b,(rb c.fr::c.cs.map rb).getLast?=some b->b=false
def Ends(P:Program)(Post:Value->World->Prop)(fr:Frame)(w':World):Prop:=(∃v,fr.leaving P w' (.returned v)/\Post v w')\/∃ch,Off ch/\fr.mode=.panicking ch/\fr.defers=[]
def Ends.MY{P Post fr w'}(h:Ends P Post fr w')(a:fr.mode≠ .returning/\∀ch,Off ch->fr.mode≠ .panicking ch):False:=by obtain⟨v,h,_⟩|⟨ch,b,h,_⟩:=h;exact a.1 h.1;exact a.2 ch b h
def sJ{P a fr x xs w0 w' ch}(g:a.mode=.panicking ch)(i:a.defers=[]):∀{n},runN P (n+1) (lone a [aH] w0)=.next (lone fr (x::xs) w')->False:=by
 intro n h;unfold runN at h;by_cases b:a.catches P=true
 ·have:∃o w2,step P (lone a [aH] w0)=.ended o w2:=by refine⟨_,_,step_lone_ended (o:=?_) (w':=w0) ?_⟩;rotate_left;simp[stepG,unwind,i,g,b,GStep.bare];rfl
  obtain⟨o,w2,c⟩:=this;rw[c]at h;cases h
 obtain⟨f,d⟩:=ex ({aH with mode:=.panicking ch});have c:step P (lone a [aH] w0)=.next (lone f [] w0):=by refine step_lone_go ?_;simp[stepG,unwind,i,g,b,GStep.bare,Frame.raise,aH,d]
 rw[c]at h;change runN P n (lone f [] w0)=_ at h;cases n with|zero=>have e:=Stepped.next.inj h;simp only[lone,Machine.mk.injEq]at e;have:=e.2.1;simp at this|succ n=>(unfold runN at h;have:∃o w2,step P (lone f [] w0)=.ended o w2:=by refine⟨_,_,step_lone_ended (o:=?_) (w':=w0) ?_⟩;rotate_left;simp[stepG,unwind,callDeferred,aH,GStep.bare,d];rfl);obtain⟨o,w2,c⟩:=this;rw[c]at h;cases h
def Gd(S:Kn)(P:Program)(Post:Value->World->Prop)(c:Gh):Prop:=(∀n,c.w.drawn<=n->S.fS (c.w.tape n))/\∀τ,(∀n<c.w.drawn,τ n=c.w.tape n)->(∀n,c.w.drawn<=n->S.fS (τ n))->∃n fr w',runN P n (lone c.fr (c.cs++[aH]) (av c.w τ c.w.drawn))=.next (lone fr [aH] w')/\Ends P Post fr w'
def Nx(S:Kn)(P:Program)(c c':Gh):Prop:=c.w.drawn<=c'.w.drawn/\(∀n,c.w.drawn<=n->S.fS (c'.w.tape n))/\(∀n<c.w.drawn,c'.w.tape n=c.w.tape n)/\∃es,∀τ,(∀n<c'.w.drawn,τ n=c'.w.tape n)->stepG P true ⟨c.fr,c.cs++[aH],.running,none,none⟩ (av c.w τ c.w.drawn)=.go ⟨c'.fr,c'.cs++[aH],.running,none,none⟩ (av c'.w τ c'.w.drawn) es
def Nx.step{S P c c'}(h:Nx S P c c'){τ}(a:∀n<c'.w.drawn,τ n=c'.w.tape n):step P (lone c.fr (c.cs++[aH]) (av c.w τ c.w.drawn))=.next (lone c'.fr (c'.cs++[aH]) (av c'.w τ c'.w.drawn)):=by obtain⟨_,_,_,es,b⟩:=h;exact step_lone_go (by rw[b τ a];rfl)
def jC{fr fr' cs cs' w w'}(h:lone fr cs w=lone fr' cs' w'):fr=fr'/\cs=cs'/\w=w':=by simp only[lone,Machine.mk.injEq]at h;obtain⟨b,a,_⟩:=h;simp at a;exact⟨a.1,a.2,b⟩
def MZ{P}{c:Gh}{fr w w' v}(h:lone c.fr (c.cs++[aH]) w=lone fr [aH] w')(a:fr.leaving P w' (.returned v)):c.AtE:=by obtain⟨rfl,b,_⟩:=jC h;obtain⟨d,e,_⟩:=a;exact⟨by simpa using b,d,e⟩
def Am{S P Post c c' fr w' τ}(f:Nx S P c c')(g:∀n<c'.w.drawn,τ n=c'.w.tape n)(h:¬c.AtE)(d:lone c.fr (c.cs++[aH]) (av c.w τ c.w.drawn)=lone fr [aH] w')(a:Ends P Post fr w'):False:=by obtain⟨v,a,_⟩|⟨ch,_,i,j⟩:=a;exact h (MZ d a);have b:=f.step g;(rw[d]at b;have:∃x xs,c'.cs++[aH]=x::xs:=by cases c'.cs<;>exact⟨_,_,rfl⟩);obtain⟨x,xs,e⟩:=this;rw[e]at b;refine sJ (n:=0) i j (x:=x) (xs:=xs) (fr:=c'.fr) (w0:=w') (w':=av c'.w τ c'.w.drawn) (P:=P) ?_;unfold runN;rw[b];rfl
def Gd.next{S P Post c c'}(h:Gd S P Post c)(a:Nx S P c c')(i:¬c.AtE):Gd S P Post c':=by (refine⟨λn b=>a.2.1 n (Uf a.1 b),λτ e j=>?_⟩;have k:∀n<c.w.drawn,τ n=c.w.tape n:=λn d=>(e n (Ui d a.1)).trans (a.2.2.1 n d);have l:∀n,c.w.drawn<=n->S.fS (τ n):=λn b=>by obtain x|x:=Uh n c'.w.drawn;rw[e n x];exact a.2.1 n b;exact j n x);obtain⟨n,fr,w',f,g⟩:=h.2 τ k l;cases n with|zero=>exact(Am a e i (by simpa[runN]using f) g).elim|succ n=>unfold runN at f;rw[a.step e]at f;exact⟨n,fr,w',f,g⟩
def mL{c:Type}{r a}(h:¬Acc r a):∃f:Nat->c,f 0=a/\∀n,r (f (n+1)) (f n):=by (have b:∀x:{x:c//¬Acc r x},∃y:{x:c//¬Acc r x},r y.1 x.1:=by intro⟨x,i⟩;apply Vq;intro d;refine i ⟨x,λy j=>?_⟩;exact Vq λe=>d ⟨⟨y,e⟩,j⟩);let g:Nat->{x:c//¬Acc r x}:=λn=>Nat.rec ⟨a,h⟩ (λ_ x=>(b x).choose) n;refine⟨λn=>(g n).1,rfl,λn=>?_⟩;exact(b (g n)).choose_spec
def Gd.acc{S P Post c}(h:Gd S P Post c):Acc (λc' c=>Nx S P c c'/\¬c.AtE) c:=by (apply Vq;intro r;obtain⟨f,y,g⟩:=mL r;have s:∀n k,(f n).w.drawn<=(f (n+k)).w.drawn:=by intro n k;induction k with|zero=>exact Ue _|succ k j=>exact Uf j (g (n+k)).1.1);(have o:∀n k i,i<(f n).w.drawn->(f (n+k)).w.tape i=(f n).w.tape i:=by intro n k;induction k with|zero=>intro i _;rfl|succ k j=>intro i hi;exact((g (n+k)).1.2.2.1 i (Ui hi (s n k))).trans (j i hi));(have t:∀n m i,i<(f n).w.drawn->i<(f m).w.drawn->(f n).w.tape i=(f m).w.tape i:=by intro n m i q z;obtain hnm|hnm:=Xc n m;obtain⟨k,rfl⟩:=WN hnm;exact(o n k i q).symm;obtain⟨k,rfl⟩:=WN hnm;exact o m k i z);(let τ:Nat->Question->Nat:=λi=>open Classical in if h:∃n,i<(f n).w.drawn then(f h.choose).w.tape i elseλ_=>0);(have e:∀n i,i<(f n).w.drawn->τ i=(f n).w.tape i:=by (intro n i hi;have d:∃n,i<(f n).w.drawn:=⟨n,hi⟩);show(open Classical in if h:∃n,i<(f n).w.drawn then(f h.choose).w.tape i elseλ_=>0)=_;rw[VX d];exact t _ _ i d.choose_spec hi);(have l:∀n i,(f 0).w.drawn<=i->i<(f n).w.drawn->S.fS ((f n).w.tape i):=by intro n;induction n with|zero=>intro i a b;omega|succ n j=>intro i a b;obtain x|x:=Uh i (f n).w.drawn;rw[(g n).1.2.2.1 i x];exact j i a x;exact(g n).1.2.1 i x);(have p:∀i,(f 0).w.drawn<=i->S.fS (τ i):=by intro i hi;by_cases d:∃n,i<(f n).w.drawn;obtain⟨n,q⟩:=d;rw[e n i q];exact l n i hi q;show S.fS (open Classical in if h:∃n,i<(f n).w.drawn then(f h.choose).w.tape i elseλ_=>0);rw[dif_neg d];exact mz);(subst y;obtain⟨N,fr,w',v,A⟩:=h.2 τ (e 0) p;have u:∀n k,runN P n (lone (f k).fr ((f k).cs++[aH]) (av (f k).w τ (f k).w.drawn))=.next (lone (f (k+n)).fr ((f (k+n)).cs++[aH]) (av (f (k+n)).w τ (f (k+n)).w.drawn)):=by intro n;induction n with|zero=>intro k;rfl|succ n j=>intro k;unfold runN;rw[(g k).1.step (e (k+1))];have:=j (k+1);rw[show k+1+n=k+(n+1) by omega]at this;exact this);have:=u N 0;rw[Uo]at this;rw[this]at v;exact Am (g N).1 (e (N+1)) (g N).2 (Stepped.next.inj v) A
def Gd.ends{S P Post c}(h:Gd S P Post c)(y:c.AtE)(k:c.fr.kind=.normal):∃v,c.fr.leaving P c.w (.returned v)/\Post v c.w:=by (obtain⟨n,fr,w',d,q⟩:=h.2 c.w.tape (λ_ _=>rfl) h.1;obtain⟨a,z,w0⟩:=c;obtain⟨t,j,l⟩:=y;simp only[]at t j l k d;subst t;have d:runN P n (lone a [aH] w0)=.next (lone fr [aH] w'):=d);cases n with|zero=>obtain⟨rfl,_,rfl⟩:=jC (Stepped.next.inj d);obtain q|⟨ch,_,u,_⟩:=q;exact q;rw[j]at u;cases u|succ n=>(exfalso;have f:∀n w1,runN P n (lone aH [] w1)≠ .next (lone fr [aH] w'):=by intro n w1;cases n with|zero=>intro e;have:=(jC (Stepped.next.inj e)).2.1;simp at this|succ n=>(intro e;unfold runN at e;have:∃o w2,step P (lone aH [] w1)=.ended o w2:=by refine⟨_,_,step_lone_ended (o:=?_) (w':=w1) ?_⟩;rotate_left;simp[stepG,stepG.exec,aH,GStep.bare];rfl);obtain⟨o,w2,m⟩:=this;rw[m]at e;cases e);(unfold runN at d;have i:(∃o w2,step P (lone a [aH] w0)=.ended o w2)\/∃w1,step P (lone a [aH] w0)=.next (lone aH [] w1):=by cases p:P.funcs[a.fn]? with|none=>refine .inr ⟨w0,step_lone_go ?_⟩;simp[stepG,unwind,doReturn,j,l,k,p,Frame.finish,aH,GStep.bare]|some g=>cases b:(results g a.tmps).runT P w0 #[]with|mk r es=>cases r with|ok v w1=>refine .inr ⟨w1,step_lone_go ?_⟩;simp only[stepG,unwind,doReturn,j,l,k,p,b];rfl|halt x w1=>cases x with|stuck s=>refine .inl ⟨_,_,step_lone_ended (o:=?_) (w':=w1) ?_⟩;rotate_left;simp only[stepG,unwind,doReturn,j,l,k,p,b];rfl|_=>refine .inl ⟨_,_,step_lone_ended (o:=?_) (w':=w1) ?_⟩;rotate_left;simp only[stepG,unwind,doReturn,j,l,k,p,b];rfl);obtain⟨o,w2,m⟩|⟨w1,m⟩:=i;rw[m]at d;cases d;rw[m]at d;exact f n w1 d
section
variable {S:Kn} {P:Program} {fs:Array Func} {Pr:Nat->Prop} {π:Ren P.globals.size} {W:World}
def Ev{L}(a:∀g∈L,S.fS g)(d n):S.fS (lO d L n):=by unfold lO;cases h:L[n-d]? with|none=>exact mz|some g=>exact a g (Vm h)
def py{L}(a:∀g∈L,S.fS g){d}{t:Nat->Question->Nat}:∀n,d<=n->S.fS ((λn=>if n<d then t n else lO d L n) n):=λn b=>by show S.fS (if n<d then t n else lO d L n);rw[Uc (by omega)];exact Ev a d n
def Kr{c c':Gh}(h:c.Flat)(d:Sh (rb c.fr::c.cs.map rb) (rb c'.fr::c'.cs.map rb)):c'.Flat:=by unfold Gh.Flat at*;intro b a;obtain e|⟨x,e⟩|⟨x,e⟩:=d;rw[e]at a;exact h b a;rw[e]at a;refine h b ?_;simpa using a;refine h b ?_;rw[e];rw[XY];exact a
def follow(N:Tab S P fs)(O:∀g,S.dF g=true->π g g){Post c F CS}(h:bg S π c.fr F)(Q:bt (bg S π) c.cs CS)(R:bw S Pr π c.w W)(b:c.Flat) (I:Gd S (ah P fs) Post c) (m:¬c.AtE) (T:S.calm (W.tape W.drawn)) (f):∃(c':Gh) (z:Frame) (j:List Frame) (q:World) (ev:Array Event) (a:Ren P.globals.size),Nx S (ah P fs) c c'/\Gd S (ah P fs) Post c'/\(∀B,stepG P f ⟨F,CS++B,.running,none,none⟩ W=.go ⟨z,j++B,.running,none,none⟩ q ev)/\bw S Pr a c'.w q/\Chg Pr π W q a/\(∀e∈ev,lu Pr a e)/\bt (bg S a) c'.cs j/\Ko S P fs a c'.cs c'.fr z/\c'.Flat:=by
 have k:c.fr.roundOf≠none->c.cs≠[]:=by intro l C;have:=b (rb c.fr) (by rw[C];rfl);unfold rb at this;cases hx:c.fr.roundOf<;>simp_all
 have s:c.fr.mode=.returning->c.fr.defers=[]->c.cs≠[]:=λU V X=>m ⟨X,U,V⟩;obtain⟨L,J,Y|⟨fr',cs',w',es,z,j,q,ev,a,Z,g2,g3,g4,g5,g6,g7,g8⟩⟩:=Cj (B₀:=[aH]) (d:=c.w.drawn) N O h true f Q k s T R;exfalso;let τ:Nat->Question->Nat:=λn=>if n<c.w.drawn then c.w.tape n else lO c.w.drawn L n
 have D:Fits τ c.w.drawn L:=λi g hi=>by show(if c.w.drawn+i<c.w.drawn then _ else _)=g;rw[Uc (by omega)];exact lz c.w.drawn L i g hi
 obtain⟨n,fr,w',l,A⟩:=I.2 τ (λn E=>Ud E) (py J);have p:jN P.globals.size [aH] (stepG (ah P fs) true ⟨c.fr,c.cs++[aH],.running,none,none⟩ (av c.w τ c.w.drawn)):=Y τ D;cases n with
 |zero=>obtain⟨v,A,_⟩|⟨ch,_,hm,_⟩:=A;exact m (MZ (Stepped.next.inj l) A);have t:=h.calm;rw[(jC (Stepped.next.inj l)).1,hm]at t;rcases t with x|x<;>cases x
 |succ n=>unfold runN at l;generalize u:stepG (ah P fs) true ⟨c.fr,c.cs++[aH],.running,none,none⟩ (av c.w τ c.w.drawn)=r at p;cases r with|ended o w2 G=>rw[step_lone_ended (by rw[u];rfl)]at l;cases l|go g w2 G=>obtain⟨H,aa,e1,K,e3,e4,⟨ch,e5⟩,e6,e7,e8⟩:=p;obtain⟨gf,gc,gs,gd,go⟩:=g;simp only[]at e1 K e3 e4 e5 e6;subst e1 K e3 e4;rw[step_lone_go (by rw[u];rfl)]at l;exact A.MY (Hp n (.up H ch e5 e6 e7 e8) l)|_=>exact p
 let τ:Nat->Question->Nat:=λn=>if n<c.w.drawn then c.w.tape n else lO c.w.drawn L n
 have M:Nx S (ah P fs) c ⟨fr',cs',av w' τ (c.w.drawn+L.length)⟩:=by (refine⟨XG _ _,py J,λn E=>Ud E,es,λy h'=>?_⟩;have hf:Fits y c.w.drawn L:=λi g hi=>by have ab:=(Vl.1 hi).1;rw[h' (c.w.drawn+i) (show c.w.drawn+i<c.w.drawn+L.length by omega)];show(if c.w.drawn+i<c.w.drawn then _ else _)=g;rw[Uc (by omega)];exact lz c.w.drawn L i g hi);exact Z y hf
 exact⟨⟨fr',cs',av w' τ (c.w.drawn+L.length)⟩,z,j,q,ev,a,M,I.next M m,g2,g3.heap rfl rfl,g4,g5,g6,g7,Kr b g8⟩
end
def Ew{S P Post f args w}(b:∀n,w.drawn<=n->S.fS (w.tape n)) (h:∀τ,(∀n<w.drawn,τ n=w.tape n)->(∀n,w.drawn<=n->S.fS (τ n))->Calls P f args (av w τ w.drawn) λe w'=>∃v,e=.returned v/\Post v w'):Gd S P Post ⟨Frame.enter P f args .normal,[],w⟩:=by refine⟨b,λτ c a=>?_⟩;obtain⟨e,w',fr,⟨v,rfl,d⟩,g,_,i⟩:=h τ c a [aH];obtain⟨n,j⟩:=g;exact⟨n,fr,w',j,.inl ⟨v,i,d⟩⟩
def Ck{S P Post f args w}(d:∀n,w.drawn<=n->S.fS (w.tape n)) (h:∀τ,(∀n<w.drawn,τ n=w.tape n)->Calls P f args (av w τ w.drawn) λe w'=>(∃v,e=.returned v/\Post v w')\/∃ch,Off ch/\e=.panicked ch):Gd S P Post ⟨Frame.enter P f args .normal,[],w⟩:=by refine⟨d,λτ g _=>?_⟩;obtain⟨e,w',fr,i,c,_,a⟩:=h τ g [aH];obtain⟨v,rfl,j⟩|⟨ch,k,rfl⟩:=i;obtain⟨n,b⟩:=c;exact⟨n,fr,w',b,.inl ⟨v,a,j⟩⟩;obtain⟨n,b⟩:=c;exact⟨n,fr,w',b,.inr ⟨ch,k,a.1,a.2.1⟩⟩
section
variable {S:Kn} {P:Program} {fs:Array Func} {Pr:Nat->Prop}
structure Cp(S:Kn)(P:Program)(fs:Array Func)(Pr:Nat->Prop)(Post:Value->World->Prop)(π:Ren P.globals.size)(c:Gh)(F:Frame)(CS:List Frame)(W:World):Prop where
 top:bg S π c.fr F
 cs:bt (bg S π) c.cs CS
 w:bw S Pr π c.w W
 flat:c.Flat
 ra:Gd S (ah P fs) Post c
 dF:∀g,S.dF g=true->π g g
def Cp.step(p:Tab S P fs)(i:∀f,S.stop f=false){Post π c F CS W}(h:Cp S P fs Pr Post π c F CS W)(j:¬c.AtE)(q:S.calm (W.tape W.drawn))(main):∃(c':Gh) (l:Frame) (d:List Frame) (k:World) (ev:Array Event) (b:Ren P.globals.size),(Nx S (ah P fs) c c'/\¬c.AtE)/\Cp S P fs Pr Post b c' l d k/\(∀B,stepG P main ⟨F,CS++B,.running,none,none⟩ W=.go ⟨l,d++B,.running,none,none⟩ k ev)/\Chg Pr π W k b/\∀e∈ev,lu Pr b e:=by obtain⟨c',l,d,k,ev,b,r,s,t,u,n,v,x,m,y⟩:=follow p h.dF h.top h.cs h.w h.flat h.ra j q main;refine⟨c',l,d,k,ev,b,⟨r,j⟩,⟨?_,x,u,y,s,λg z=>n.le _ _ (h.dF g z)⟩,t,n,v⟩;obtain m|⟨_,g,a,A,o,_⟩:=m;exact m;rw[i g]at o;cases o
def Cp.Q2(m:Tab S P fs)(a:∀f,S.stop f=false)(b:∀g,S.calm g){Post π c F CS W}(h:Cp S P fs Pr Post π c F CS W):∃(π':Ren P.globals.size) (c':Gh) (n:Frame) (k:World) (v:Value),Cp S P fs Pr Post π' c' n [] k/\c'.AtE/\Post v c'.w/\c'.fr.leaving (ah P fs) c'.w (.returned v)/\Chg Pr π W k π':=by have d:=h.ra.acc;induction d generalizing π F CS W with|intro c _ o=>by_cases j:c.AtE;obtain⟨v,p,q⟩:=h.ra.ends j h.top.kind;have e:=h.cs;rw[j.1]at e;cases e;exact⟨π,c,F,W,v,h,j,q,p,Chg.refl _ _ _⟩;obtain⟨c',E,r,k,ev,π',s,t,_,i,_⟩:=h.step m a j (b _) true;obtain⟨l,u,x,y,v,z,A,B,C,D⟩:=o c' s t;exact⟨l,u,x,y,v,z,A,B,C,i.trans D⟩
def Gd.av{S P Post c}(h:Gd S P Post c){τ:Nat->Question->Nat}(f:∀n<c.w.drawn,τ n=c.w.tape n)(g:∀n,c.w.drawn<=n->S.fS (τ n)):Gd S P Post ⟨c.fr,c.cs,av c.w τ c.w.drawn⟩:=⟨g,λa b d=>h.2 a (λn e=>(b n e).trans (f n e)) d⟩
def Cp.returns(z:Tab S P fs){Post π c F CS W}(h:Cp S P fs Pr Post π c F CS W)(r:c.AtE)(C B main):CS=[]/\∃(v V:Value) (w' m:World) (ev:Array Event) (f:Ren P.globals.size),Post v w'/\w'.heap=c.w.heap/\stepG P main ⟨F,C::B,.running,none,none⟩ W=.go ⟨C.finish V,B,.running,none,none⟩ m ev/\aA f v V/\bw S Pr f w' m/\Chg Pr π W m f/\∀e∈ev,lu Pr f e:=by
 have o:=h.cs;rw[r.1]at o;refine⟨by cases o;rfl,?_⟩;obtain⟨_,g,A,e1,D,_,_,_⟩:=z.ent _ h.top.ent;have s:=qZ (S:=S) (P:=P) (fs:=fs) g h.top.tmps;obtain⟨L,E,G|⟨a,w',t,b,m,ev,f,H,y,I,J,K,M⟩⟩:=s.run (Pr:=Pr) c.w W #[] #[] c.w.drawn h.w;all_goals
  let τ:Nat->Question->Nat:=λn=>if n<c.w.drawn then c.w.tape n else lO c.w.drawn L n
  have p:Fits τ c.w.drawn L:=λi g hi=>by show(if c.w.drawn+i<c.w.drawn then _ else _)=g;rw[Uc (by omega)];exact lz c.w.drawn L i g hi
  have u:∀n<c.w.drawn,τ n=c.w.tape n:=λn N=>Ud N;obtain⟨v,⟨_,_,_,g',k,j⟩,O⟩:=(h.ra.av u (py E)).ends r h.top.kind;simp only[show(ah P fs).funcs=fs from rfl]at k;rw[e1]at k;cases k;rw[show results {g with body:=some (gS A)} c.fr.tmps=results g c.fr.tmps from rfl]at j;have d:((results g c.fr.tmps).runT (ah P fs) (av c.w τ c.w.drawn) #[]).1=.ok v (av c.w τ c.w.drawn):=by rw[<-j];simp
 obtain⟨x,w',t,e,_⟩:=G τ p;rw[e]at d;cases d;rw[H τ p]at d;simp only[Result.ok.injEq]at d;obtain⟨rfl,Q⟩:=d;rw[Vw]at y;refine⟨a,b,av c.w τ c.w.drawn,m,seen P F.fn ev++#[],f,O,rfl,?_,I,?_,K,ki M⟩;have l:=h.top.mode.trans r.2.1;have q:F.defers=[]:=by have:=h.top.defers;rw[r.2.2]at this;cases R:F.defers with|nil=>rfl|cons=>rw[R]at this;cases this
 have T:P.funcs[F.fn]? =some g:=by rw[h.top.fn];exact D
 simp only[stepG,unwind,l,q,T,y,oH _ _ _ _ _ _ _ h.top.Kind];rfl;refine J.heap ?_ rfl;rw[<-Q];rfl
end
section
variable {S:Kn} {P:Program} {fs:Array Func}
structure Eff(Own:Nat->Prop)(W W':World):Prop where
 os:W'.os=W.os
 tape:W'.tape=W.tape
 output:W'.output=W.output
 size:W.heap.size<=W'.heap.size
 keep:∀b,b<W.heap.size->¬Own b->W'.heap[b]? =W.heap[b]?
def Eff.refl(Own W):Eff Own W W:=⟨rfl,rfl,rfl,Ue _,λ_ _ _=>rfl⟩
structure iN(S:Kn)(P:Program)(fs:Array Func)(π₀:Ren P.globals.size)(W₀ wB:World)(Post:Value->World->Prop)(πA πB:Ren P.globals.size)(cA cB:Gh)(F:Frame)(CS:List Frame)(W:World):Prop where
 a:Cp S P fs (λR=>∃r,π₀ r R) Post πA cA F CS W
 b:Cp S P fs (λ_=>False) (λ_ w'=>∀r R,π₀ r R->w'.heap[r]? =wB.heap[r]?) πB cB F CS W
 la:Ren.le π₀ πA
 lb:Ren.le π₀ πB
 base:∀r R,π₀ r R->∃c C e F,wB.heap[r]? =some (.cells c e F)/\W₀.heap[R]? =some (.cells C e F)
 old:∀r R,π₀ r R->W.heap[R]? =W₀.heap[R]?
 same:∀R,(∃r,πA r R)↔∃r,πB r R
def iN.Own(a c:Ren P.globals.size)(b:Nat):Prop:=(∃r,c r b)/\¬∃r,a r b
def wj{π Pr Post c F CS W}(h:Cp S P fs Pr Post π c F CS W):c.AtE↔CS=[]/\F.mode=.returning/\F.defers=[]:=by (unfold Gh.AtE;have a:c.cs=[]↔CS=[]:=by have:=h.cs.length;exact⟨λe=>by rw[e]at this;exact UH this.symm,λe=>by rw[e]at this;exact UH this⟩);(have b:c.fr.defers=[]↔F.defers=[]:=by have:=h.top.defers.length;exact⟨λe=>by rw[e]at this;exact UH this.symm,λe=>by rw[e]at this;exact UH this⟩);rw[a,b,h.top.mode]
def Ao{F₀ a b n}(d:Fle F₀ a)(c:Fle a b)(f:JI n F₀ b):a=F₀:=by (refine Fle.back d ?_;have:b=F₀:=by obtain e|⟨e1,g,e3⟩:=f;exact e;obtain e|⟨h,i⟩:=d.trans c;exact e;refine Prod.ext ?_ ?_<;>omega);rw[this]at c;exact c
def iN.step(V:Tab S P fs)(j:∀f,S.stop f=false)(k:∀g,S.calm g){d l X p wB Post T cB F CS W} (h:iN S P fs d p wB Post l X T cB F CS W) (A:¬T.AtE) (main):∃(πA' m:Ren P.globals.size) (q D:Gh) (U:Frame) (t:List Frame) (u:World) (ev:Array Event),(Nx S (ah P fs) T q/\¬T.AtE)/\iN S P fs d p wB Post πA' m q D U t u/\(∀B,stepG P main ⟨F,CS++B,.running,none,none⟩ W=.go ⟨U,t++B,.running,none,none⟩ u ev)/\Eff (iN.Own d l) W u/\(∀b,iN.Own d l b->iN.Own d πA' b)/\(∀b,iN.Own d πA' b->iN.Own d l b\/W.heap.size<=b)/\(∀b,W.heap.size<=b->b<u.heap.size->iN.Own d πA' b)/\(∀e∈ev,lu (λR=>∃r,d r R) πA' e)/\Chg (λR=>∃r,d r R) l W u πA':=by (have J:¬cB.AtE:=by rw[wj h.b];rw[wj h.a]at A;exact A);(obtain⟨q,U,t,u,ev,πA',a1,a2,a3,n,a5⟩:=h.a.step V j A (k _) main;obtain⟨D,ad,af,W2,ag,m,b1,Y,K,I,b5⟩:=h.b.step V j J (k _) main;have K:=K [];rw[a3 []]at K;simp only[GStep.go.injEq,Goroutine.mk.injEq]at K;obtain⟨⟨e1,e2,_⟩,e3,_⟩:=K;have Z:=List.append_cancel_right e2;subst e1;subst Z;subst e3;have y:∀r R,d r R->u.heap[R]? =p.heap[R]? :=by intro r R i;obtain⟨c,C,e,z,hb,hW⟩:=h.base r R i;obtain⟨F',E⟩:=n.nV R ⟨r,i⟩ C e z (by rw[h.old r R i,hW]);obtain⟨C1,F1,G,aa⟩:=I.fz R C e z (by rw[h.old r R i,hW]);rw[E]at G;simp only[UX,Obj.cells.injEq,true_and]at G;obtain⟨rfl,rfl⟩:=G;obtain⟨ak,c2,F2,We,v,g1,g2,g3,g4,g5⟩:=Y.Q2 V j k;obtain⟨C2,Fe,ab,L⟩:=g5.fz R C e F' E;obtain⟨o,O,ho,hO,M⟩:=g1.w.obj r R (g5.le _ _ (I.le _ _ (h.lb _ _ i)));rw[g3 r R i,hb]at ho;rw[ab]at hO;cases ho;cases hO;cases M with|cells _ _ hf=>rw[E,hW,Ao aa L hf]);(have H:∀R,(∃r,πA' r R)↔∃r,m r R:=by intro R;constructor;rintro⟨r,i⟩;obtain x|x:=n.old r R i;obtain⟨s,hs⟩:=(h.same R).1 ⟨r,x⟩;exact⟨s,I.le _ _ hs⟩;exact I.new R x (a2.w.lt i).2;rintro⟨r,i⟩;obtain x|x:=I.old r R i;obtain⟨s,hs⟩:=(h.same R).2 ⟨r,x⟩;exact⟨s,n.le _ _ hs⟩;exact n.new R x (Y.w.lt i).2);(have N:∀b,iN.Own d l b->iN.Own d πA' b:=λb ⟨⟨r,i⟩,Q⟩=>⟨⟨r,n.le _ _ i⟩,Q⟩);refine⟨πA',m,q,D,U,t,u,ev,a1,⟨a2,Y,Ren.le_trans h.la n.le,Ren.le_trans h.lb I.le,h.base,y,H⟩,a3,⟨n.os,n.tape,n.output,n.size,λb hb Q=>?_⟩,N,λb ⟨⟨r,i⟩,Q⟩=>?_,λb h1 h2=>?_,a5,n⟩;by_cases hp:∃r,l r b;have:∃r,d r b:=Vq λhx=>Q ⟨hp,hx⟩;obtain⟨r,i⟩:=this;rw[y r b i,h.old r b i];exact n.keep b hb hp;obtain x|x:=n.old r b i;exact .inl ⟨⟨r,x⟩,Q⟩;exact .inr x;refine⟨n.new b h1 h2,λ⟨r,i⟩=>?_⟩;have:=(h.a.w.lt (h.la _ _ i)).2;omega
end
end Go.Tm

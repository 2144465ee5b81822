import Derived.Calls
import Derived.Test.YtaglpcmhopjebaaGreatDoorW2
set_option linter.all false
set_option maxRecDepth 100000
set_option maxHeartbeats 20000000
namespace Go.Tm
def M8{e σ:Type}(b:σ->Prop)(f:e->σ->Option (ForInStep σ))(i:∀a s r,b s->f a s=some r->b (match r with| .yield s=>s| .done s=>s)):∀(l:List e) (s s':σ),b s->forIn l s f=some s'->b s':=by intro l;induction l with|nil=>intro s s' d h;simp at h;exact h▸d|cons a l j=>intro s s' d h;rw[Z8]at h;cases c:f a s with|none=>rw[c]at h;cases h|some r=>rw[c]at h;have:=i a s r d c;cases r with|done g=>simp at h;exact h▸this|yield g=>exact j g s' this h
def PZ(i:TypeInfo):Prop:=∀z,i.zero=some z->Plain z
def qC{c}(h:bu c):Plain (.agg c):=λG π=>.IZ ⟨rfl,λi x y a b=>by rw[a]at b;cases b;exact h i x a G π⟩
def bu.app{a b}(c:bu a)(d:bu b):bu (a++b):=λi v h=>by rw[YP]at h;split at h;exact c _ _ h;exact d _ _ h
def EU(e)(n:∀t i,e t=some i->PZ i)(fs i)(h:Made.reckonStruct e fs=some i):PZ i:=by
 unfold Made.reckonStruct at h;simp only[<-Yi,bind,Yc]at h;obtain⟨r,o,l⟩:=h;have k:=M8 (λs:Array Field×Nat×Nat×Nat×Nat×Bool×Bool×Option (WZ)×String=>∀c,s.2.2.2.2.2.2.2.1=some c->bu c) _ (λa s x p f=>?_) fs.toList _ r (λc d=>by cases d;exactλi v q=>by simp at q) o;have u:i.zero=r.2.2.2.2.2.2.2.1.map .agg:=by revert l;simp only[pure];split<;>(intro l;cases l;rfl)
 intro z m;rw[u]at m;obtain⟨c,d,rfl⟩:=Xb.1 m;exact qC (k c d)
 cases g:e a.type with
 |none=>rw[g]at f;cases f
 |some j=>
  rw[g]at f;simp only[YI,pure]at f;have fin:∀c,(if s.2.1+j.size>Made.mostCells then none else s.2.2.2.2.2.2.2.1.bind λa=>j.zero.bind λb=>some (a++b.cells))=some c->bu c:=by intro c d;split at d;cases d;simp only[Yc]at d;obtain⟨w,y,z,A,B⟩:=d;cases B;exact(p w y).app ((n _ _ g z A).cells)
  repeat' split at f
  all_goals simp only[Option.bind_none,Yc,reduceCtorEq,Xo]at f
  all_goals try (exact f.elim)
  all_goals first
   |(subst f;intro c d;first|(cases d;done)|exact fin c d|exact fin c (by rw[Wt (by assumption)];exact d))
   |(obtain⟨C,_,f⟩:=f;subst f;intro c d;first|(cases d;done)|exact fin c d|exact fin c (by rw[Wt (by assumption)];exact d))
def jL(d s z)(a:ic z=true)(c b):PZ (Made.word d s z c b):=by intro e h;have:(Made.word d s z c b).zero=some z:=rfl;rw[this]at h;cases h;exact pZ _ a
def EV{c}(h:bu c)(n):bu (Array.replicate n c).flatten:=by intro i v e;have b:=Xu e;rw[Array.mem_flatten]at b;obtain⟨d,f,a⟩:=b;have:=Array.eq_of_mem_replicate f;subst this;obtain⟨j,g⟩:=Zr.1 a;exact h j v g
def EW(e)(g:∀t i,e t=some i->PZ i)(d i)(h:Made.reckon e d=some i):PZ i:=by cases d<;>simp only[Made.reckon,bind,Yc,pure,reduceCtorEq]at h;obtain⟨a,j,h⟩:=h;split at h;cases h;split at h;cases h;obtain⟨x,_,h⟩:=Yc.1 h;cases h;exact jL _ _ _ rfl _ _;obtain⟨x,_,h⟩:=Yc.1 h;cases h;exact jL _ _ _ rfl _ _;obtain⟨a,_,b,_,h⟩:=h;cases h;exact jL _ _ _ rfl _ _;obtain⟨a,j,b,_,h⟩:=h;cases h;intro z f;simp only[]at f;split at f;cases f;split at f;cases f;(exact qC λi v k=>by simp at k);obtain⟨l,m,rfl⟩:=Xb.1 f;exact qC (EV ((g _ _ j l m).cells) _);obtain⟨a,_,b,_,c,_,d,_,h⟩:=h;cases h;exact jL _ _ _ rfl _ _;obtain⟨a,_,b,_,h⟩:=h;cases h;exact jL _ _ _ rfl _ _;exact EU e g _ i h;obtain⟨a,_,h⟩:=h;cases h;exact jL _ _ _ rfl _ _
def EX(T)(a:∀(t:Nat) i,T.types[t]? =some i->PZ i):∀(f) t i,Made.infoAt T f t=some i->PZ i:=by intro f;induction f with|zero=>intro t i h;cases h|succ f b=>intro t i h;unfold Made.infoAt at h;split at h;exact a t i h;obtain⟨d,_,h⟩:=Yc.1 h;exact EW _ b d i h
def Ko(T:Tables)(a:∀(t:Nat) i,T.types[t]? =some i->PZ i)(t i)(h:T.info? t=some i):PZ i:=by unfold Tables.info? at h;split at h;exact a t i h;exact EX T a _ t i h
section
variable {S:Kn} {P:Program} {fs:Array Func} {Pr:Nat->Prop} {C0 B:List Frame} {π:Ren P.globals.size} {w W:xv} {d:Nat}
def qe(p main fr c cs v w)(h:fr.kind=.normal):doReturn p main fr (c::cs) none v w=.go ⟨c.finish v,cs,.running,none,none⟩ w:=by simp[doReturn,h]
def qg{f F:Frame}(h:bq S π f F)(main e:Bool){cs CS:List Frame}(t:bw (bq S π) cs CS)(m:cs≠[]){s s':Sem x6}(z:SR S (ai P fs) P VQ π s s')(A:bE S Pr π w W) {gh:Halt->xv->GStep} {GH:Halt->xv->GStep} (n:∀x w,∃o w' es,gh x w=.ended o w' es):dX S Pr P fs C0 (rb f::cs.map rb) π w W d (λw=>GStep.after (seen (ai P fs) f.fn (s.runT (ai P fs) w #[]).2) (match(s.runT (ai P fs) w #[]).1 with| .ok v w=>doReturn (ai P fs) main f (cs++C0) none v w| .halt x w=>gh x w)) (λB=>GStep.after (seen P F.fn (s'.runT P W #[]).2) (match(s'.runT P W #[]).1 with| .ok v w=>doReturn P e F (CS++B) none v w| .halt x w=>GH x w)):=by obtain⟨L,u,D|⟨a,w',i,b,E,ev,p,G,y,H,I,l,J⟩⟩:=z.run (Pr:=Pr) w W #[] #[] d A;refine⟨L,u,.inl λτ g=>?_⟩;obtain⟨x,w',i,e1,N,e3⟩:=D τ g;obtain⟨o,w2,K,e4⟩:=n x w';simp only[e1,e4];trivial;rw[XY]at y;have M:=t.mono λ_ _ x=>bq.mono l.le x;cases t with|nil=>exact absurd rfl m| @cons c C cs CS q r=>have j:=q.mono l.le;have k:=r.mono λ_ _ x=>bq.mono l.le x;refine⟨L,u,.inr ⟨c.finish a,cs,w',seen (ai P fs) f.fn i++#[],C.finish b,CS,E,seen P F.fn ev++#[],p,λτ g=>?_,?_,I,l,ly J,k,.inl (j.finish H),by rw[nR];exact .inr (.inr ⟨_,rfl⟩)⟩⟩;simp only[G τ g,Zk,qe _ _ _ _ _ _ _ h.kind];rfl;intro B;simp only[y,Zk,qe _ _ _ _ _ _ _ h.Kind];rfl
def jS{f F:Frame}(h:bq S π f F)(main b:Bool){cs CS:List Frame}(j:bw (bq S π) cs CS)(g:f.roundOf≠none->cs≠[])(k:bE S Pr π w W)(jump:Option Code)(m:∀c,jump=some c->S.code c):dX S Pr P fs C0 (rb f::cs.map rb) π w W d (λw=>match f.roundOf with
   |none=>if jump matches none|some .ret then .go {frame:={f with mode:=.returning},callers:=cs++C0,status:=.running,dying:=none} w else .ended (.stuck "exit, goto: no such block or label" (f.pos (ai P fs))) w
   |some l=>
    let(r,es):=(Instr.endRound l jump).runT (ai P fs) w #[]
    GStep.after (seen (ai P fs) f.fn es)<|match r with
    | .ok v w=>doReturn (ai P fs) main f (cs++C0) none v w
    | .halt _ w=>.ended (.stuck "range over a function: no such loop" (f.pos (ai P fs))) w)
  (λB=>match F.roundOf with
   |none=>if jump matches none|some .ret then .go {frame:={F with mode:=.returning},callers:=CS++B,status:=.running,dying:=none} W else .ended (.stuck "exit, goto: no such block or label" (F.pos P)) W
   |some l=>
    let(r,es):=(Instr.endRound l jump).runT P W #[]
    GStep.after (seen P F.fn es)<|match r with
    | .ok v w=>doReturn P b F (CS++B) none v w
    | .halt _ w=>.ended (.stuck "range over a function: no such loop" (F.pos P)) w):=by
 have n:=h.round;have i:rb f=f.roundOf.isSome:=rfl;generalize f.roundOf=a at*;generalize F.roundOf=A at*;cases n with
 |none=>
  rw[i];have o:Mq S P fs π cs ⟨f.fn,f.tmps,f.todo,f.defers,.returning,f.kind,none⟩ ⟨F.fn,F.tmps,F.todo,F.defers,.returning,F.kind,none⟩:=.inl ⟨h.fn,h.ent,h.tmps,h.todo,h.defers,rfl,.inr rfl,h.kind,h.Kind,.none⟩
  have e:=dX.still (Pr:=Pr) (C0:=C0) (st:=Option.isSome (none:Option Nat)::cs.map rb) (d:=d) (ev:=#[]) k j o (.inl rfl) #[] (by simp);cases jump with
  |none=>exact e
  |some c=>cases c<;>first|exact e|exact .zq λτ=>trivial
 |some p=>exact qg h main b j (g (by simp)) (GC p jump m) k λx w=>⟨_,_,_,rfl⟩
def rW(fr:Frame)(g l):resolve fr.eval {callee:=.value g,args:=#[.const (.func (.yield l) #[] #[])],argTypes:=#[]} 0=Deferred.ofValue (fr.eval g) #[.func (.yield l) #[] #[]]:=by simp[resolve,Frame.eval]
def JR(p q w):(choose q).run p w=if q.forced then .ok 0 w else .ok (q.cut (w.tape w.drawn q)) {w with drawn:=w.drawn+1}:=by simp only[choose,Sem.run]
def Et(ht:Tab S P fs)(hG:∀g,S.dU g=true->π g g){f F}(h:bq S π f F)(hm:f.mode=.run)(main p){cs CS}(H:bw (bq S π) cs CS)(Q:f.roundOf≠none->cs≠[])(hR:S.calm (W.tape W.drawn))(I:bE S Pr π w W):dX S Pr P fs C0 (rb f::cs.map rb) π w W d (λw=>stepG.exec (ai P fs) main true f (cs++C0) none w) (λB=>stepG.exec P p true F (CS++B) none W):=by
 have R:=h.eval hG;have J:=h.todo;obtain⟨fn,tmps,todo,defers,mode,kind,ro⟩:=f;obtain⟨FN,r,a1,n,A,C,RO⟩:=F;simp only[]at J hm;subst hm;have to:∀{t T:List Item},bw (gp S π) t T->dX S Pr P fs C0 (ro.isSome::cs.map rb) π w W d (λw=>.go ⟨⟨fn,tmps,t,defers,.run,kind,ro⟩,cs++C0,.running,none,none⟩ w) (λB=>.go ⟨⟨FN,r,T,n,A,C,RO⟩,CS++B,.running,none,none⟩ W):=λ{t T} ah=>by have O:Mq S P fs π cs ⟨fn,tmps,t,defers,.run,kind,ro⟩ ⟨FN,r,T,n,A,C,RO⟩:=.inl ⟨h.fn,h.ent,h.tmps,ah,h.defers,h.mode,h.calm,h.kind,h.Kind,h.round⟩;exact dX.still (ev:=#[]) I H O (.inl rfl) #[] (by simp)
 unfold stepG.exec;cases J with
 |nil=>exact jS h main p H Q I none (λc h=>by cases h)
 | @cons x X k K hx s=>
  cases hx with
  | @code c m=>
   cases c with
   |skip=>exact to s
   |label=>exact to s
   |ret=>exact jS h main p H Q I (some .ret) (λc h=>by cases h;rfl)
   |refuse=>exact .zq λτ=>trivial
   |seq a b=>simp only[jy,WI]at m;exact to (.cons (.code m.1) (.cons (.code m.2) s))
   |block E b=>exact to (.cons (.same m) (.cons (.inBlock E) s))
   |loop b=>exact to (.cons (.same m) (.cons (.inLoop m) s))
   |scope b=>exact to (.cons (.same m) (.cons (.inScope m) s))
   |cond x a b=>simp only[jy,codeOk,WI]at m;simp only[iK]at R⊢;have hv:=R x m.1.1;generalize Frame.eval _ x=v at*;generalize Frame.eval _ x=V at*;cases hv with|bool b'=>cases b';exact to (.cons (.same m.2) s);exact to (.cons (.same m.1.2) s)|_=>exact .zq λτ=>trivial
   |exit E=>have he:=JN E s;simp only[iK];generalize exitTo E k=u at*;generalize exitTo E K=v at*;cases he with|none=>exact jS h main p H Q I (some (.exit E)) (λc h=>by cases h;rfl)|some he=>exact to he
   |goto l=>have he:=JO l s;simp only[iK];generalize gotoIn l k=u at*;generalize gotoIn l K=v at*;cases he with|none=>exact jS h main p H Q I (some (.goto l)) (λc h=>by cases h;rfl)|some he=>exact to he
   |region E ops ab=>(have D:∀o∈ops,opD S o.op=true:=by simp only[jy]at m;rw[YC]at m;exact m);cases ab with|false=>have e:=to (.cons (.inRegion (List.range ops.size) D) s);simp only[iK,Yj];exact e|true=>have ak:FN=fn:=h.fn;subst ak;simp only[iK,JR,zp];by_cases hq:(Question.order FN E).forced=true;simp only[hq,WL];exact to (.cons (.inRegion _ D) s);simp only[hq,WU];(have O:∀t,bq S π ⟨FN,tmps,.inRegion (ops.map df) t::k,defers,.run,kind,ro⟩ ⟨FN,r,.inRegion ops t::K,n,A,C,RO⟩:=λt=>⟨h.fn,h.ent,h.tmps,.cons (.inRegion t D) s,h.defers,h.mode,h.calm,h.kind,h.Kind,h.round⟩);refine⟨[only (.order FN E) (W.tape W.drawn (.order FN E))],by simpa using I0 (show S.ent FN=true from h.ent) hR E,.inr ⟨_,cs,w,#[],_,CS,_,#[],π,λτ q=>?_,λ_=>rfl,I.heap rfl rfl,Chg.heap rfl rfl rfl rfl,by simp,H,.inl (O _),.inl rfl⟩⟩;simp only[show(aw w τ d).tape (aw w τ d).drawn (.order FN E)=W.tape W.drawn (.order FN E)from(congrFun q.head _).trans (uS _ _)];rfl
   |rangeFunc g params a b=>simp only[jy,codeOk,WI]at m;simp only[iK]at h R⊢;obtain rfl:fn=FN:=h.fn.symm;obtain⟨L,hL,hh|⟨x,w',G,X,W',ev,M,h1,h2,h3,h4,N,h6⟩⟩:=(Es (S:=S) (P:=P) (fs:=fs) h.ent h.tmps params m.1.2 m.2 h.round).run (Pr:=Pr) w W #[] #[] d I;refine⟨L,hL,.inl λτ q=>?_⟩;obtain⟨y,w',G,e1,e2,e3⟩:=hh τ q;simp only[e1];exact kL.after _ trivial;rw[XY]at h2;(obtain⟨l,mk⟩:=x;obtain⟨LL,MK⟩:=X;obtain⟨Z,ad⟩:=h3;simp only[]at Z ad;have U:=s.mono λ_ _ x=>gp.mono N.le x;have z:=h.mono N.le;have O:bq S M ⟨fn,tmps,.inRangeFunc l::k,mk++defers,.run,kind,ro⟩ ⟨fn,r,.inRangeFunc LL::K,MK++n,A,C,RO⟩:=⟨z.fn,z.ent,z.tmps,.cons (.inRangeFunc Z) U,ad.append z.defers,z.mode,z.calm,z.kind,z.Kind,z.round⟩);have aa:VsR M #[Value.func (.yield l) #[] #[]] #[Value.func (.yield LL) #[] #[]]:=bf.push bf.empty (.func (.yield Z) rfl (λi x X h=>by simp at h) rfl (λi x X h=>by simp at h));have hs:=xk (S:=S) ht (λg hg=>N.le _ _ (hG g hg)) ((O.eval λg hg=>N.le _ _ (hG g hg)) g m.1.1) aa;rw[<-rW,<-rW]at hs;obtain⟨L2,af,gg|⟨al,an,w2,ao,ar,ax,W2,ay,aK,g1,g2,g3,g4,g5,g6,g7⟩⟩:=nt (C0:=C0) (d:=d+L.length) ht O (H.mono λ_ _ x=>bq.mono N.le x) hs h4;refine⟨L++L2,iS hL af,.inl λτ q=>?_⟩;have:=iR q;simp only[h1 τ this.1];exact kL.after _ (gg τ this.2);refine⟨L++L2,iS hL af,.inr ⟨al,an,w2,seen (ai P fs) fn G++ao,ar,ax,W2,seen P fn ev++ay,aK,λτ q=>?_,?_,g3,N.trans g4,?_,g6,g7⟩⟩;have:=iR q;simp only[h1 τ this.1];have e:=g1 τ this.2;rw[Ys,<-WS]at e;exact W8 (GStep.after (seen (ai P fs) fn G)) e;intro B;simp only[h2];exact W8 (GStep.after (seen P fn ev)) (g2 B);intro e he;obtain he|he:=XD.1 he;exact(h6 e (Gz _ _ _ e he)).mono g4.le;exact g5 e he
  |inBlock=>exact to s
  |inScope=>exact to s
  |inLoop hb=>exact to (.cons (.same hb) (.cons (.inLoop hb) s))
  |inRangeFunc=>exact .zq λτ=>trivial
  | @endRangeFunc l LL Z=>obtain⟨L,hL,hh|⟨a,w',G,b,W',ev,M,h1,h2,h3,h4,N,h6⟩⟩:=(JP (fs:=fs) Z).run (Pr:=Pr) w W #[] #[] d I;refine⟨L,hL,.inl λτ q=>?_⟩;(obtain⟨x,w',G,e1,e2,e3⟩:=hh τ q;simp only[e1];refine kL.after _ ?_;cases x with|panic v=>exact ug h H e3 v #[]|_=>trivial);rw[XY]at h2;(obtain⟨rfl,m⟩:=h3;have U:=s.mono λ_ _ x=>gp.mono N.le x;have z:=h.mono N.le;have O:bq S M ⟨fn,tmps,(a.map Item.code).toList++k,defers,.run,kind,ro⟩ ⟨FN,r,(a.map Item.code).toList++K,n,A,C,RO⟩:=by refine⟨z.fn,z.ent,z.tmps,?_,z.defers,z.mode,z.calm,z.kind,z.Kind,z.round⟩;cases a with|none=>exact U|some c=>exact .cons (.same (m c rfl)) U);refine⟨L,hL,.inr ⟨_,cs,w',seen (ai P fs) fn G++#[],_,CS,W',seen P FN ev++#[],M,λτ q=>?_,?_,h4,N,ly h6,H.mono λ_ _ x=>bq.mono N.le x,.inl O,.inl rfl⟩⟩;simp only[h1 τ q];rfl;intro B;simp only[h2];rfl
  |beginRound=>refine nt ht h H (ue ?_) I;have hr:=h.round;simp only[]at hr;cases hr with|none=>exact aq|some Z=>exact Bh Z
  | @inRegion ops l D=>
   cases l with
   |nil=>exact to s
   |cons i rest=>
    have hy:yielded ops r=yielded ops tmps:=funext λj=>(GB h.tmps ops j).symm;have aM:((((ops.map df)[i]?).map (Region.wanted · (yielded ops tmps))).getD false)=(((ops[i]?).map (Region.wanted · (yielded ops tmps))).getD false):=by simp only[Xd,aam,Function.comp_def,Ep]
    simp only[Bg,hy,aM];cases hb:(((ops[i]?).map (Region.wanted · (yielded ops tmps))).getD false);case true=>
     simp only[WL];unfold stepG.oper;simp only[Frame.oper?,Xd];cases ho:ops[i]? with
     |none=>exact .zq λτ=>trivial
     |some o=>
      have ag:=D o (Xu ho);have hs:=JL ht hG R (λ_=>rfl) (λ_=>rfl) o ag;have key:=nt (C0:=C0) (d:=d) ht h H hs I;have Y:=Pf o;simp only[Xm]
      revert key Y
      generalize df o=o';intro key Y;obtain⟨ba,op,ty,pos,bb,gd⟩:=o;obtain⟨a6,aR,bk,a7,a8,bm⟩:=o';have hr:=h.round;simp only[]at hr Y;subst Y;cases aR<;>first|(simp[opD,Du,lQ]at ag;done)|(cases hr<;>exact key)
    case false=>simp only[WW,WU];have O:=h.finish (aD.tuple' (.empty:VsR π #[] #[]));exact dX.still (ev:=#[]) I H (.inl O) (by rw[nR];exact .inl rfl) #[] (by simp)
end
section
variable {S:Kn} {P:Program} {fs:Array Func} {Pr:Nat->Prop} {C0:List Frame} {st:List Bool} {π:Ren P.globals.size} {w W:xv} {d:Nat}
def dX.congr{b gs' GS a}(c:∀w,b w=gs' w)(e:GS=a)(h:dX S Pr P fs C0 st π w W d gs' a):dX S Pr P fs C0 st π w W d b GS:=by rw[e,funext c];exact h
def Eu(H:Tab S P fs)(M:∀g,S.dU g=true->π g g){f F}(h:bq S π f F)(main i){cs CS}(A:bw (bq S π) cs CS)(j:f.roundOf≠none->cs≠[]) (p:f.mode=.returning->f.defers=[]->cs≠[]) (N:S.calm (W.tape W.drawn)) (C:bE S Pr π w W):dX S Pr P fs C0 (rb f::cs.map rb) π w W d (λw=>stepG (ai P fs) main ⟨f,cs++C0,.running,none,none⟩ w) (λB=>stepG P i ⟨F,CS++B,.running,none,none⟩ W):=by
 have e:=h.mode;unfold stepG;obtain hm|hm:=h.calm;rw[hm]at e;simp only[hm,e];exact Et H M h hm main i A j N C;rw[hm]at e
 simp only[hm,e];unfold unwind;have m:=h.defers;cases n:f.defers with
 |nil=>
  rw[n]at m;cases k:F.defers with
  |cons=>rw[k]at m;cases m
  |nil=>
   simp only[hm,e];obtain⟨_,g,c,e1,I,_,O,E⟩:=H.ent _ h.ent;rw[h.fn];simp only[show(ai P fs).funcs=fs from rfl,e1,I];have q:∀t,results {g with body:=some (iK c)} t=results g t:=λ_=>rfl;simp only[q];have key:=qg (Pr:=Pr) (C0:=C0) (d:=d) (fs:=fs) h main i A (p hm n) (sX g h.tmps) C
    (gh:=λx w=>match x with| .stuck s=>.ended (.stuck s (f.pos (ai P fs))) w|_=>.ended (.stuck "return: the result variables cannot be read" (f.pos (ai P fs))) w)
    (GH:=λx w=>match x with| .stuck s=>.ended (.stuck s (F.pos P)) w|_=>.ended (.stuck "return: the result variables cannot be read" (F.pos P)) w)
    (λx w=>by cases x<;>exact⟨_,_,_,rfl⟩)
   refine dX.congr ?_ ?_ key;intro w;(generalize (results g f.tmps).runT (ai P fs) w #[]=r;obtain⟨r,es⟩:=r;cases r with|ok=>rfl|halt x=>cases x<;>rfl);funext B;rw[<-h.fn];generalize (results g F.tmps).runT P W #[]=r;obtain⟨r,es⟩:=r;cases r with|ok=>rfl|halt x=>cases x<;>rfl
 |cons D ds=>rw[n]at m;cases k:F.defers with|nil=>rw[k]at m;cases m|cons DD Q=>rw[k]at m;cases m with|cons T G=>cases T with| @mk r R U=>simp only[];obtain⟨L,J,V|⟨a,w',u,b,X,ev,v,Y,K,⟨rfl,rfl⟩,Z,z,h6⟩⟩:=(yb (S:=S) (P:=P) (fs:=fs) U).run (Pr:=Pr) w W #[] #[] d C;refine⟨L,J,.inl λτ o=>?_⟩;obtain⟨x,w',u,e1,I,e3⟩:=V τ o;simp only[e1];exact kL.after _ trivial;rw[XY]at K;(have l:=h.mono z.le;have y:=G.mono λ_ _ x=>rG.mono z.le x;have hf:bq S v {f with defers:=ds} {F with defers:=Q}:=⟨l.fn,l.ent,l.tmps,l.todo,y,l.mode,l.calm,l.kind,l.Kind,l.round⟩);refine⟨L,J,.inr ⟨_,cs,w',seen (ai P fs) f.fn u++#[],_,CS,X,seen P F.fn ev++#[],v,λτ o=>?_,?_,Z,z,ly h6,A.mono λ_ _ x=>bq.mono z.le x,.inl hf,.inl rfl⟩⟩;simp only[Y τ o];rfl;intro B;simp only[K];rfl
end
def aJ:Frame:={fn:=0,tmps:=#[],todo:=[.code (.refuse "")],defers:=[{target:=.nil,args:=#[]}],mode:=.run,kind:=.normal}
def Off(ch:List PanicEntry):Prop:=2<=ch.length
inductive Ct(G:Nat):Machine->Prop
 |up {fr:Frame} {cs:List Frame} {w:xv} (π:Ren G) (v):fr.mode=.panicking [{v,recovered:=false}]->(∀f∈fr::cs,Marks π f)->Dp π w->(∀f∈cs,f.mode=.run\/f.mode=.returning)->Ct G (lone fr (cs++[aJ]) w)
 |low (ch) (w:xv):Ct G (lone {aJ with mode:=.panicking ch} [] w)
def RU{G m}(h:Ct G m){fr w}(e:m=lone fr [aJ] w):fr.mode≠ .returning/\∀ch,Off ch->fr.mode≠ .panicking ch:=by cases h with| @up fr' cs w' π ch b _ _ _=>simp only[lone,Machine.mk.injEq]at e;have a:=e.2.1;simp at a;obtain⟨rfl,_⟩:=a;rw[b];refine⟨by simp,λch c e=>?_⟩;cases e;simp[Off]at c|low ch w'=>simp only[lone,Machine.mk.injEq]at e;have a:=e.2.1;simp at a
def GD(P r w)(h:∀o,w.heap[r]? =some (.deferred o)->o=none\/o=some []):((Instr.takeDeferred r).runT P w #[]).1=.ok [] {w with heap:=w.heap.setIfInBounds r (.deferred none)}\/∃x w',((Instr.takeDeferred r).runT P w #[]).1=.halt x w':=by unfold Instr.takeDeferred;cases a:w.heap[r]? with|none=>right;simp[getObj,bind,Sem.bind,Sem.run,a]|some o=>cases o with|deferred o=>obtain rfl|rfl:=h o a;right;simp[getObj,bind,Sem.bind,Sem.run,a,stuck];left;simp[getObj,bind,Sem.bind,Sem.run,a,setObj,pure]|_=>right;simp[getObj,bind,Sem.bind,Sem.run,a,stuck]
def Ms{G P m}(h:Ct G m):(∃o w,step P m=.ended o w)\/∃m',step P m=.next m'/\Ct G m':=by
 cases h with
 |low ch w=>refine .inl ⟨_,_,step_lone_ended (o:=?_) (w':=w) ?_⟩;rotate_left;simp[stepG,unwind,callDeferred,aJ,GStep.bare];rfl
 | @up fr cs w π v0 l n p a=>
  have g:=n fr (.head _);cases b:fr.defers with
  |nil=>
   by_cases d:fr.catches P=true
   .refine .inl ⟨_,_,step_lone_ended (o:=?_) (w':=w) ?_⟩;(rotate_left);simp[stepG,unwind,b,l,d,GStep.bare];rfl
   cases cs with|nil=>refine .inr ⟨_,step_lone_go (fr':={aJ with mode:=.panicking [{v:=v0,recovered:=false}]}) (cs':=[]) (w':=w) ?_,.low _ w⟩;simp[stepG,unwind,b,l,d,GStep.bare,Frame.raise,aJ]|cons c cs=>have s:=n c (.tail _ (.head _));refine .inr ⟨_,step_lone_go (fr':=c.raise [{v:=v0,recovered:=false}]) (cs':=cs++[aJ]) (w':=w) ?_,?_⟩;simp[stepG,unwind,b,l,d,GStep.bare];(have e:c.raise [{v:=v0,recovered:=false}]={c with mode:=.panicking [{v:=v0,recovered:=false}]}:=by unfold Frame.raise;rcases a c (.head _)with x|x<;>rw[x]);rw[e];refine .up π v0 rfl (λf g=>?_) p λf g=>a f (.tail _ g);cases g with|head=>exact s|tail _ g=>exact n f (.tail _ (.tail _ g))
  |cons D ds=>obtain⟨r,R,rfl,t⟩:=g D (by rw[b];exact .head _);have j:=GD P r w λo i=>p r R o t i;obtain e|⟨x,w',e⟩:=j;refine .inr ⟨_,step_lone_go (fr':={fr with defers:=ds}) (cs':=cs++[aJ]) (w':={w with heap:=w.heap.setIfInBounds r (.deferred none)}) ?_,?_⟩;simp only[stepG,l,unwind,b,e];rfl;refine .up π v0 l (λf k=>?_) ?_ a;(cases k with|head=>exactλD u=>g D (by rw[b];exact .tail _ u)|tail _ k=>exact n f (.tail _ k));intro y R' o q i;simp only[Xt]at i;split at i;split at i;cases i;exact .inl rfl;cases i;exact p y R' o q i;refine .inl ⟨_,_,step_lone_ended (o:=?_) (w':=w') ?_⟩;(rotate_left);simp only[stepG,l,unwind,b,e];rfl
def JS{G P}:∀(n) {m},Ct G m->∀{fr} {w},runN P n m=.next (lone fr [aJ] w)->fr.mode≠ .returning/\∀ch,Off ch->fr.mode≠ .panicking ch:=by intro n;induction n with|zero=>intro m h fr w e;exact RU h (by simpa[runN]using e)|succ n c=>(intro m h fr w e;unfold runN at e;rcases Ms (P:=P) h with⟨o,w',a⟩|⟨d,a,b⟩);rw[a]at e;cases e;rw[a]at e;exact c b e
structure Gh where
 fr:Frame
 cs:List Frame
 w:xv
def Gh.AtE(c:Gh):Prop:=c.cs=[]/\c.fr.mode=.returning/\c.fr.defers=[]
def Gh.Flat(c:Gh):Prop:=∀b,(rb c.fr::c.cs.map rb).getLast?=some b->b=false
def Ends(P:Program)(Post:x6->xv->Prop)(fr:Frame)(w':xv):Prop:=(∃v,fr.leaving P w' (.returned v)/\Post v w')\/∃ch,Off ch/\fr.mode=.panicking ch/\fr.defers=[]
def Ends.Pj{P Post fr w'}(h:Ends P Post fr w')(a:fr.mode≠ .returning/\∀ch,Off ch->fr.mode≠ .panicking ch):False:=by obtain⟨v,h,_⟩|⟨ch,b,h,_⟩:=h;exact a.1 h.1;exact a.2 ch b h
def uh{P a fr x xs w0 w' ch}(g:a.mode=.panicking ch)(i:a.defers=[]):∀{n},runN P (n+1) (lone a [aJ] w0)=.next (lone fr (x::xs) w')->False:=by
 intro n h;unfold runN at h;by_cases b:a.catches P=true
 .have:∃o w2,step P (lone a [aJ] w0)=.ended o w2:=by refine⟨_,_,step_lone_ended (o:=?_) (w':=w0) ?_⟩;rotate_left;simp[stepG,unwind,i,g,b,GStep.bare];rfl
  obtain⟨o,w2,c⟩:=this;rw[c]at h;cases h
 obtain⟨f,d⟩:=ex ({aJ with mode:=.panicking ch});have c:step P (lone a [aJ] w0)=.next (lone f [] w0):=by refine step_lone_go ?_;simp[stepG,unwind,i,g,b,GStep.bare,Frame.raise,aJ,d]
 rw[c]at h;change runN P n (lone f [] w0)=_ at h;cases n with|zero=>have e:=Stepped.next.inj h;simp only[lone,Machine.mk.injEq]at e;have:=e.2.1;simp at this|succ n=>(unfold runN at h;have:∃o w2,step P (lone f [] w0)=.ended o w2:=by refine⟨_,_,step_lone_ended (o:=?_) (w':=w0) ?_⟩;rotate_left;simp[stepG,unwind,callDeferred,aJ,GStep.bare,d];rfl);obtain⟨o,w2,c⟩:=this;rw[c]at h;cases h
def Gd(S:Kn)(P:Program)(Post:x6->xv->Prop)(c:Gh):Prop:=(∀n,c.w.drawn<=n->S.ie (c.w.tape n))/\∀τ,(∀n<c.w.drawn,τ n=c.w.tape n)->(∀n,c.w.drawn<=n->S.ie (τ n))->∃n fr w',runN P n (lone c.fr (c.cs++[aJ]) (aw c.w τ c.w.drawn))=.next (lone fr [aJ] w')/\Ends P Post fr w'
def Nx(S:Kn)(P:Program)(c c':Gh):Prop:=c.w.drawn<=c'.w.drawn/\(∀n,c.w.drawn<=n->S.ie (c'.w.tape n))/\(∀n<c.w.drawn,c'.w.tape n=c.w.tape n)/\∃es,∀τ,(∀n<c'.w.drawn,τ n=c'.w.tape n)->stepG P true ⟨c.fr,c.cs++[aJ],.running,none,none⟩ (aw c.w τ c.w.drawn)=.go ⟨c'.fr,c'.cs++[aJ],.running,none,none⟩ (aw c'.w τ c'.w.drawn) es
def Nx.step{S P c c'}(h:Nx S P c c'){τ}(a:∀n<c'.w.drawn,τ n=c'.w.tape n):step P (lone c.fr (c.cs++[aJ]) (aw c.w τ c.w.drawn))=.next (lone c'.fr (c'.cs++[aJ]) (aw c'.w τ c'.w.drawn)):=by obtain⟨_,_,_,es,b⟩:=h;exact step_lone_go (by rw[b τ a];rfl)
def kp{fr fr' cs cs' w w'}(h:lone fr cs w=lone fr' cs' w'):fr=fr'/\cs=cs'/\w=w':=by simp only[lone,Machine.mk.injEq]at h;obtain⟨b,a,_⟩:=h;simp at a;exact⟨a.1,a.2,b⟩
def Pk{P}{c:Gh}{fr w w' v}(h:lone c.fr (c.cs++[aJ]) w=lone fr [aJ] w')(a:fr.leaving P w' (.returned v)):c.AtE:=by obtain⟨rfl,b,_⟩:=kp h;obtain⟨d,e,_⟩:=a;exact⟨by simpa using b,d,e⟩
def Cu{S P Post c c' fr w' τ}(f:Nx S P c c')(g:∀n<c'.w.drawn,τ n=c'.w.tape n)(h:¬c.AtE)(d:lone c.fr (c.cs++[aJ]) (aw c.w τ c.w.drawn)=lone fr [aJ] w')(a:Ends P Post fr w'):False:=by obtain⟨v,a,_⟩|⟨ch,_,i,j⟩:=a;exact h (Pk d a);have b:=f.step g;(rw[d]at b;have:∃x xs,c'.cs++[aJ]=x::xs:=by cases c'.cs<;>exact⟨_,_,rfl⟩);obtain⟨x,xs,e⟩:=this;rw[e]at b;refine uh (n:=0) i j (x:=x) (xs:=xs) (fr:=c'.fr) (w0:=w') (w':=aw c'.w τ c'.w.drawn) (P:=P) ?_;unfold runN;rw[b];rfl
def Gd.next{S P Post c c'}(h:Gd S P Post c)(a:Nx S P c c')(i:¬c.AtE):Gd S P Post c':=by (refine⟨λn b=>a.2.1 n (Ww a.1 b),λτ e j=>?_⟩;have k:∀n<c.w.drawn,τ n=c.w.tape n:=λn d=>(e n (Wy d a.1)).trans (a.2.2.1 n d);have l:∀n,c.w.drawn<=n->S.ie (τ n):=λn b=>by obtain x|x:=Wx n c'.w.drawn;rw[e n x];exact a.2.1 n b;exact j n x);obtain⟨n,fr,w',f,g⟩:=h.2 τ k l;cases n with|zero=>exact(Cu a e i (by simpa[runN]using f) g).elim|succ n=>unfold runN at f;rw[a.step e]at f;exact⟨n,fr,w',f,g⟩
def nS{c:Type}{r a}(h:¬Acc r a):∃f:Nat->c,f 0=a/\∀n,r (f (n+1)) (f n):=by (have b:∀x:{x:c//¬Acc r x},∃y:{x:c//¬Acc r x},r y.1 x.1:=by intro⟨x,i⟩;apply XN;intro d;refine i ⟨x,λy j=>?_⟩;exact XN λe=>d ⟨⟨y,e⟩,j⟩);let g:Nat->{x:c//¬Acc r x}:=λn=>Nat.rec ⟨a,h⟩ (λ_ x=>(b x).choose) n;refine⟨λn=>(g n).1,rfl,λn=>?_⟩;exact(b (g n)).choose_spec
def Gd.acc{S P Post c}(h:Gd S P Post c):Acc (λc' c=>Nx S P c c'/\¬c.AtE) c:=by (apply XN;intro s;obtain⟨f,z,g⟩:=nS s;have t:∀n k,(f n).w.drawn<=(f (n+k)).w.drawn:=by intro n k;induction k with|zero=>exact Wv _|succ k j=>exact Ww j (g (n+k)).1.1);(have p:∀n k i,i<(f n).w.drawn->(f (n+k)).w.tape i=(f n).w.tape i:=by intro n k;induction k with|zero=>intro i _;rfl|succ k j=>intro i l;exact((g (n+k)).1.2.2.1 i (Wy l (t n k))).trans (j i l));(have u:∀n m i,i<(f n).w.drawn->i<(f m).w.drawn->(f n).w.tape i=(f m).w.tape i:=by intro n m i r A;obtain hnm|hnm:=Nat.le_total n m;obtain⟨k,rfl⟩:=Zo hnm;exact(p n k i r).symm;obtain⟨k,rfl⟩:=Zo hnm;exact p m k i A);(let τ:Nat->Question->Nat:=λi=>open Classical in if h:∃n,i<(f n).w.drawn then(f h.choose).w.tape i elseλ_=>0);(have e:∀n i,i<(f n).w.drawn->τ i=(f n).w.tape i:=by (intro n i l;have d:∃n,i<(f n).w.drawn:=⟨n,l⟩);show(open Classical in if h:∃n,i<(f n).w.drawn then(f h.choose).w.tape i elseλ_=>0)=_;rw[Yw d];exact u _ _ i d.choose_spec l);(have o:∀n i,(f 0).w.drawn<=i->i<(f n).w.drawn->S.ie ((f n).w.tape i):=by intro n;induction n with|zero=>intro i a b;omega|succ n j=>intro i a b;obtain x|x:=Wx i (f n).w.drawn;rw[(g n).1.2.2.1 i x];exact j i a x;exact(g n).1.2.1 i x);(have q:∀i,(f 0).w.drawn<=i->S.ie (τ i):=by intro i l;by_cases d:∃n,i<(f n).w.drawn;obtain⟨n,r⟩:=d;rw[e n i r];exact o n i l r;show S.ie (open Classical in if h:∃n,i<(f n).w.drawn then(f h.choose).w.tape i elseλ_=>0);rw[dif_neg d];exact nF);(subst z;obtain⟨N,fr,w',y,B⟩:=h.2 τ (e 0) q;have v:∀n k,runN P n (lone (f k).fr ((f k).cs++[aJ]) (aw (f k).w τ (f k).w.drawn))=.next (lone (f (k+n)).fr ((f (k+n)).cs++[aJ]) (aw (f (k+n)).w τ (f (k+n)).w.drawn)):=by intro n;induction n with|zero=>intro k;rfl|succ n j=>intro k;unfold runN;rw[(g k).1.step (e (k+1))];have:=j (k+1);rw[show k+1+n=k+(n+1) by omega]at this;exact this);have:=v N 0;rw[WH]at this;rw[this]at y;exact Cu (g N).1 (e (N+1)) (g N).2 (Stepped.next.inj y) B
def Gd.ends{S P Post c}(h:Gd S P Post c)(y:c.AtE)(k:c.fr.kind=.normal):∃v,c.fr.leaving P c.w (.returned v)/\Post v c.w:=by (obtain⟨n,fr,w',d,q⟩:=h.2 c.w.tape (λ_ _=>rfl) h.1;obtain⟨a,z,w0⟩:=c;obtain⟨t,j,l⟩:=y;simp only[]at t j l k d;subst t;have d:runN P n (lone a [aJ] w0)=.next (lone fr [aJ] w'):=d);cases n with|zero=>obtain⟨rfl,_,rfl⟩:=kp (Stepped.next.inj d);obtain q|⟨ch,_,u,_⟩:=q;exact q;rw[j]at u;cases u|succ n=>(exfalso;have f:∀n w1,runN P n (lone aJ [] w1)≠ .next (lone fr [aJ] w'):=by intro n w1;cases n with|zero=>intro e;have:=(kp (Stepped.next.inj e)).2.1;simp at this|succ n=>(intro e;unfold runN at e;have:∃o w2,step P (lone aJ [] w1)=.ended o w2:=by refine⟨_,_,step_lone_ended (o:=?_) (w':=w1) ?_⟩;rotate_left;simp[stepG,stepG.exec,aJ,GStep.bare];rfl);obtain⟨o,w2,m⟩:=this;rw[m]at e;cases e);(unfold runN at d;have i:(∃o w2,step P (lone a [aJ] w0)=.ended o w2)\/∃w1,step P (lone a [aJ] w0)=.next (lone aJ [] w1):=by cases p:P.funcs[a.fn]? with|none=>refine .inr ⟨w0,step_lone_go ?_⟩;simp[stepG,unwind,doReturn,j,l,k,p,Frame.finish,aJ,GStep.bare]|some g=>cases b:(results g a.tmps).runT P w0 #[]with|mk r es=>cases r with|ok v w1=>refine .inr ⟨w1,step_lone_go ?_⟩;simp only[stepG,unwind,doReturn,j,l,k,p,b];rfl|halt x w1=>cases x with|stuck s=>refine .inl ⟨_,_,step_lone_ended (o:=?_) (w':=w1) ?_⟩;rotate_left;simp only[stepG,unwind,doReturn,j,l,k,p,b];rfl|_=>refine .inl ⟨_,_,step_lone_ended (o:=?_) (w':=w1) ?_⟩;rotate_left;simp only[stepG,unwind,doReturn,j,l,k,p,b];rfl);obtain⟨o,w2,m⟩|⟨w1,m⟩:=i;rw[m]at d;cases d;rw[m]at d;exact f n w1 d
section
variable {S:Kn} {P:Program} {fs:Array Func} {Pr:Nat->Prop} {π:Ren P.globals.size} {W:xv}
def GF{L}(a:∀g∈L,S.ie g)(d n):S.ie (mX d L n):=by unfold mX;cases h:L[n-d]? with|none=>exact nF|some g=>exact a g (Xr h)
def ra{L}(a:∀g∈L,S.ie g){d}{t:Nat->Question->Nat}:∀n,d<=n->S.ie ((λn=>if n<d then t n else mX d L n) n):=λn b=>by show S.ie (if n<d then t n else mX d L n);rw[Wt (by omega)];exact GF a d n
def Mt{c c':Gh}(h:c.Flat)(d:Sh (rb c.fr::c.cs.map rb) (rb c'.fr::c'.cs.map rb)):c'.Flat:=by unfold Gh.Flat at*;intro b a;obtain e|⟨x,e⟩|⟨x,e⟩:=d;rw[e]at a;exact h b a;rw[e]at a;refine h b ?_;simpa using a;refine h b ?_;rw[e];rw[aaC];exact a
def follow(O:Tab S P fs)(Q:∀g,S.dU g=true->π g g){Post c F CS}(h:bq S π c.fr F)(R:bw (bq S π) c.cs CS)(T:bE S Pr π c.w W)(b:c.Flat) (J:Gd S (ai P fs) Post c) (m:¬c.AtE) (U:S.calm (W.tape W.drawn)) (f):∃(c':Gh) (z:Frame) (j:List Frame) (q:xv) (ev:Array Event) (a:Ren P.globals.size),Nx S (ai P fs) c c'/\Gd S (ai P fs) Post c'/\(∀B,stepG P f ⟨F,CS++B,.running,none,none⟩ W=.go ⟨z,j++B,.running,none,none⟩ q ev)/\bE S Pr a c'.w q/\Chg Pr π W q a/\(∀e∈ev,mE Pr a e)/\bw (bq S a) c'.cs j/\Mq S P fs a c'.cs c'.fr z/\c'.Flat:=by
 have k:c.fr.roundOf≠none->c.cs≠[]:=by intro l D;have:=b (rb c.fr) (by rw[D];rfl);unfold rb at this;cases hx:c.fr.roundOf<;>simp_all
 have s:c.fr.mode=.returning->c.fr.defers=[]->c.cs≠[]:=λV X Y=>m ⟨Y,V,X⟩;obtain⟨L,K,Z|⟨fr',cs',w',es,z,j,q,ev,a,g1,g2,g3,g4,g5,g6,g7,g8⟩⟩:=Eu (C0:=[aJ]) (d:=c.w.drawn) O Q h true f R k s U T;exfalso;let τ:Nat->Question->Nat:=λn=>if n<c.w.drawn then c.w.tape n else mX c.w.drawn L n
 have E:Fits τ c.w.drawn L:=λi g A=>by show(if c.w.drawn+i<c.w.drawn then _ else _)=g;rw[Wt (by omega)];exact mF c.w.drawn L i g A
 obtain⟨n,fr,w',l,C⟩:=J.2 τ (λn G=>Wu G) (ra K);have p:kL P.globals.size [aJ] (stepG (ai P fs) true ⟨c.fr,c.cs++[aJ],.running,none,none⟩ (aw c.w τ c.w.drawn)):=Z τ E;cases n with
 |zero=>obtain⟨v,C,_⟩|⟨ch,_,hm,_⟩:=C;exact m (Pk (Stepped.next.inj l) C);have t:=h.calm;rw[(kp (Stepped.next.inj l)).1,hm]at t;rcases t with x|x<;>cases x
 |succ n=>unfold runN at l;generalize u:stepG (ai P fs) true ⟨c.fr,c.cs++[aJ],.running,none,none⟩ (aw c.w τ c.w.drawn)=r at p;cases r with|ended o w2 H=>rw[step_lone_ended (by rw[u];rfl)]at l;cases l|go g w2 H=>obtain⟨I,aa,e1,M,e3,e4,⟨ch,e5⟩,e6,e7,e8⟩:=p;obtain⟨gf,gc,gs,gd,go⟩:=g;simp only[]at e1 M e3 e4 e5 e6;subst e1 M e3 e4;rw[step_lone_go (by rw[u];rfl)]at l;exact C.Pj (JS n (.up I ch e5 e6 e7 e8) l)|_=>exact p
 let τ:Nat->Question->Nat:=λn=>if n<c.w.drawn then c.w.tape n else mX c.w.drawn L n
 have N:Nx S (ai P fs) c ⟨fr',cs',aw w' τ (c.w.drawn+L.length)⟩:=by (refine⟨aaj _ _,ra K,λn G=>Wu G,es,λy h'=>?_⟩;have hf:Fits y c.w.drawn L:=λi g A=>by have ab:=(Xk.1 A).1;rw[h' (c.w.drawn+i) (show c.w.drawn+i<c.w.drawn+L.length by omega)];show(if c.w.drawn+i<c.w.drawn then _ else _)=g;rw[Wt (by omega)];exact mF c.w.drawn L i g A);exact g1 y hf
 exact⟨⟨fr',cs',aw w' τ (c.w.drawn+L.length)⟩,z,j,q,ev,a,N,J.next N m,g2,g3.heap rfl rfl,g4,g5,g6,g7,Mt b g8⟩
end
def GJ{S P Post f args w}(b:∀n,w.drawn<=n->S.ie (w.tape n)) (h:∀τ,(∀n<w.drawn,τ n=w.tape n)->(∀n,w.drawn<=n->S.ie (τ n))->Calls P f args (aw w τ w.drawn) λe w'=>∃v,e=.returned v/\Post v w'):Gd S P Post ⟨Frame.enter P f args .normal,[],w⟩:=by refine⟨b,λτ c a=>?_⟩;obtain⟨e,w',fr,⟨v,rfl,d⟩,g,_,i⟩:=h τ c a [aJ];obtain⟨n,j⟩:=g;exact⟨n,fr,w',j,.inl ⟨v,i,d⟩⟩
def Ev{S P Post f args w}(d:∀n,w.drawn<=n->S.ie (w.tape n)) (h:∀τ,(∀n<w.drawn,τ n=w.tape n)->Calls P f args (aw w τ w.drawn) λe w'=>(∃v,e=.returned v/\Post v w')\/∃ch,Off ch/\e=.panicked ch):Gd S P Post ⟨Frame.enter P f args .normal,[],w⟩:=by refine⟨d,λτ g _=>?_⟩;obtain⟨e,w',fr,i,c,_,a⟩:=h τ g [aJ];obtain⟨v,rfl,j⟩|⟨ch,k,rfl⟩:=i;obtain⟨n,b⟩:=c;exact⟨n,fr,w',b,.inl ⟨v,a,j⟩⟩;obtain⟨n,b⟩:=c;exact⟨n,fr,w',b,.inr ⟨ch,k,a.1,a.2.1⟩⟩
section
variable {S:Kn} {P:Program} {fs:Array Func} {Pr:Nat->Prop}
structure Cp(S:Kn)(P:Program)(fs:Array Func)(Pr:Nat->Prop)(Post:x6->xv->Prop)(π:Ren P.globals.size)(c:Gh)(F:Frame)(CS:List Frame)(W:xv):Prop where
 top:bq S π c.fr F
 cs:bw (bq S π) c.cs CS
 w:bE S Pr π c.w W
 flat:c.Flat
 sY:Gd S (ai P fs) Post c
 dU:∀g,S.dU g=true->π g g
def Cp.step(p:Tab S P fs)(i:∀f,S.stop f=false){Post π c F CS W}(h:Cp S P fs Pr Post π c F CS W)(j:¬c.AtE)(q:S.calm (W.tape W.drawn))(main):∃(c':Gh) (l:Frame) (d:List Frame) (k:xv) (ev:Array Event) (b:Ren P.globals.size),(Nx S (ai P fs) c c'/\¬c.AtE)/\Cp S P fs Pr Post b c' l d k/\(∀B,stepG P main ⟨F,CS++B,.running,none,none⟩ W=.go ⟨l,d++B,.running,none,none⟩ k ev)/\Chg Pr π W k b/\∀e∈ev,mE Pr b e:=by obtain⟨c',l,d,k,ev,b,r,s,t,u,n,v,x,m,y⟩:=follow p h.dU h.top h.cs h.w h.flat h.sY j q main;refine⟨c',l,d,k,ev,b,⟨r,j⟩,⟨?_,x,u,y,s,λg z=>n.le _ _ (h.dU g z)⟩,t,n,v⟩;obtain m|⟨_,g,a,A,o,_⟩:=m;exact m;rw[i g]at o;cases o
def Cp.TA(m:Tab S P fs)(a:∀f,S.stop f=false)(b:∀g,S.calm g){Post π c F CS W}(h:Cp S P fs Pr Post π c F CS W):∃(π':Ren P.globals.size) (c':Gh) (n:Frame) (k:xv) (v:x6),Cp S P fs Pr Post π' c' n [] k/\c'.AtE/\Post v c'.w/\c'.fr.leaving (ai P fs) c'.w (.returned v)/\Chg Pr π W k π':=by have d:=h.sY.acc;induction d generalizing π F CS W with|intro c _ o=>by_cases j:c.AtE;obtain⟨v,p,q⟩:=h.sY.ends j h.top.kind;have e:=h.cs;rw[j.1]at e;cases e;exact⟨π,c,F,W,v,h,j,q,p,Chg.refl _ _ _⟩;obtain⟨c',E,r,k,ev,π',s,t,_,i,_⟩:=h.step m a j (b _) true;obtain⟨l,u,x,y,v,z,A,B,C,D⟩:=o c' s t;exact⟨l,u,x,y,v,z,A,B,C,i.trans D⟩
def Gd.aw{S P Post c}(h:Gd S P Post c){τ:Nat->Question->Nat}(f:∀n<c.w.drawn,τ n=c.w.tape n)(g:∀n,c.w.drawn<=n->S.ie (τ n)):Gd S P Post ⟨c.fr,c.cs,aw c.w τ c.w.drawn⟩:=⟨g,λa b d=>h.2 a (λn e=>(b n e).trans (f n e)) d⟩
def Cp.returns(z:Tab S P fs){Post π c F CS W}(h:Cp S P fs Pr Post π c F CS W)(r:c.AtE)(C B main):CS=[]/\∃(v V:x6) (w' m:xv) (ev:Array Event) (f:Ren P.globals.size),Post v w'/\w'.heap=c.w.heap/\stepG P main ⟨F,C::B,.running,none,none⟩ W=.go ⟨C.finish V,B,.running,none,none⟩ m ev/\aD f v V/\bE S Pr f w' m/\Chg Pr π W m f/\∀e∈ev,mE Pr f e:=by
 have o:=h.cs;rw[r.1]at o;refine⟨by cases o;rfl,?_⟩;obtain⟨_,g,A,e1,D,_,_,_⟩:=z.ent _ h.top.ent;have s:=sX (S:=S) (P:=P) (fs:=fs) g h.top.tmps;obtain⟨L,E,G|⟨a,w',t,b,m,ev,f,H,y,I,J,K,M⟩⟩:=s.run (Pr:=Pr) c.w W #[] #[] c.w.drawn h.w;all_goals
  let τ:Nat->Question->Nat:=λn=>if n<c.w.drawn then c.w.tape n else mX c.w.drawn L n
  have p:Fits τ c.w.drawn L:=λi g N=>by show(if c.w.drawn+i<c.w.drawn then _ else _)=g;rw[Wt (by omega)];exact mF c.w.drawn L i g N
  have u:∀n<c.w.drawn,τ n=c.w.tape n:=λn O=>Wu O;obtain⟨v,⟨_,_,_,g',k,j⟩,Q⟩:=(h.sY.aw u (ra E)).ends r h.top.kind;simp only[show(ai P fs).funcs=fs from rfl]at k;rw[e1]at k;cases k;rw[show results {g with body:=some (iK A)} c.fr.tmps=results g c.fr.tmps from rfl]at j;have d:((results g c.fr.tmps).runT (ai P fs) (aw c.w τ c.w.drawn) #[]).1=.ok v (aw c.w τ c.w.drawn):=by rw[<-j];simp
 obtain⟨x,w',t,e,_⟩:=G τ p;rw[e]at d;cases d;rw[H τ p]at d;simp only[Result.ok.injEq]at d;obtain⟨rfl,R⟩:=d;rw[XY]at y;refine⟨a,b,aw c.w τ c.w.drawn,m,seen P F.fn ev++#[],f,Q,rfl,?_,I,?_,K,ly M⟩;have l:=h.top.mode.trans r.2.1;have q:F.defers=[]:=by have:=h.top.defers;rw[r.2.2]at this;cases T:F.defers with|nil=>rfl|cons=>rw[T]at this;cases this
 have U:P.funcs[F.fn]? =some g:=by rw[h.top.fn];exact D
 simp only[stepG,unwind,l,q,U,y,qe _ _ _ _ _ _ _ h.top.Kind];rfl;refine J.heap ?_ rfl;rw[<-R];rfl
end
section
variable {S:Kn} {P:Program} {fs:Array Func}
structure Eff(Own:Nat->Prop)(W W':xv):Prop where
 os:W'.os=W.os
 tape:W'.tape=W.tape
 output:W'.output=W.output
 size:W.heap.size<=W'.heap.size
 keep:∀b,b<W.heap.size->¬Own b->W'.heap[b]? =W.heap[b]?
def Eff.refl(Own W):Eff Own W W:=⟨rfl,rfl,rfl,Wv _,λ_ _ _=>rfl⟩
structure jx(S:Kn)(P:Program)(fs:Array Func)(π₀:Ren P.globals.size)(F0 wB:xv)(Post:x6->xv->Prop)(πA πB:Ren P.globals.size)(cA cB:Gh)(F:Frame)(CS:List Frame)(W:xv):Prop where
 a:Cp S P fs (λR=>∃r,π₀ r R) Post πA cA F CS W
 b:Cp S P fs (λ_=>False) (λ_ w'=>∀r R,π₀ r R->w'.heap[r]? =wB.heap[r]?) πB cB F CS W
 la:Ren.le π₀ πA
 lb:Ren.le π₀ πB
 base:∀r R,π₀ r R->∃c C e F,wB.heap[r]? =some (.cells c e F)/\F0.heap[R]? =some (.cells C e F)
 old:∀r R,π₀ r R->W.heap[R]? =F0.heap[R]?
 same:∀R,(∃r,πA r R)↔∃r,πB r R
def jx.Own(a c:Ren P.globals.size)(b:Nat):Prop:=(∃r,c r b)/\¬∃r,a r b
def yp{π Pr Post c F CS W}(h:Cp S P fs Pr Post π c F CS W):c.AtE↔CS=[]/\F.mode=.returning/\F.defers=[]:=by (unfold Gh.AtE;have a:c.cs=[]↔CS=[]:=by have:=h.cs.length;exact⟨λe=>by rw[e]at this;exact Xp this.symm,λe=>by rw[e]at this;exact Xp this⟩);(have b:c.fr.defers=[]↔F.defers=[]:=by have:=h.top.defers.length;exact⟨λe=>by rw[e]at this;exact Xp this.symm,λe=>by rw[e]at this;exact Xp this⟩);rw[a,b,h.top.mode]
def Cw{R0 a b n}(d:Fle R0 a)(c:Fle a b)(f:LI n R0 b):a=R0:=by (refine Fle.back d ?_;have:b=R0:=by obtain e|⟨e1,g,e3⟩:=f;exact e;obtain e|⟨h,i⟩:=d.trans c;exact e;refine Prod.ext ?_ ?_<;>omega);rw[this]at c;exact c
def jx.step(V:Tab S P fs)(j:∀f,S.stop f=false)(k:∀g,S.calm g){d l X p wB Post T cB F CS W} (h:jx S P fs d p wB Post l X T cB F CS W) (A:¬T.AtE) (main):∃(πA' m:Ren P.globals.size) (q D:Gh) (U:Frame) (t:List Frame) (u:xv) (ev:Array Event),(Nx S (ai P fs) T q/\¬T.AtE)/\jx S P fs d p wB Post πA' m q D U t u/\(∀B,stepG P main ⟨F,CS++B,.running,none,none⟩ W=.go ⟨U,t++B,.running,none,none⟩ u ev)/\Eff (jx.Own d l) W u/\(∀b,jx.Own d l b->jx.Own d πA' b)/\(∀b,jx.Own d πA' b->jx.Own d l b\/W.heap.size<=b)/\(∀b,W.heap.size<=b->b<u.heap.size->jx.Own d πA' b)/\(∀e∈ev,mE (λR=>∃r,d r R) πA' e)/\Chg (λR=>∃r,d r R) l W u πA':=by (have J:¬cB.AtE:=by rw[yp h.b];rw[yp h.a]at A;exact A);(obtain⟨q,U,t,u,ev,πA',a1,a2,a3,n,a5⟩:=h.a.step V j A (k _) main;obtain⟨D,ad,af,W2,ag,m,b1,Y,K,I,b5⟩:=h.b.step V j J (k _) main;have K:=K [];rw[a3 []]at K;simp only[GStep.go.injEq,Goroutine.mk.injEq]at K;obtain⟨⟨e1,e2,_⟩,e3,_⟩:=K;have Z:=List.append_cancel_right e2;subst e1;subst Z;subst e3;have y:∀r R,d r R->u.heap[R]? =p.heap[R]? :=by intro r R i;obtain⟨c,C,e,z,hb,hW⟩:=h.base r R i;obtain⟨F',E⟩:=n.pD R ⟨r,i⟩ C e z (by rw[h.old r R i,hW]);obtain⟨C1,F1,G,aa⟩:=I.fz R C e z (by rw[h.old r R i,hW]);rw[E]at G;simp only[Xo,Obj.cells.injEq,Zp]at G;obtain⟨rfl,rfl⟩:=G;obtain⟨ah,c2,F2,We,v,g1,g2,g3,g4,g5⟩:=Y.TA V j k;obtain⟨C2,Fe,ab,L⟩:=g5.fz R C e F' E;obtain⟨o,O,ho,hO,M⟩:=g1.w.obj r R (g5.le _ _ (I.le _ _ (h.lb _ _ i)));rw[g3 r R i,hb]at ho;rw[ab]at hO;cases ho;cases hO;cases M with|cells _ _ hf=>rw[E,hW,Cw aa L hf]);(have H:∀R,(∃r,πA' r R)↔∃r,m r R:=by intro R;constructor;rintro⟨r,i⟩;obtain x|x:=n.old r R i;obtain⟨s,hs⟩:=(h.same R).1 ⟨r,x⟩;exact⟨s,I.le _ _ hs⟩;exact I.new R x (a2.w.lt i).2;rintro⟨r,i⟩;obtain x|x:=I.old r R i;obtain⟨s,hs⟩:=(h.same R).2 ⟨r,x⟩;exact⟨s,n.le _ _ hs⟩;exact n.new R x (Y.w.lt i).2);(have N:∀b,jx.Own d l b->jx.Own d πA' b:=λb ⟨⟨r,i⟩,Q⟩=>⟨⟨r,n.le _ _ i⟩,Q⟩);refine⟨πA',m,q,D,U,t,u,ev,a1,⟨a2,Y,Ren.le_trans h.la n.le,Ren.le_trans h.lb I.le,h.base,y,H⟩,a3,⟨n.os,n.tape,n.output,n.size,λb hb Q=>?_⟩,N,λb ⟨⟨r,i⟩,Q⟩=>?_,λb h1 h2=>?_,a5,n⟩;by_cases hp:∃r,l r b;have:∃r,d r b:=XN λhx=>Q ⟨hp,hx⟩;obtain⟨r,i⟩:=this;rw[y r b i,h.old r b i];exact n.keep b hb hp;obtain x|x:=n.old r b i;exact .inl ⟨⟨r,x⟩,Q⟩;exact .inr x;refine⟨n.new b h1 h2,λ⟨r,i⟩=>?_⟩;have:=(h.a.w.lt (h.la _ _ i)).2;omega
end
def Rw{a}:Result a->xv
 | .ok _ w=>w
 | .halt _ w=>w
def Rt{b}(τ:Nat->Question->Nat):Result b->Result b
 | .ok a w=>.ok a (aw w τ w.drawn)
 | .halt h w=>.halt h (aw w τ w.drawn)
def jT(es:Array Event):Prop:=∀e∈es,e.loc≠ .output
def Agr(w:xv)(d:Nat)(τ:Nat->Question->Nat):Prop:=∀n,w.drawn<=n->n<d->τ n=w.tape n
def Pl{f}(P)(s:Sem f):∀(w) (es),∀e∈es,e∈(s.runT P w es).2:=by
 induction s with
 |pure a=>exactλw es e b=>b
 |load m a k d=>intro w es e b;simp only[Sem.runT];cases w.cell? a with|some v=>exact d v w _ e (YL _ b)|none=>simp only[];cases w.farLoad P a (m== .atomic)with|ok r=>exact d r.1 w _ e (aan _ b)|error h=>exact b
 |store m a v k d=>intro w es e b;cases v with|agg=>exact b|tuple=>exact b|_=>simp only[Sem.runT];cases w.cell? a with|some v=>simp only[];split;exact b;exact d _ _ e (YL _ b)|none=>simp only[];split;exact d _ _ e (aan _ b);exact b
 |new o k d=>exactλw es=>d _ _ _
 |shape r k d=>exactλw es=>d _ _ _
 |freeze a n k d=>exactλw es=>d _ _
 |frozen a k d=>exactλw es=>d _ _ _
 |getObj r k d=>intro w es e b;simp only[Sem.runT];split;exact b;exact d _ _ _ e (YL _ b);exact b
 |setObj r o k d=>intro w es e b;simp only[Sem.runT];split;exact b;exact d _ _ e (YL _ b);exact b
 |choose q k d=>intro w es e b;simp only[Sem.runT];split;exact d _ _ _ e b;exact d _ _ _ e b
 |sys c k d=>exactλw es e b=>d _ _ _ e (YL _ b)
 |program k d=>exactλw es=>d _ _ _
 |mark m k d=>exactλw es e b=>d _ _ e (YL _ b)
 |halt h=>exactλw es e b=>b
def zu{P}{w w1:xv}{a v m as}(h:w.farStore P a v m=.ok (w1,as)):w1.drawn=w.drawn/\w1.tape=w.tape:=by have:=iu P w w.tape w.drawn a v m;rw[show aw w w.tape w.drawn=w from rfl,h]at this;simp only[Except.map,Except.ok.injEq,ZM,and_true]at this;rw[this];exact⟨rfl,rfl⟩
def Mu{z}(P)(s:Sem z):∀(w) (es),jT (s.runT P w es).2->w.drawn<=(Rw (s.runT P w es).1).drawn/\(Rw (s.runT P w es).1).tape=w.tape/\∀τ,Agr w (Rw (s.runT P w es).1).drawn τ->s.runT P (aw w τ w.drawn) es=(Rt τ (s.runT P w es).1,(s.runT P w es).2):=by
 induction s with
 |pure a=>exactλw es _=>⟨Wv _,rfl,λτ _=>rfl⟩
 |load m a k d=>intro w es h;simp only[Sem.runT,show ∀τ,(aw w τ w.drawn).cell? a=w.cell? a fromλ_=>rfl,show ∀τ,(aw w τ w.drawn).farLoad P a (m== .atomic)=w.farLoad P a (m== .atomic)fromλ_=>rfl]at h⊢;cases i:w.cell? a with|some v=>simp only[i]at h⊢;exact d v w _ h|none=>simp only[i]at h⊢;cases j:w.farLoad P a (m== .atomic)with|ok r=>simp only[j]at h⊢;exact d r.1 w _ h|error e=>exact⟨Wv _,rfl,λτ _=>rfl⟩
 |store m a v k d=>
  intro w es h;by_cases f:(∀c,v≠ .agg c)/\(∀c,v≠ .tuple c);case neg=>cases v<;>first|exact⟨Wv _,rfl,λτ _=>rfl⟩|exact absurd ⟨by simp,by simp⟩ f
  have key:∀w:xv,(Sem.store m a v k).runT P w es=match w.cell? a with
   |some _=>if w.frozen? a=true then(.halt (.unsupported (.unsafePointer "a write to bytes that a string shares")) w,es)else k.runT P (w.setCell a v) (es.push ⟨.cell a,true,m== .atomic⟩)
   |none=>match w.farStore P a v (m== .atomic)with
    | .ok (w',as)=>k.runT P w' (es++as.toArray.map (⟨.cell ·,true,m== .atomic⟩))
    | .error h=>(.halt h w,es):=by
   intro w;cases v<;>first|rfl|exact absurd rfl (f.1 _)|exact absurd rfl (f.2 _)
  simp only[key,show ∀τ,(aw w τ w.drawn).cell? a=w.cell? a fromλ_=>rfl,show ∀τ,(aw w τ w.drawn).frozen? a=w.frozen? a fromλ_=>rfl,iu]at h⊢;cases i:w.cell? a with|some B=>simp only[i]at h⊢;split;exact⟨Wv _,rfl,λτ _=>rfl⟩;rename_i A;simp only[Wt A]at h;exact d (w.setCell a v) _ h|none=>simp only[i]at h⊢;cases j:w.farStore P a v (m== .atomic)with|ok r=>obtain⟨w1,as⟩:=r;simp only[j,Except.map]at h⊢;obtain⟨e1,y⟩:=zu j;obtain⟨t,l,p⟩:=d w1 _ h;refine⟨by omega,l.trans y,λτ g=>?_⟩;have:=p τ (λn a b=>by rw[y];exact g n (by omega) b);rw[e1]at this;exact this|error e=>simp only[j,Except.map];exact⟨Wv _,rfl,λτ _=>rfl⟩
 |new o k d=>exactλw es h=>d _ {w with heap:=w.heap.push o} es h
 |shape r k d=>exactλw es h=>d _ w es h
 |freeze a n k d=>(intro w es h;have e:(w.freeze a n).drawn=w.drawn/\(w.freeze a n).tape=w.tape:=by unfold World.freeze;split<;>exact⟨rfl,rfl⟩);obtain⟨t,l,p⟩:=d (w.freeze a n) es h;refine⟨by simp only[Sem.runT];omega,l.trans e.2,λτ g=>?_⟩;simp only[Sem.runT,rI]at g⊢;have:=p τ (λn a b=>by rw[e.2];exact g n (by omega) b);rw[e.1]at this;exact this
 |frozen a k d=>exactλw es h=>d _ w es h
 |getObj r k d=>intro w es h;simp only[Sem.runT,show ∀τ,(aw w τ w.drawn).heap[r]? =w.heap[r]? fromλ_=>rfl]at h⊢;cases u:w.heap[r]? with|none=>exact⟨Wv _,rfl,λτ _=>rfl⟩|some o=>cases o<;>simp only[u]at h⊢<;>first|exact d _ w _ h|exact⟨Wv _,rfl,λτ _=>rfl⟩
 |setObj r o k d=>intro w es h;simp only[Sem.runT,show ∀τ,(aw w τ w.drawn).heap[r]? =w.heap[r]? fromλ_=>rfl]at h⊢;cases u:w.heap[r]? with|none=>exact⟨Wv _,rfl,λτ _=>rfl⟩|some o'=>cases o'<;>simp only[u]at h⊢<;>first|exact d {w with heap:=w.heap.setIfInBounds r o} _ h|exact⟨Wv _,rfl,λτ _=>rfl⟩
 |choose q k d=>intro w es h;simp only[Sem.runT]at h⊢;split;rename_i x;simp only[Wu x]at h;exact d 0 w es h;rename_i x;simp only[Wt x]at h;obtain⟨t,l,p⟩:=d _ {w with drawn:=w.drawn+1} es h;refine⟨Ww (Nat.le_succ _) t,l,λτ g=>?_⟩;have e:=g w.drawn (Wv _) t;have:=p τ (λn a b=>g n (Nat.le_of_succ_le a) b);simp only[aw]at this⊢;rw[e];exact this
 |sys c k d=>intro w es h;exact absurd rfl (h _ (Pl P (k (w.sys c).1) (w.sys c).2 (es.push ⟨.output,true,false⟩) ⟨.output,true,false⟩ Array.mem_push_self))
 |program k d=>exactλw es h=>d _ w es h
 |mark m k d=>exactλw es h=>d w _ h
 |halt h=>exactλw es _=>⟨Wv _,rfl,λτ _=>rfl⟩
end Go.Tm
namespace Go.Tm
structure me(P:Program):Prop where
 norace:∀f:Nat,(P.funcs[f]?).any (λx:Func=>x.norace)=false
 follows:P.follows .staticDataAhead=true
 stepOf:∀g,P.stepOf g=none
variable {P:Program}
def zv(g:me P)(fn es)(h:jT (seen P fn es)):jT es:=by (obtain⟨l⟩:=es;unfold seen at h;simp only[g.norace,List.foldl_toArray']at h;have key:∀(l:List Event) (k:Array Event),jT (l.foldl (λ(x:Bool×Array Event) e=>match e.loc with| .mark (.extern f)=>(false,x.2)|_=>(x.1,if x.1&& !e.sync then x.2 else x.2.push e)) (false,k)).2->jT k/\∀e∈l,e.loc≠ .output:=by intro l;induction l with|nil=>exactλk h=>⟨h,by simp⟩|cons e l d=>intro k h;rw[ZL]at h;split at h;rename_i f b;obtain⟨a,c⟩:=d k h;refine⟨a,λx hx=>?_⟩;obtain rfl|hx:=WO.1 hx;rw[b];simp;exact c x hx;simp only[ZN,WW,WU]at h;obtain⟨a,c⟩:=d (k.push e) h;refine⟨λx hx=>a x (YL _ hx),λx hx=>?_⟩;obtain rfl|hx:=WO.1 hx;exact a x Array.mem_push_self;exact c x hx);exactλe b=>(key l #[] h).2 e (by simpa using b)
def bK(f:xv->GStep):Prop:=∀w g' w' es,f w=.go g' w' es->g'.dying=none->g'.status=.running->jT es->w.drawn<=w'.drawn/\w'.tape=w.tape/\∀τ,Agr w w'.drawn τ->f (aw w τ w.drawn)=.go g' (aw w' τ w'.drawn) es
def jm(r:GStep):Prop:=∀g' w' es,r=.go g' w' es->g'.dying=none->g'.status=.running->False
def bK.go(g es):bK (λw=>.go g w es):=by intro w g' w' a h _ _ _;cases h;exact⟨Wv _,rfl,λ_ _=>rfl⟩
def bK.no{f:xv->GStep}(h:∀w,jm (f w)):bK f:=λw g' w' es e a b _=>(h w g' w' es e a b).elim
def jm.ended(o w es):jm (.ended o w es):=λ_ _ _ h=>by cases h
def bK.sem(F:me P){t}(s:Sem t)(fn)(k:Result t->Array Event->Array Event)(K:Result t->GStep) (u:∀a,(∀w es,k (.ok a w) es=seen P fn es)/\bK (λw=>K (.ok a w))) (H:∀h,(∀w,jm (K (.halt h w)))\/((∀w es,k (.halt h w) es=seen P fn es)/\bK (λw=>K (.halt h w)))):bK (λw=>GStep.after (k (s.runT P w #[]).1 (s.runT P w #[]).2) (K (s.runT P w #[]).1)):=by (intro w g' w' es h v y G;dsimp only at h⊢;have z:∃es0,K (s.runT P w #[]).1=.go g' w' es0/\es=k (s.runT P w #[]).1 (s.runT P w #[]).2++es0:=by cases j:K (s.runT P w #[]).1<;>rw[j]at h<;>simp only[GStep.after]at h<;>cases h;exact⟨_,rfl,rfl⟩);obtain⟨es0,j,rfl⟩:=z;have l:jT es0:=λe A=>G e (Array.mem_append_right _ A);have c:jT (k (s.runT P w #[]).1 (s.runT P w #[]).2):=λe A=>G e (aan _ A);have d:=Mu P s w #[];cases m:s.runT P w #[]with|mk r o=>rw[m]at j c d;cases r with|ok a w1=>obtain⟨f,B⟩:=u a;rw[f]at c;obtain⟨g,i,p⟩:=d (zv F fn o c);obtain⟨k1,C,D⟩:=B w1 g' w' es0 j v y l;simp only[Rw]at g i p;refine⟨Ww g k1,C.trans i,λτ q=>?_⟩;have e1:=p τ (λn a b=>q n a (Wy b k1));have E:=D τ (λn a b=>by rw[i];exact q n (Ww g a) b);simp only[e1,Rt,f,GStep.after,E]|halt x w1=>obtain f|⟨f,B⟩:=H x;exact(f w1 g' w' es0 j v y).elim;rw[f]at c;obtain⟨g,i,p⟩:=d (zv F fn o c);obtain⟨k1,C,D⟩:=B w1 g' w' es0 j v y l;simp only[Rw]at g i p;refine⟨Ww g k1,C.trans i,λτ q=>?_⟩;have e1:=p τ (λn a b=>q n a (Wy b k1));have E:=D τ (λn a b=>by rw[i];exact q n (Ww g a) b);simp only[e1,Rt,f,GStep.after,E]
def bK.run(q)(K:Result Nat->GStep)(c:∀a,bK (λw=>K (.ok a w)))(m:∀h,bK (λw=>K (.halt h w))):bK (λw=>K ((choose q).run P w)):=by intro w g' w' es h d f g;dsimp only at h⊢;simp only[choose,Sem.run,pure]at h⊢;by_cases i:q.forced=true;simp only[Wu i]at h⊢;exact c 0 w g' w' es h d f g;simp only[Wt i]at h⊢;obtain⟨k1,k,l⟩:=c _ {w with drawn:=w.drawn+1} g' w' es h d f g;refine⟨Ww (Nat.le_succ _) k1,k,λτ j=>?_⟩;have e:=j w.drawn (Wv _) k1;have:=l τ (λn a b=>j n (Nat.le_of_succ_le a) b);simp only[aw]at this⊢;rw[e];exact this
end Go.Tm
namespace Go.Tm
section
variable {G:Nat}
def idR(G)(B:Nat->Prop):Ren G:=⟨λr R=>r=R/\B r,λ_ _ _ h a=>h.1.symm.trans a.1,λ_ _ _ h a=>h.1.trans a.1.symm,λ_ _ h=>by rw[h.1]⟩
theorem mR(π:Ren G):∀V,∃v,aD π v V
 | .bool b=>⟨_,.bool b⟩
 | .int k n=>⟨_,.int k n⟩
 | .float k b=>⟨_,.float k b⟩
 | .complex k a b=>⟨_,.complex k a b⟩
 | .string s=>⟨_,.string s⟩
 | .pointer none=>⟨_,.LG⟩
 | .pointer (some a)=>⟨_,.nE _ rfl⟩
 | .slice none l c=>⟨_,.jv l c⟩
 | .slice (some a) l c=>⟨_,.nE _ rfl⟩
 | .map none=>⟨_,.Ol⟩
 | .map (some r)=>⟨_,.nE _ rfl⟩
 | .chan none=>⟨_,.Ui⟩
 | .chan (some r)=>⟨_,.nE _ rfl⟩
 | .func (.method n) f c=>⟨_,.LH n f c⟩
 | .func (.func g) f c=>⟨_,.nE _ rfl⟩
 | .func (.methodOf t n) f c=>⟨_,.nE _ rfl⟩
 | .func (.via t p g b) f c=>⟨_,.nE _ rfl⟩
 | .func (.yield l) f c=>⟨_,.nE _ rfl⟩
 | .nilFunc=>⟨_,.nilFunc⟩
 | .iface t v=>⟨_,.nE _ rfl⟩
 | .nilIface=>⟨_,.nilIface⟩
 | .agg cs=>by
  have h:∀i:Nat,∃v,∀x,cs[i]? =some x->aD π v x:=λi=>by
   by_cases e:i<cs.size
   .obtain⟨v,m⟩:=mR π cs[i]
    exact⟨v,λx d=>by rw[W4 e]at d;cases d;exact m⟩
   .exact⟨.bool false,λx d=>by rw[Yf (by omega)]at d;cases d⟩
  refine⟨.agg (Array.ofFn λi:Fin cs.size=>(h i).choose),.agg (by simp) λi x X d j=>?_⟩;have e:=(WC.1 j).1;simp only[Array.getElem?_ofFn,e,Yw,Xo]at d;subst d;exact(h i).choose_spec X j
 | .tuple cs=>by
  have h:∀i:Nat,∃v,∀x,cs[i]? =some x->aD π v x:=λi=>by
   by_cases e:i<cs.size
   .obtain⟨v,m⟩:=mR π cs[i]
    exact⟨v,λx d=>by rw[W4 e]at d;cases d;exact m⟩
   .exact⟨.bool false,λx d=>by rw[Yf (by omega)]at d;cases d⟩
  refine⟨.tuple (Array.ofFn λi:Fin cs.size=>(h i).choose),.tuple (by simp) λi x X d j=>?_⟩;have e:=(WC.1 j).1;simp only[Array.getElem?_ofFn,e,Yw,Xo]at d;subst d;exact(h i).choose_spec X j
noncomputable def mask(π:Ren G)(V:x6):x6:=open Classical in if aD π V V then V else match V with
 | .slice (some _) 0 0=>.slice (some ⟨0,0,some 0⟩) 0 0
 |_=>(mR π V).choose
def PV(π:Ren G)(V):aD π (mask π V) V:=by unfold mask;split;assumption;split;exact .sC _;exact(mR π V).choose_spec
def jJ{π:Ren G}{V}(h:aD π V V):mask π V=V:=Wu h
def Ka(π:Ren G)(c):∃b,mask π (.slice c 0 0)=.slice b 0 0:=by cases c with|none=>exact⟨none,jJ (.jv _ _)⟩|some a=>unfold mask;split;exact⟨_,rfl⟩;exact⟨_,rfl⟩
noncomputable def lA(π:Ren G)(fz:Prop):Obj->Obj
 | .cells c e f=>.cells (c.map (mask π)) e (open Classical in if fz then(0,max f.2 (c.size+1))else f)
 |o=>o
noncomputable def dD(π:Ren G)(fz:Nat->Prop)(W:xv):xv:={W with heap:=(Array.range W.heap.size).map λb=>lA π (fz b) (W.heap[b]?.getD default)}
def gX(π:Ren G)(fz W b):(dD π fz W).heap[b]? =(W.heap[b]?).map (lA π (fz b)):=by unfold dD;simp only[Xd,Array.getElem?_range];by_cases a:b<W.heap.size;simp[a];simp[a]
def mr(π:Ren G)(fz W):(dD π fz W).heap.size=W.heap.size:=by simp[dD]
def lM{S B Pr W}(d:∀b,B b->∃o,W.heap[b]? =some o/\((∃c e f,o=.cells c e f)\/(¬Pr b/\(∀c e f,o≠ .cells c e f)/\gL S (idR G B) o o)))(g:∀b,Pr b->B b)(p:G<=W.heap.size)(j:∃c e f,W.heap[0]? =some (.cells c e f)):bE S Pr (idR G B) (dD (idR G B) Pr W) W:=by refine⟨λr R h=>?_,λr R h k=>?_,λR h=>?_,by rw[mr];exact p,p,by obtain⟨c,e,f,j⟩:=j;rw[gX,j];exact⟨_,_,_,rfl⟩⟩;obtain⟨rfl,l⟩:=h;obtain⟨o,a,m⟩:=d r l;refine⟨lA (idR G B) (Pr r) o,o,by rw[gX,a];rfl,a,?_⟩;obtain⟨c,e,f,rfl⟩|⟨k,n,q⟩:=m;unfold lA;refine .cells e (bf.mW λi=>?_) ?_;rw[Xd];(cases s:c[i]? with|none=>exact .none|some x=>exact .some (PV _ x));split;refine .inr ⟨rfl,?_,?_⟩;simp only[Yj];omega;simp only[];omega;exact .inl rfl;(cases o<;>first|exact absurd rfl (n _ _ _)|exact q);obtain⟨rfl,l⟩:=h;obtain⟨o,a,m⟩:=d r l;obtain⟨c,e,f,rfl⟩|⟨n,_⟩:=m;refine⟨c.map (mask (idR G B)),e,(0,max f.2 (c.size+1)),?_,rfl,?_⟩;rw[gX,a];simp[lA,k];simp only[Yj];omega;exact absurd k n;obtain⟨o,a,_⟩:=d R (g R h);exact(WC.1 a).1
end
section
variable {S:Kn} {P:Program} {fs:Array Func} {π:Ren P.globals.size}
def P4{a A}(h:VsR π a A):(SR S (ai P fs) P) VQ π (Extern.AbiNoEscape.same a) (Extern.AbiNoEscape.same A):=by have b:=h.toList;obtain⟨a⟩:=a;obtain⟨A⟩:=A;simp only[]at b;cases b with|nil=>exact aq|cons c b=>cases b with|nil=>exact aj c|cons=>exact aq
def yh(n):∀{π:Ren P.globals.size} {a A} (acc),aW π a A->(SR S (ai P fs) P) EqQ π (Extern.Bytes.loadBytes a n acc) (Extern.Bytes.loadBytes A n acc):=by
 induction n with
 |zero=>intro π a A acc h;exact aj rfl
 |succ n b=>
  intro π a A acc h;unfold Extern.Bytes.loadBytes;refine(tD h).bind ?_;intro c d v V e;cases e with
  |int k n=>cases k<;>first|exact b _ ((h.mono d).add 1)|exact aq
  |_=>exact aq
def o7{x X}(h:aD π x X):(SR S (ai P fs) P) EqQ π (Extern.Bytes.bytesOf x) (Extern.Bytes.bytesOf X):=by cases h with|string=>exact aj rfl|jv=>exact aj rfl|slice l c h=>exact yh _ _ h|sC A=>exact aj rfl|_=>exact aq
def CY{x X}(h:aD π x X):(SR S (ai P fs) P) EqQ π (Extern.Bytes.asByte x) (Extern.Bytes.asByte X):=by
 cases h with
 |int k n=>cases k<;>first|exact aj rfl|exact aq
 |_=>exact aq
def ET{a A}(h:VsR π a A):(SR S (ai P fs) P) VQ π (Extern.BytealgIndexByte.indexByte a) (Extern.BytealgIndexByte.indexByte A):=by have d:=h.toList;obtain⟨a⟩:=a;obtain⟨A⟩:=A;simp only[]at d;cases d with|nil=>exact aq|cons e d=>cases d with|nil=>exact aq|cons f d=>cases d with|cons=>exact aq|nil=>refine(o7 e).bind ?_;rintro g i b _ rfl;refine(CY (f.mono i)).bind ?_;rintro j k c _ rfl;split<;>exact aj (.int _ _)
def P5{a A}(h:VsR π a A):(SR S (ai P fs) P) VQ π (Extern.BytealgCount.count a) (Extern.BytealgCount.count A):=by have d:=h.toList;obtain⟨a⟩:=a;obtain⟨A⟩:=A;simp only[]at d;cases d with|nil=>exact aq|cons e d=>cases d with|nil=>exact aq|cons f d=>cases d with|cons=>exact aq|nil=>refine(o7 e).bind ?_;rintro g i b _ rfl;refine(CY (f.mono i)).bind ?_;rintro j k c _ rfl;exact aj (.int _ _)
def Aa:∀(n t) (acc),bu acc->bu (Extern.BytealgMakeNoZero.digits n t acc):=by intro n;induction n with|zero=>exactλ_ _ h=>h|succ n a=>exactλt acc h=>a _ _ (h.push (lI _ _))
def Bu(f e){a A}(h:VsR π a A):(SR S (ai P fs) P) VQ π (Extern.BytealgMakeNoZero.makeNoZero f e a) (Extern.BytealgMakeNoZero.makeNoZero f e A):=by
 have c:=h.toList;obtain⟨a⟩:=a;obtain⟨A⟩:=A;simp only[]at c;cases c with
 |nil=>exact aq
 |cons g c=>
 cases c with
 |cons=>exact aq
 |nil=>
 cases g with
 |int k n=>(cases k<;>first|exact aq|skip);unfold Extern.BytealgMakeNoZero.makeNoZero;cases e[0]? with|none=>exact aq|some t=>(refine(aE t).bind ?_;rintro i q d _ ⟨rfl,_⟩;cases d<;>first|exact aq|skip);refine dB (.never (aF (aH _))) ?_;refine(fj _).bind ?_;rintro j r cap _ rfl;refine(sL _).bind ?_;intro l s _ _ _;refine(fj _).bind ?_;rintro m u b _ rfl;refine(jD _ (gn (Aa _ _ _ .empty))).bind ?_;intro o v a A p;exact aj (.slice _ _ p)
 |_=>exact aq
def Bv(a:∀g,S.dU g=true->π g g)(n)(b:∀g,P.globals.findIdx? (·.name==n)=some g->S.dU g=true):(SR S (ai P fs) P) AQ π (globalAddr n) (globalAddr n):=by unfold globalAddr;refine cT.bind ?_;rintro c d _ _ ⟨rfl,rfl⟩;rw[show(ai P fs).globals=P.globals from rfl];cases h:P.globals.findIdx? (·.name==n)with|none=>exact aq|some g=>exact aj (.mk (d _ _ (a g (b g h))))
def MY(k:∀g,S.dU g=true->π g g)(l:∀g,P.globals.findIdx? (·.name== "internal/bytealg.MaxLen")=some g->S.dU g=true){a A}(h:VsR π a A):(SR S (ai P fs) P) VQ π (Extern.BytealgIndex.index a) (Extern.BytealgIndex.index A):=by have d:=h.toList;obtain⟨a⟩:=a;obtain⟨A⟩:=A;simp only[]at d;cases d with|nil=>exact aq|cons n d=>cases d with|nil=>exact aq|cons o d=>cases d with|cons=>exact aq|nil=>(refine(o7 n).bind ?_;rintro p j b _ rfl;refine(o7 (o.mono j)).bind ?_;rintro f q c _ rfl;have e:(SR S (ai P fs) P) EqQ f Extern.BytealgIndex.maxLen Extern.BytealgIndex.maxLen:=by unfold Extern.BytealgIndex.maxLen;refine(Bv (λg r=>q _ _ (j _ _ (k g r))) _ l).bind ?_;intro i s x X t;refine(tD t).bind ?_;intro u y v V w;exact kj w);refine e.bind ?_;rintro i s m _ rfl;refine dB (.never (aF (.halt _))) ?_;refine dB (.never (aF (.halt _))) ?_;split<;>exact aj (.int _ _)
end
end Go.Tm
namespace Go.Tm
variable {P:Program}
def bK.ended(f:xv->Outcome×xv×Array Event):bK (λw=>.ended (f w).1 (f w).2.1 (f w).2.2):=bK.no λw=>jm.ended _ _ _
def zw(fr a m b w):jm (dieOf fr a m b w):=by intro g' w' es h c _;unfold dieOf at h;cases h;cases c
def rX(fr m w):jm (endThrow fr m w):=zw _ _ _ _ _
def Bi(fr cs d m w):jm (endFatal P fr cs d m w):=by unfold endFatal;dsimp only;split;exact zw _ _ _ _ _;exact jm.ended _ _ _;exact jm.ended _ _ _
def JU(a:me P)(fr cs d g w):jm (early P fr cs d g w):=by unfold early;simp only[a.follows,a.stepOf,XW,WW,WU];exact jm.ended _ _ _
def oS(main fr cs v)(a:fr.kind=.normal):bK (λw=>doReturn P main fr cs none v w):=by unfold doReturn;cases cs with|cons c cs=>simp only[a];exact bK.go _ _|nil=>simp only[a];cases main with|false=>exact bK.go _ _|true=>simp only[XW,WW,WU];cases P.inits.idxOf? fr.fn with|some k=>exact bK.go _ _|none=>exact bK.ended λw=>(.done v,w,_)
def qh(p f):seen p f #[]=#[]:=rfl
def Li{b}:Result b->Sem b
 | .ok a _=>.pure a
 | .halt h _=>.halt h
def Mv{a}(r:Result a):(Li r).runT P (Rw r) #[]=(r,#[]):=by cases r<;>rfl
def lJ(r):GStep.after #[] r=r:=by cases r<;>simp[GStep.after]
def bK.congr{f g:xv->GStep}(h:∀w,f w=g w)(a:bK g):bK f:=by rw[funext h];exact a
def jH{r}(h:jm r):jm (GStep.after #[] r):=by rw[lJ];exact h
def lK(f:me P)(fr cs s)(i:fr.kind=.normal):bK (λw=>stepG.apply P true fr cs none s w):=by
 have b:(fr.kind==CallKind.early)=false:=by rw[i];rfl
 refine bK.congr (λw=>?_) (bK.sem f s fr.fn (λr es=>seen P fr.fn (match r with| .halt .blocked _| .halt .waiting _| .halt (.unsupported (.initOrder _)) _=>#[]|_=>es)) (λr=>stepG.apply P true fr cs none (Li r) (Rw r)) ?_ ?_);unfold stepG.apply;simp only[WL,b,WW,WU,Mv];generalize s.runT P w #[]=j;obtain⟨r,es⟩:=j;dsimp only;obtain⟨a,w1⟩|⟨h,w1⟩:=r;simp only[qh,lJ];cases h with|unsupported u=>cases u<;>simp only[qh,lJ]|_=>simp only[qh,lJ]
 .intro a
  refine⟨λw es=>rfl,?_⟩;unfold stepG.apply;simp only[WL,b,WW,WU,Li,Rw,Sem.runT,qh,lJ];cases a with
  |callThen d r k wr=>dsimp only;split<;>exact bK.go _ _
  |row r args=>dsimp only;split<;>exact bK.go _ _
  |stack r k=>dsimp only;split<;>exact bK.go _ _
  |recover=>dsimp only;split<;>exact bK.go _ _
  |spawn d=>(refine bK.no λw=>?_;dsimp only;repeat' split);all_goals first|exact rX _ _ _|exactλ_ _ _ h=>by cases h
  |_=>first|exact bK.go _ _|exact bK.no λw _ _ _ h=>by cases h
 intro h
 unfold stepG.apply;simp only[WL,b,WW,WU,Li,Rw,Sem.runT,qh,lJ];cases h with
 |panic v=>exact .inr ⟨λw es=>rfl,bK.go _ _⟩
 |goexit=>exact .inr ⟨λw es=>rfl,bK.go _ _⟩
 |blocked=>exact .inl λw g' w' es h _ e=>by cases h;cases e
 |waiting=>exact .inl λw g' w' es h _ e=>by cases h;cases e
 |exit c=>exact .inl λw=>jH (jm.ended _ _ _)
 |fatal m=>exact .inl λw=>jH (Bi _ _ _ _ _)
 |throw m=>exact .inl λw=>jH (rX _ _ _)
 |unsupported u=>cases u with|initOrder g=>exact .inl λw=>jH (JU f _ _ _ _ _)|_=>exact .inl λw=>jH (jm.ended _ _ _)
 |stuck m=>exact .inl λw=>jH (jm.ended _ _ _)
def Pm(a:me P)(fr cs)(b:fr.kind=.normal):bK (λw=>stepG.oper P true fr cs none w):=by unfold stepG.oper;cases fr.oper? with|none=>exact bK.no λw=>jm.ended _ _ _|some o=>dsimp only;split;exact lK a fr cs _ b;exact lK a fr cs _ b
def bK.Pn(d:me P){c F}(s:Sem c)(fn)(K:Result c->GStep)(e:∀w,F w=GStep.after (seen P fn (s.runT P w #[]).2) (K (s.runT P w #[]).1)) (b:∀a,bK (λw=>K (.ok a w))) (f:∀h,bK (λw=>K (.halt h w))):bK F:=
 bK.congr e (bK.sem d s fn (λ_ es=>seen P fn es) K (λa=>⟨λ_ _=>rfl,b a⟩) λh=>.inr ⟨λ_ _=>rfl,f h⟩)
def Mw(b:me P)(main:Bool)(fr:Frame)(cs:List Frame)(c:fr.kind=.normal)(jump:Option Code):bK (λw=>match fr.roundOf with
 |none=>if jump matches none|some .ret then GStep.go {frame:={fr with mode:=.returning},callers:=cs,status:=.running,dying:=none} w else GStep.ended (.stuck "exit, goto: no such block or label" (fr.pos P)) w
 |some l=>GStep.after (seen P fr.fn ((Instr.endRound l jump).runT P w #[]).2) (match((Instr.endRound l jump).runT P w #[]).1 with
  | .ok v w=>doReturn P main fr cs none v w
  | .halt _ w=>GStep.ended (.stuck "range over a function: no such loop" (fr.pos P)) w)):=by
 cases fr.roundOf with
 |none=>
  dsimp only;split
  .simp only[WL];exact bK.go _ _
  .simp only[WL];exact bK.go _ _
  .simp only[WW,WU];exact bK.no λw=>jm.ended _ _ _
 |some l=>
  exact bK.Pn b (Instr.endRound l jump) fr.fn (λr=>match r with
   | .ok v w=>doReturn P main fr cs none v w
   | .halt _ w=>GStep.ended (.stuck "range over a function: no such loop" (fr.pos P)) w) (λw=>rfl) (λa=>oS main fr cs a c) λh=>bK.no λw=>jm.ended _ _ _
def Po(n:me P)(main fr cs)(m:fr.kind=.normal):bK (λw=>stepG.exec P main true fr cs none w):=by
 have j:=λfr m jump=>Mw n main fr cs m jump;obtain⟨fn,tmps,todo,defers,mode,kind,g⟩:=fr;unfold stepG.exec;cases todo with
 |nil=>exact j _ m none
 |cons x k=>
  cases x with
  |code c=>
   cases c with
   |ret=>exact j _ m (some .ret)
   |skip=>exact bK.go _ _
   |label=>exact bK.go _ _
   |seq=>exact bK.go _ _
   |cond c a b=>dsimp only;generalize Frame.eval _ c=v;cases v<;>first|exact bK.go _ _|exact bK.no λw=>jm.ended _ _ _
   |block=>exact bK.go _ _
   |loop=>exact bK.go _ _
   |scope=>exact bK.go _ _
   |exit o=>dsimp only;cases exitTo o k with|none=>exact j _ m (some (.exit o))|some q=>exact bK.go _ _
   |goto l=>dsimp only;cases gotoIn l k with|none=>exact j _ m (some (.goto l))|some q=>exact bK.go _ _
   |rangeFunc f params assign body=>
    exact bK.Pn n (Instr.enterLoop fn tmps params assign body g) fn (λr=>match r with
     | .ok (l,mark) w=>stepG.apply P true ⟨fn,tmps,.inRangeFunc l::k,mark++defers,mode,kind,g⟩ cs none (do let d <-resolve (⟨fn,tmps,.inRangeFunc l::k,mark++defers,mode,kind,g⟩:Frame).eval {callee:=.value f,args:=#[.const (.func (.yield l) #[] #[])],argTypes:=#[]} 0;invoke d.target d.args) w
     | .halt _ w=>GStep.ended (.stuck "range over a function: no such loop" (Frame.pos P ⟨fn,tmps,.code (.rangeFunc f params assign body)::k,defers,mode,kind,g⟩)) w) (λw=>rfl) (λa=>lK n _ cs _ m) λh=>bK.no λw=>jm.ended _ _ _
   |refuse=>exact bK.no λw=>jm.ended _ _ _
   |region o ops p=>
    dsimp only;cases p with
    |false=>exact bK.go _ _
    |true=>
     exact bK.run (P:=P) (.order fn o) (λr=>match r with
      | .ok t w=>GStep.go {frame:=⟨fn,tmps,.inRegion ops (Region.schedule (P.follows .mixedOrders) ops t)::k,defers,mode,kind,g⟩,callers:=cs,status:=.running,dying:=none} w
      | .halt _ w=>GStep.ended (.stuck "order" (Frame.pos P ⟨fn,tmps,.code (.region o ops true)::k,defers,mode,kind,g⟩)) w) (λa=>bK.go _ _) λh=>bK.no λw=>jm.ended _ _ _
  |inBlock=>exact bK.go _ _
  |inLoop=>exact bK.go _ _
  |inScope=>exact bK.go _ _
  |inRegion ops l=>cases l with|nil=>exact bK.go _ _|cons i rest=>dsimp only;split;exact Pm n _ cs m;exact bK.go _ _
  |call d b r s=>exact lK n _ cs _ m
  |extern row args=>dsimp only;cases Extern.next row with|none=>exact bK.no λw=>jm.ended _ _ _|some e=>exact lK n _ cs _ m
  |inRangeFunc=>exact bK.no λw=>jm.ended _ _ _
  |beginRound=>exact lK n _ cs _ m
  |endRangeFunc l=>
   exact bK.Pn n (Instr.endLoop l) fn (λr=>match r with
    | .ok jump w=>GStep.go {frame:=⟨fn,tmps,(jump.map Item.code).toList++k,defers,mode,kind,g⟩,callers:=cs,status:=.running,dying:=none} w
    | .halt (.panic v) w=>GStep.go {frame:=Frame.raise ⟨fn,tmps,.endRangeFunc l::k,defers,mode,kind,g⟩ [{v,recovered:=false}],callers:=cs,status:=.running,dying:=none} w
    | .halt _ w=>GStep.ended (.stuck "range over a function: no such loop" (Frame.pos P ⟨fn,tmps,.endRangeFunc l::k,defers,mode,kind,g⟩)) w) (λw=>rfl) (λa=>bK.go _ _) λh=>by cases h<;>first|exact bK.go _ _|exact bK.no λw=>jm.ended _ _ _
def JV(c:me P)(main fr cs)(d:fr.kind=.normal)(f:∀D∈fr.defers,∃r,D=⟨.collected r,#[]⟩)(e:fr.mode=.returning):bK (λw=>unwind P main fr cs none w):=by
 obtain⟨fn,tmps,todo,defers,mode,kind,b⟩:=fr;unfold unwind;cases defers with
 |cons D ds=>
  obtain⟨r,rfl⟩:=f D (.head _);exact bK.Pn c (Instr.takeDeferred r) fn (λx=>match x with
   | .ok calls w=>GStep.go {frame:=⟨fn,tmps,todo,calls++ds,mode,kind,b⟩,callers:=cs,status:=.running,dying:=none} w
   | .halt _ w=>GStep.ended (.stuck "the deferred calls of a range-over-func loop have been taken" (Frame.pos P ⟨fn,tmps,todo,⟨.collected r,#[]⟩::ds,mode,kind,b⟩)) w) (λw=>rfl) (λa=>bK.go _ _) λh=>bK.no λw=>jm.ended _ _ _
 |nil=>
  simp only at e;subst e;dsimp only;cases j:P.funcs[fn]? with
  |none=>exact oS main _ cs _ d
  |some g=>
   refine bK.Pn c (results g tmps) fn (λx=>match x with
    | .ok v w=>doReturn P main ⟨fn,tmps,todo,[],.returning,kind,b⟩ cs none v w
    | .halt (.stuck s) w=>GStep.ended (.stuck s (Frame.pos P ⟨fn,tmps,todo,[],.returning,kind,b⟩)) w
    | .halt _ w=>GStep.ended (.stuck "return: the result variables cannot be read" (Frame.pos P ⟨fn,tmps,todo,[],.returning,kind,b⟩)) w) (λw=>?_) (λa=>oS main _ cs a d) λh=>?_
   dsimp only;generalize (results g tmps).runT P w #[]=i;obtain⟨r,es⟩:=i;obtain⟨a,w1⟩|⟨h,w1⟩:=r;rfl;cases h<;>rfl;cases h<;>exact bK.no λw=>jm.ended _ _ _
def xq(b:me P)(main){fr cs}(c:fr.kind=.normal)(d:∀D∈fr.defers,∃r,D=⟨.collected r,#[]⟩)(f:fr.mode=.run\/fr.mode=.returning){w w' g' es} (h:stepG P main ⟨fr,cs,.running,none,none⟩ w=.go g' w' es) (a:g'.dying=none) (g:g'.status=.running) (i:jT es):w.drawn<=w'.drawn/\w'.tape=w.tape/\∀τ,Agr w w'.drawn τ->stepG P main ⟨fr,cs,.running,none,none⟩ (aw w τ w.drawn)=.go g' (aw w' τ w'.drawn) es:=by (have key:bK (λw=>stepG P main ⟨fr,cs,.running,none,none⟩ w):=by unfold stepG;obtain e|e:=f;simp only[e];exact Po b main fr cs c;simp only[e];exact JV b main fr cs c d e);exact key w g' w' es h a g i
end Go.Tm

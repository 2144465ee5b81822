import Derived.Calls
import Derived.Test.YtaglpcmhopjebaaGreatDoorY7
set_option linter.all false
set_option maxRecDepth 100000
set_option maxHeartbeats 20000000
namespace Go.Tm
section
variable {S:Kn} {P:Program} {fs:Array Func} {Pr:Nat->Prop} {B₀:List Frame} {st:List Bool} {π:Ren P.globals.size} {w W:World} {d:Nat}
def dv.congr{b gs' GS a}(c:∀w,b w=gs' w)(e:GS=a)(h:dv S Pr P fs B₀ st π w W d gs' a):dv S Pr P fs B₀ st π w W d b GS:=by rw[e,funext c];exact h
def Aw(E:Tab S P fs)(J:∀g,S.dB g=true->π g g){f F}(h:aZ S π f F)(main i){cs CS}(y:bg (aZ S π) cs CS)(j:f.roundOf≠none->cs≠[])
 (p:f.mode=.returning->f.defers=[]->cs≠[]) (K:S.calm (W.tape W.drawn)) (z:bj S Pr π w W):
 dv S Pr P fs B₀ (rb f::cs.map rb) π w W d (λw=>stepG (ah P fs) main ⟨f,cs++B₀,.running,none,none⟩ w) (λB=>stepG P i ⟨F,CS++B,.running,none,none⟩ W):=by
 have e:=h.mode;unfold stepG;obtain hm|hm:=h.calm
 ·rw[hm]at e
  simp only[hm,e];exact Av E J h hm main i y j K z
 ·rw[hm]at e
  simp only[hm,e];unfold unwind;have m:=h.defers;cases n:f.defers with
  |nil=>
   rw[n]at m;cases k:F.defers with
   |cons=>rw[k]at m;cases m
   |nil=>
    simp only[hm,e];obtain⟨_,g,c,e1,G,_,M,A⟩:=E.ent _ h.ent;rw[h.fn];simp only[show(ah P fs).funcs=fs from rfl,e1,G];have key:=nS (Pr:=Pr) (B₀:=B₀) (d:=d) (fs:=fs) h main i y (p hm n) (qf g h.tmps) z
     (gh:=λx w=>match x with| .stuck s=>.ended (.stuck s (f.pos (ah P fs))) w|_=>.ended (.stuck "return: the result variables cannot be read" (f.pos (ah P fs))) w)
     (GH:=λx w=>match x with| .stuck s=>.ended (.stuck s (F.pos P)) w|_=>.ended (.stuck "return: the result variables cannot be read" (F.pos P)) w)
     (λx w=>by cases x<;>exact⟨_,_,_,rfl⟩)
    refine dv.congr ?_ ?_ key
    ·intro w
     generalize (results g f.tmps).runT (ah P fs) w #[]=r;obtain⟨r,es⟩:=r;cases r with
     |ok=>rfl
     |halt x=>cases x<;>rfl
    ·funext B
     rw[<-h.fn];generalize (results g F.tmps).runT P W #[]=r;obtain⟨r,es⟩:=r;cases r with
     |ok=>rfl
     |halt x=>cases x<;>rfl
  |cons D ds=>
   rw[n]at m;cases k:F.defers with
   |nil=>rw[k]at m;cases m
   |cons DD N=>
    rw[k]at m;cases m with
    |cons O C=>
     cases O with
     | @mk r R Q=>
      simp only[];obtain⟨L,H,T|⟨a,w',q,b,U,ev,t,V,I,⟨rfl,rfl⟩,X,v,Y⟩⟩:=(uB (S:=S) (P:=P) (fs:=fs) Q).run (Pr:=Pr) w W #[] #[] d z
      ·refine⟨L,H,.inl λτ o=>?_⟩
       obtain⟨x,w',q,e1,G,e3⟩:=T τ o;simp only[e1];exact jx.after _ trivial
      ·rw[S8]at I
       have l:=h.mono v.le;have u:=C.mono λ_ _ x=>oY.mono v.le x;have Z:aZ S t {f with defers:=ds} {F with defers:=N}:=⟨l.fn,l.ent,l.tmps,l.todo,u,l.mode,l.calm,l.kind,l.Kind,l.round⟩
       refine⟨L,H,.inr ⟨_,cs,w',seen (ah P fs) f.fn q++#[],_,CS,U,seen P F.fn ev++#[],t,λτ o=>?_,?_,X,v,jQ Y,y.mono λ_ _ x=>aZ.mono v.le x,.inl Z,.inl rfl⟩⟩
       ·simp only[V τ o];rfl
       ·intro B;simp only[I];rfl
end
def aI:Frame:={fn:=0,tmps:=#[],todo:=[.code (.refuse "")],defers:=[{target:=.nil,args:=#[]}],mode:=.run,kind:=.normal}
def Off(ch:List PanicEntry):Prop:=2<=ch.length
inductive yT(G:Nat):Machine->Prop
 |up {fr:Frame} {cs:List Frame} {w:World} (π:Ren G) (v):fr.mode=.panicking [{v,recovered:=false}]->(∀f∈fr::cs,Marks π f)->Dp π w->(∀f∈cs,f.mode=.run\/f.mode=.returning)->yT G (lone fr (cs++[aI]) w)
 |low (ch) (w:World):yT G (lone {aI with mode:=.panicking ch} [] w)
def MV{G m}(h:yT G m){fr w}(e:m=lone fr [aI] w):fr.mode≠ .returning/\∀ch,Off ch->fr.mode≠ .panicking ch:=by
 cases h with
 | @up fr' cs w' π ch b _ _ _=>simp only[lone,Machine.mk.injEq]at e;have a:=e.2.1;simp at a;obtain⟨rfl,_⟩:=a;rw[b];refine⟨by simp,λch c e=>?_⟩;cases e;simp[Off]at c
 |low ch w'=>simp only[lone,Machine.mk.injEq]at e;have a:=e.2.1;simp at a
def CM(P r w)(h:∀o,w.heap[r]? =some (.deferred o)->o=none\/o=some []):
 ((Instr.takeDeferred r).runT P w #[]).1=.ok [] {w with heap:=w.heap.setIfInBounds r (.deferred none)}\/∃x w',((Instr.takeDeferred r).runT P w #[]).1=.halt x w':=by
 unfold Instr.takeDeferred;cases a:w.heap[r]? with
 |none=>right;simp[getObj,bind,Sem.bind,Sem.run,a]
 |some o=>
  cases o with
  |deferred o=>
   obtain rfl|rfl:=h o a
   ·right;simp[getObj,bind,Sem.bind,Sem.run,a,stuck]
   ·left;simp[getObj,bind,Sem.bind,Sem.run,a,setObj,pure]
  |_=>right;simp[getObj,bind,Sem.bind,Sem.run,a,stuck]
def Iq{G P m}(h:yT G m):(∃o w,step P m=.ended o w)\/∃m',step P m=.next m'/\yT G m':=by
 cases h with
 |low ch w=>
  refine .inl ⟨_,_,step_lone_ended (o:=?_) (w':=w) ?_⟩;rotate_left
  ·simp[stepG,unwind,callDeferred,aI,GStep.bare]
   rfl
 | @up fr cs w π v0 l n p a=>
  have g:=n fr (.head _);cases b:fr.defers with
  |nil=>
   by_cases d:fr.catches P=true
   ·refine .inl ⟨_,_,step_lone_ended (o:=?_) (w':=w) ?_⟩
    rotate_left
    ·simp[stepG,unwind,b,l,d,GStep.bare]
     rfl
   ·cases cs with
    |nil=>refine .inr ⟨_,step_lone_go (fr':={aI with mode:=.panicking [{v:=v0,recovered:=false}]}) (cs':=[]) (w':=w) ?_,.low _ w⟩;simp[stepG,unwind,b,l,d,GStep.bare,Frame.raise,aI]
    |cons c cs=>
     have s:=n c (.tail _ (.head _));refine .inr ⟨_,step_lone_go (fr':=c.raise [{v:=v0,recovered:=false}]) (cs':=cs++[aI]) (w':=w) ?_,?_⟩
     ·simp[stepG,unwind,b,l,d,GStep.bare]
     ·have e:c.raise [{v:=v0,recovered:=false}]={c with mode:=.panicking [{v:=v0,recovered:=false}]}:=by unfold Frame.raise;rcases a c (.head _)with x|x<;>rw[x]
      rw[e];refine .up π v0 rfl (λf g=>?_) p λf g=>a f (.tail _ g);cases g with
      |head=>exact s
      |tail _ g=>exact n f (.tail _ (.tail _ g))
  |cons D ds=>
   obtain⟨r,R,rfl,t⟩:=g D (by rw[b];exact .head _);have j:=CM P r w λo i=>p r R o t i;obtain e|⟨x,w',e⟩:=j
   ·refine .inr ⟨_,step_lone_go (fr':={fr with defers:=ds}) (cs':=cs++[aI]) (w':={w with heap:=w.heap.setIfInBounds r (.deferred none)}) ?_,?_⟩
    ·simp only[stepG,l,unwind,b,e]
     rfl
    ·refine .up π v0 l (λf k=>?_) ?_ a
     ·cases k with
      |head=>exactλD u=>g D (by rw[b];exact .tail _ u)
      |tail _ k=>exact n f (.tail _ k)
     ·intro y R' o q i
      simp only[Sn]at i;split at i
      ·split at i
       ·cases i;exact .inl rfl
       ·cases i
      ·exact p y R' o q i
   ·refine .inl ⟨_,_,step_lone_ended (o:=?_) (w':=w') ?_⟩
    rotate_left
    ·simp only[stepG,l,unwind,b,e]
     rfl
def Fj{G P}:∀(n) {m},yT G m->∀{fr} {w},runN P n m=.next (lone fr [aI] w)->fr.mode≠ .returning/\∀ch,Off ch->fr.mode≠ .panicking ch:=by
 intro n;induction n with
 |zero=>intro m h fr w e;exact MV h (by simpa[runN]using e)
 |succ n c=>
  intro m h fr w e;unfold runN at e;rcases Iq (P:=P) h with⟨o,w',a⟩|⟨d,a,b⟩
  ·rw[a]at e;cases e
  ·rw[a]at e;exact c b e
structure Gh where
 fr:Frame
 cs:List Frame
 w:World
def Gh.AtE(c:Gh):Prop:=c.cs=[]/\c.fr.mode=.returning/\c.fr.defers=[]
def Gh.Flat(c:Gh):Prop:=∀b,(rb c.fr::c.cs.map rb).getLast?=some b->b=false
def Ends(P:Program)(Post:Value->World->Prop)(fr:Frame)(w':World):Prop:=(∃v,fr.leaving P w' (.returned v)/\Post v w')\/∃ch,Off ch/\fr.mode=.panicking ch/\fr.defers=[]
def Ends.Ku{P Post fr w'}(h:Ends P Post fr w')(a:fr.mode≠ .returning/\∀ch,Off ch->fr.mode≠ .panicking ch):False:=by
 obtain⟨v,h,_⟩|⟨ch,b,h,_⟩:=h
 ·exact a.1 h.1
 ·exact a.2 ch b h
def rz{P a fr x xs w0 w' ch}(g:a.mode=.panicking ch)(i:a.defers=[]):∀{n},runN P (n+1) (lone a [aI] w0)=.next (lone fr (x::xs) w')->False:=by
 intro n h;unfold runN at h;by_cases b:a.catches P=true
 ·have:∃o w2,step P (lone a [aI] w0)=.ended o w2:=by
   refine⟨_,_,step_lone_ended (o:=?_) (w':=w0) ?_⟩;rotate_left
   ·simp[stepG,unwind,i,g,b,GStep.bare]
    rfl
  obtain⟨o,w2,c⟩:=this;rw[c]at h;cases h
 ·obtain⟨f,d⟩:=ex ({aI with mode:=.panicking ch})
  have c:step P (lone a [aI] w0)=.next (lone f [] w0):=by refine step_lone_go ?_;simp[stepG,unwind,i,g,b,GStep.bare,Frame.raise,aI,d]
  rw[c]at h;change runN P n (lone f [] w0)=_ at h;cases n with
  |zero=>have e:=Stepped.next.inj h;simp only[lone,Machine.mk.injEq]at e;have:=e.2.1;simp at this
  |succ n=>
   unfold runN at h;have:∃o w2,step P (lone f [] w0)=.ended o w2:=by
    refine⟨_,_,step_lone_ended (o:=?_) (w':=w0) ?_⟩;rotate_left
    ·simp[stepG,unwind,callDeferred,aI,GStep.bare,d]
     rfl
   obtain⟨o,w2,c⟩:=this;rw[c]at h;cases h
def Gd(S:Kn)(P:Program)(Post:Value->World->Prop)(c:Gh):Prop:=(∀n,c.w.drawn<=n->S.fJ (c.w.tape n))/\∀τ,(∀n<c.w.drawn,τ n=c.w.tape n)->(∀n,c.w.drawn<=n->S.fJ (τ n))->∃n fr w',runN P n (lone c.fr (c.cs++[aI]) (av c.w τ c.w.drawn))=.next (lone fr [aI] w')/\Ends P Post fr w'
def Nx(S:Kn)(P:Program)(c c':Gh):Prop:=c.w.drawn<=c'.w.drawn/\(∀n,c.w.drawn<=n->S.fJ (c'.w.tape n))/\(∀n<c.w.drawn,c'.w.tape n=c.w.tape n)/\∃es,∀τ,(∀n<c'.w.drawn,τ n=c'.w.tape n)->stepG P true ⟨c.fr,c.cs++[aI],.running,none,none⟩ (av c.w τ c.w.drawn)=.go ⟨c'.fr,c'.cs++[aI],.running,none,none⟩ (av c'.w τ c'.w.drawn) es
def Nx.step{S P c c'}(h:Nx S P c c'){τ}(a:∀n<c'.w.drawn,τ n=c'.w.tape n):
 step P (lone c.fr (c.cs++[aI]) (av c.w τ c.w.drawn))=.next (lone c'.fr (c'.cs++[aI]) (av c'.w τ c'.w.drawn)):=by
 obtain⟨_,_,_,es,b⟩:=h;exact step_lone_go (by rw[b τ a];rfl)
def jg{fr fr' cs cs' w w'}(h:lone fr cs w=lone fr' cs' w'):fr=fr'/\cs=cs'/\w=w':=by simp only[lone,Machine.mk.injEq]at h;obtain⟨b,a,_⟩:=h;simp at a;exact⟨a.1,a.2,b⟩
def Kv{P}{c:Gh}{fr w w' v}(h:lone c.fr (c.cs++[aI]) w=lone fr [aI] w')(a:fr.leaving P w' (.returned v)):c.AtE:=by obtain⟨rfl,b,_⟩:=jg h;obtain⟨d,e,_⟩:=a;exact⟨by simpa using b,d,e⟩
def yU{S P Post c c' fr w' τ}(f:Nx S P c c')(g:∀n<c'.w.drawn,τ n=c'.w.tape n)(h:¬c.AtE)(d:lone c.fr (c.cs++[aI]) (av c.w τ c.w.drawn)=lone fr [aI] w')(a:Ends P Post fr w'):False:=by
 obtain⟨v,a,_⟩|⟨ch,_,i,j⟩:=a
 ·exact h (Kv d a)
 ·have b:=f.step g
  rw[d]at b;have:∃x xs,c'.cs++[aI]=x::xs:=by cases c'.cs<;>exact⟨_,_,rfl⟩
  obtain⟨x,xs,e⟩:=this;rw[e]at b;refine rz (n:=0) i j (x:=x) (xs:=xs) (fr:=c'.fr) (w0:=w') (w':=av c'.w τ c'.w.drawn) (P:=P) ?_;unfold runN;rw[b];rfl
def Gd.next{S P Post c c'}(h:Gd S P Post c)(a:Nx S P c c')(i:¬c.AtE):Gd S P Post c':=by
 refine⟨λn b=>a.2.1 n (Rr a.1 b),λτ e j=>?_⟩;have k:∀n<c.w.drawn,τ n=c.w.tape n:=λn d=>(e n (Ru d a.1)).trans (a.2.2.1 n d);have l:∀n,c.w.drawn<=n->S.fJ (τ n):=λn b=>by
  obtain x|x:=Ry n c'.w.drawn
  ·rw[e n x];exact a.2.1 n b
  ·exact j n x
 obtain⟨n,fr,w',f,g⟩:=h.2 τ k l;cases n with
 |zero=>exact(yU a e i (by simpa[runN]using f) g).elim
 |succ n=>unfold runN at f;rw[a.step e]at f;exact⟨n,fr,w',f,g⟩
def lZ{c:Type}{r a}(h:¬Acc r a):∃f:Nat->c,f 0=a/\∀n,r (f (n+1)) (f n):=by
 have b:∀x:{x:c//¬Acc r x},∃y:{x:c//¬Acc r x},r y.1 x.1:=by intro⟨x,i⟩;apply SQ;intro d;refine i ⟨x,λy j=>?_⟩;exact SQ λe=>d ⟨⟨y,e⟩,j⟩
 let g:Nat->{x:c//¬Acc r x}:=λn=>Nat.rec ⟨a,h⟩ (λ_ x=>(b x).choose) n;refine⟨λn=>(g n).1,rfl,λn=>?_⟩;exact(b (g n)).choose_spec
def Gd.acc{S P Post c}(h:Gd S P Post c):Acc (λc' c=>Nx S P c c'/\¬c.AtE) c:=by
 apply SQ;intro s;obtain⟨f,z,g⟩:=lZ s;have t:∀n k,(f n).w.drawn<=(f (n+k)).w.drawn:=by
  intro n k;induction k with
  |zero=>exact Rq _
  |succ k j=>exact Rr j (g (n+k)).1.1
 have p:∀n k i,i<(f n).w.drawn->(f (n+k)).w.tape i=(f n).w.tape i:=by
  intro n k;induction k with
  |zero=>intro i _;rfl
  |succ k j=>intro i l;exact((g (n+k)).1.2.2.1 i (Ru l (t n k))).trans (j i l)
 have u:∀n m i,i<(f n).w.drawn->i<(f m).w.drawn->(f n).w.tape i=(f m).w.tape i:=by
  intro n m i r A;obtain hnm|hnm:=Us n m
  ·obtain⟨k,rfl⟩:=Ud hnm
   exact(p n k i r).symm
  ·obtain⟨k,rfl⟩:=Ud hnm
   exact p m k i A
 let τ:Nat->Question->Nat:=λi=>open Classical in if h:∃n,i<(f n).w.drawn then(f h.choose).w.tape i elseλ_=>0
 have e:∀n i,i<(f n).w.drawn->τ i=(f n).w.tape i:=by
  intro n i l;have d:∃n,i<(f n).w.drawn:=⟨n,l⟩
  show(open Classical in if h:∃n,i<(f n).w.drawn then(f h.choose).w.tape i elseλ_=>0)=_;rw[Tx d];exact u _ _ i d.choose_spec l
 have o:∀n i,(f 0).w.drawn<=i->i<(f n).w.drawn->S.fJ ((f n).w.tape i):=by
  intro n;induction n with
  |zero=>intro i a b;omega
  |succ n j=>
   intro i a b;obtain x|x:=Ry i (f n).w.drawn
   ·rw[(g n).1.2.2.1 i x];exact j i a x
   ·exact(g n).1.2.1 i x
 have q:∀i,(f 0).w.drawn<=i->S.fJ (τ i):=by
  intro i l;by_cases d:∃n,i<(f n).w.drawn
  ·obtain⟨n,r⟩:=d
   rw[e n i r];exact o n i l r
  ·show S.fJ (open Classical in if h:∃n,i<(f n).w.drawn then(f h.choose).w.tape i elseλ_=>0)
   rw[dif_neg d];exact lM
 subst z;obtain⟨N,fr,w',y,B⟩:=h.2 τ (e 0) q;have v:∀n k,runN P n (lone (f k).fr ((f k).cs++[aI]) (av (f k).w τ (f k).w.drawn))=.next (lone (f (k+n)).fr ((f (k+n)).cs++[aI]) (av (f (k+n)).w τ (f (k+n)).w.drawn)):=by
  intro n;induction n with
  |zero=>intro k;rfl
  |succ n j=>intro k;unfold runN;rw[(g k).1.step (e (k+1))];have:=j (k+1);rw[show k+1+n=k+(n+1) by omega]at this;exact this
 have:=v N 0;rw[RB]at this;rw[this]at y;exact yU (g N).1 (e (N+1)) (g N).2 (Stepped.next.inj y) B
def Gd.ends{S P Post c}(h:Gd S P Post c)(y:c.AtE)(k:c.fr.kind=.normal):∃v,c.fr.leaving P c.w (.returned v)/\Post v c.w:=by
 obtain⟨n,fr,w',d,q⟩:=h.2 c.w.tape (λ_ _=>rfl) h.1;obtain⟨a,z,w0⟩:=c;obtain⟨t,j,l⟩:=y;simp only[]at t j l k d;subst t;have d:runN P n (lone a [aI] w0)=.next (lone fr [aI] w'):=d
 cases n with
 |zero=>
  obtain⟨rfl,_,rfl⟩:=jg (Stepped.next.inj d);obtain q|⟨ch,_,u,_⟩:=q
  ·exact q
  ·rw[j]at u;cases u
 |succ n=>
  exfalso;have f:∀n w1,runN P n (lone aI [] w1)≠ .next (lone fr [aI] w'):=by
   intro n w1;cases n with
   |zero=>intro e;have:=(jg (Stepped.next.inj e)).2.1;simp at this
   |succ n=>
    intro e;unfold runN at e;have:∃o w2,step P (lone aI [] w1)=.ended o w2:=by
     refine⟨_,_,step_lone_ended (o:=?_) (w':=w1) ?_⟩;rotate_left
     ·simp[stepG,stepG.exec,aI,GStep.bare]
      rfl
    obtain⟨o,w2,m⟩:=this;rw[m]at e;cases e
  unfold runN at d;have i:(∃o w2,step P (lone a [aI] w0)=.ended o w2)\/∃w1,step P (lone a [aI] w0)=.next (lone aI [] w1):=by
   cases p:P.funcs[a.fn]? with
   |none=>refine .inr ⟨w0,step_lone_go ?_⟩;simp[stepG,unwind,doReturn,j,l,k,p,Frame.finish,aI,GStep.bare]
   |some g=>
    cases b:(results g a.tmps).runT P w0 #[]with
    |mk r es=>
     cases r with
     |ok v w1=>refine .inr ⟨w1,step_lone_go ?_⟩;simp only[stepG,unwind,doReturn,j,l,k,p,b];rfl
     |halt x w1=>
      cases x with
      |stuck s=>
       refine .inl ⟨_,_,step_lone_ended (o:=?_) (w':=w1) ?_⟩;rotate_left
       ·simp only[stepG,unwind,doReturn,j,l,k,p,b]
        rfl
      |_=>
       refine .inl ⟨_,_,step_lone_ended (o:=?_) (w':=w1) ?_⟩;rotate_left
       ·simp only[stepG,unwind,doReturn,j,l,k,p,b]
        rfl
  obtain⟨o,w2,m⟩|⟨w1,m⟩:=i
  ·rw[m]at d;cases d
  ·rw[m]at d;exact f n w1 d
section
variable {S:Kn} {P:Program} {fs:Array Func} {Pr:Nat->Prop} {π:Ren P.globals.size} {W:World}
def CN{L}(a:∀g∈L,S.fJ g)(d n):S.fJ (kX d L n):=by
 unfold kX;cases h:L[n-d]? with
 |none=>exact lM
 |some g=>exact a g (SN h)
def oM{L}(a:∀g∈L,S.fJ g){d}{t:Nat->Question->Nat}:∀n,d<=n->S.fJ ((λn=>if n<d then t n else kX d L n) n):=λn b=>by show S.fJ (if n<d then t n else kX d L n);rw[Ro (by omega)];exact CN a d n
def Ir{c c':Gh}(h:c.Flat)(d:Sh (rb c.fr::c.cs.map rb) (rb c'.fr::c'.cs.map rb)):c'.Flat:=by
 unfold Gh.Flat at*;intro b a;obtain e|⟨x,e⟩|⟨x,e⟩:=d
 ·rw[e]at a;exact h b a
 ·rw[e]at a
  refine h b ?_;simpa using a
 ·refine h b ?_
  rw[e];rw[VJ];exact a
def follow(O:Tab S P fs)(Q:∀g,S.dB g=true->π g g){Post c F CS}(h:aZ S π c.fr F)(R:bg (aZ S π) c.cs CS)(T:bj S Pr π c.w W)(b:c.Flat)
 (J:Gd S (ah P fs) Post c) (m:¬c.AtE) (U:S.calm (W.tape W.drawn)) (f):
 ∃(c':Gh) (z:Frame) (j:List Frame) (q:World) (ev:Array Event) (a:Ren P.globals.size),Nx S (ah P fs) c c'/\Gd S (ah P fs) Post c'/\(∀B,stepG P f ⟨F,CS++B,.running,none,none⟩ W=.go ⟨z,j++B,.running,none,none⟩ q ev)/\bj S Pr a c'.w q/\Chg Pr π W q a/\(∀e∈ev,kE Pr a e)/\bg (aZ S a) c'.cs j/\Io S P fs a c'.cs c'.fr z/\c'.Flat:=by
 have k:c.fr.roundOf≠none->c.cs≠[]:=by intro l D;have:=b (rb c.fr) (by rw[D];rfl);unfold rb at this;cases hx:c.fr.roundOf<;>simp_all
 have s:c.fr.mode=.returning->c.fr.defers=[]->c.cs≠[]:=λV X Y=>m ⟨Y,V,X⟩;obtain⟨L,K,Z|⟨fr',cs',w',es,z,j,q,ev,a,g1,g2,g3,g4,g5,g6,g7,g8⟩⟩:=Aw (B₀:=[aI]) (d:=c.w.drawn) O Q h true f R k s U T
 ·exfalso
  let τ:Nat->Question->Nat:=λn=>if n<c.w.drawn then c.w.tape n else kX c.w.drawn L n
  have E:Fits τ c.w.drawn L:=λi g A=>by show(if c.w.drawn+i<c.w.drawn then _ else _)=g;rw[Ro (by omega)];exact kG c.w.drawn L i g A
  obtain⟨n,fr,w',l,C⟩:=J.2 τ (λn G=>Rp G) (oM K);have p:jx P.globals.size [aI] (stepG (ah P fs) true ⟨c.fr,c.cs++[aI],.running,none,none⟩ (av c.w τ c.w.drawn)):=Z τ E;cases n with
  |zero=>
   obtain⟨v,C,_⟩|⟨ch,_,hm,_⟩:=C
   ·exact m (Kv (Stepped.next.inj l) C)
   ·have t:=h.calm
    rw[(jg (Stepped.next.inj l)).1,hm]at t;rcases t with x|x<;>cases x
  |succ n=>
   unfold runN at l;generalize u:stepG (ah P fs) true ⟨c.fr,c.cs++[aI],.running,none,none⟩ (av c.w τ c.w.drawn)=r at p;cases r with
   |ended o w2 H=>rw[step_lone_ended (by rw[u];rfl)]at l;cases l
   |go g w2 H=>obtain⟨I,aa,e1,M,e3,e4,⟨ch,e5⟩,e6,e7,e8⟩:=p;obtain⟨gf,gc,gs,gd,go⟩:=g;simp only[]at e1 M e3 e4 e5 e6;subst e1 M e3 e4;rw[step_lone_go (by rw[u];rfl)]at l;exact C.Ku (Fj n (.up I ch e5 e6 e7 e8) l)
   |_=>exact p
 ·let τ:Nat->Question->Nat:=λn=>if n<c.w.drawn then c.w.tape n else kX c.w.drawn L n
  have N:Nx S (ah P fs) c ⟨fr',cs',av w' τ (c.w.drawn+L.length)⟩:=by
   refine⟨Nat.le_add_right _ _,oM K,λn G=>Rp G,es,λy h'=>?_⟩;have hf:Fits y c.w.drawn L:=λi g A=>by have ab:=(Ts.1 A).1;rw[h' (c.w.drawn+i) (show c.w.drawn+i<c.w.drawn+L.length by omega)];show(if c.w.drawn+i<c.w.drawn then _ else _)=g;rw[Ro (by omega)];exact kG c.w.drawn L i g A
   exact g1 y hf
  exact⟨⟨fr',cs',av w' τ (c.w.drawn+L.length)⟩,z,j,q,ev,a,N,J.next N m,g2,g3.heap rfl rfl,g4,g5,g6,g7,Ir b g8⟩
end
def CO{S P Post f args w}(b:∀n,w.drawn<=n->S.fJ (w.tape n))
 (h:∀τ,(∀n<w.drawn,τ n=w.tape n)->(∀n,w.drawn<=n->S.fJ (τ n))->Calls P f args (av w τ w.drawn) λe w'=>∃v,e=.returned v/\Post v w'):Gd S P Post ⟨Frame.enter P f args .normal,[],w⟩:=by
 refine⟨b,λτ c a=>?_⟩;obtain⟨e,w',fr,⟨v,rfl,d⟩,g,_,i⟩:=h τ c a [aI];obtain⟨n,j⟩:=g;exact⟨n,fr,w',j,.inl ⟨v,i,d⟩⟩
def Ax{S P Post f args w}(d:∀n,w.drawn<=n->S.fJ (w.tape n))
 (h:∀τ,(∀n<w.drawn,τ n=w.tape n)->Calls P f args (av w τ w.drawn) λe w'=>(∃v,e=.returned v/\Post v w')\/∃ch,Off ch/\e=.panicked ch):Gd S P Post ⟨Frame.enter P f args .normal,[],w⟩:=by
 refine⟨d,λτ g _=>?_⟩;obtain⟨e,w',fr,i,c,_,a⟩:=h τ g [aI];obtain⟨v,rfl,j⟩|⟨ch,k,rfl⟩:=i
 ·obtain⟨n,b⟩:=c
  exact⟨n,fr,w',b,.inl ⟨v,a,j⟩⟩
 ·obtain⟨n,b⟩:=c
  exact⟨n,fr,w',b,.inr ⟨ch,k,a.1,a.2.1⟩⟩
section
variable {S:Kn} {P:Program} {fs:Array Func} {Pr:Nat->Prop}
structure Cp(S:Kn)(P:Program)(fs:Array Func)(Pr:Nat->Prop)(Post:Value->World->Prop)(π:Ren P.globals.size)(c:Gh)(F:Frame)(CS:List Frame)(W:World):Prop where
 top:aZ S π c.fr F
 cs:bg (aZ S π) c.cs CS
 w:bj S Pr π c.w W
 flat:c.Flat
 qg:Gd S (ah P fs) Post c
 dB:∀g,S.dB g=true->π g g
def Cp.step(p:Tab S P fs)(i:∀f,S.stop f=false){Post π c F CS W}(h:Cp S P fs Pr Post π c F CS W)(j:¬c.AtE)(q:S.calm (W.tape W.drawn))(main):
 ∃(c':Gh) (l:Frame) (d:List Frame) (k:World) (ev:Array Event) (b:Ren P.globals.size),(Nx S (ah P fs) c c'/\¬c.AtE)/\Cp S P fs Pr Post b c' l d k/\(∀B,stepG P main ⟨F,CS++B,.running,none,none⟩ W=.go ⟨l,d++B,.running,none,none⟩ k ev)/\Chg Pr π W k b/\∀e∈ev,kE Pr b e:=by
 obtain⟨c',l,d,k,ev,b,r,s,t,u,n,v,x,m,y⟩:=follow p h.dB h.top h.cs h.w h.flat h.qg j q main;refine⟨c',l,d,k,ev,b,⟨r,j⟩,⟨?_,x,u,y,s,λg z=>n.le _ _ (h.dB g z)⟩,t,n,v⟩;obtain m|⟨_,g,a,A,o,_⟩:=m
 ·exact m
 ·rw[i g]at o;cases o
def Cp.Ox(m:Tab S P fs)(a:∀f,S.stop f=false)(b:∀g,S.calm g){Post π c F CS W}(h:Cp S P fs Pr Post π c F CS W):
 ∃(π':Ren P.globals.size) (c':Gh) (n:Frame) (k:World) (v:Value),Cp S P fs Pr Post π' c' n [] k/\c'.AtE/\Post v c'.w/\c'.fr.leaving (ah P fs) c'.w (.returned v)/\Chg Pr π W k π':=by
 have d:=h.qg.acc;induction d generalizing π F CS W with
 |intro c _ o=>
  by_cases j:c.AtE
  ·obtain⟨v,p,q⟩:=h.qg.ends j h.top.kind
   have e:=h.cs;rw[j.1]at e;cases e;exact⟨π,c,F,W,v,h,j,q,p,Chg.refl _ _ _⟩
  ·obtain⟨c',E,r,k,ev,π',s,t,_,i,_⟩:=h.step m a j (b _) true
   obtain⟨l,u,x,y,v,z,A,B,C,D⟩:=o c' s t;exact⟨l,u,x,y,v,z,A,B,C,i.trans D⟩
def Gd.av{S P Post c}(h:Gd S P Post c){τ:Nat->Question->Nat}(f:∀n<c.w.drawn,τ n=c.w.tape n)(g:∀n,c.w.drawn<=n->S.fJ (τ n)):Gd S P Post ⟨c.fr,c.cs,av c.w τ c.w.drawn⟩:=⟨g,λa b d=>h.2 a (λn e=>(b n e).trans (f n e)) d⟩
def Cp.returns(z:Tab S P fs){Post π c F CS W}(h:Cp S P fs Pr Post π c F CS W)(r:c.AtE)(C B main):
 CS=[]/\∃(v V:Value) (w' l:World) (ev:Array Event) (f:Ren P.globals.size),Post v w'/\w'.heap=c.w.heap/\stepG P main ⟨F,C::B,.running,none,none⟩ W=.go ⟨C.finish V,B,.running,none,none⟩ l ev/\az f v V/\bj S Pr f w' l/\Chg Pr π W l f/\∀e∈ev,kE Pr f e:=by
 have m:=h.cs;rw[r.1]at m;refine⟨by cases m;rfl,?_⟩;obtain⟨_,g,U,e1,A,_,_,_⟩:=z.ent _ h.top.ent;have s:=qf (S:=S) (P:=P) (fs:=fs) g h.top.tmps;obtain⟨L,D,E|⟨a,w',t,b,l,ev,f,G,y,H,I,J,K⟩⟩:=s.run (Pr:=Pr) c.w W #[] #[] c.w.drawn h.w;all_goals
  let τ:Nat->Question->Nat:=λn=>if n<c.w.drawn then c.w.tape n else kX c.w.drawn L n
  have o:Fits τ c.w.drawn L:=λi g M=>by show(if c.w.drawn+i<c.w.drawn then _ else _)=g;rw[Ro (by omega)];exact kG c.w.drawn L i g M
  have u:∀n<c.w.drawn,τ n=c.w.tape n:=λn N=>Rp N;obtain⟨v,⟨_,_,_,g',j,p⟩,O⟩:=(h.qg.av u (oM D)).ends r h.top.kind;simp only[show(ah P fs).funcs=fs from rfl]at j;rw[e1]at j;cases j;have d:((results g c.fr.tmps).runT (ah P fs) (av c.w τ c.w.drawn) #[]).1=.ok v (av c.w τ c.w.drawn):=by rw[<-p];simp
 ·obtain⟨x,w',t,e,_⟩:=E τ o
  rw[e]at d;cases d
 ·rw[G τ o]at d
  simp only[Result.ok.injEq]at d;obtain⟨rfl,Q⟩:=d;rw[S8]at y;refine⟨a,b,av c.w τ c.w.drawn,l,seen P F.fn ev++#[],f,O,rfl,?_,H,?_,J,jQ K⟩
  ·have k:=h.top.mode.trans r.2.1
   have q:F.defers=[]:=by
    have:=h.top.defers;rw[r.2.2]at this;cases R:F.defers with
    |nil=>rfl
    |cons=>rw[R]at this;cases this
   have T:P.funcs[F.fn]? =some g:=by rw[h.top.fn];exact A
   simp only[stepG,unwind,k,q,T,y,nR _ _ _ _ _ _ _ h.top.Kind];rfl
  ·refine I.heap ?_ rfl
   rw[<-Q];rfl
end
section
variable {S:Kn} {P:Program} {fs:Array Func}
structure Eff(Own:Nat->Prop)(W W':World):Prop where
 os:W'.os=W.os
 tape:W'.tape=W.tape
 output:W'.output=W.output
 size:W.heap.size<=W'.heap.size
 keep:∀b,b<W.heap.size->¬Own b->W'.heap[b]? =W.heap[b]?
def Eff.refl(Own W):Eff Own W W:=⟨rfl,rfl,rfl,Rq _,λ_ _ _=>rfl⟩
structure iw(S:Kn)(P:Program)(fs:Array Func)(π₀:Ren P.globals.size)(W₀ wB:World)(Post:Value->World->Prop)(πA πB:Ren P.globals.size)(cA cB:Gh)(F:Frame)(CS:List Frame)(W:World):Prop where
 a:Cp S P fs (λR=>∃r,π₀ r R) Post πA cA F CS W
 b:Cp S P fs (λ_=>False) (λ_ w'=>∀r R,π₀ r R->w'.heap[r]? =wB.heap[r]?) πB cB F CS W
 la:Ren.le π₀ πA
 lb:Ren.le π₀ πB
 base:∀r R,π₀ r R->∃c C e F,wB.heap[r]? =some (.cells c e F)/\W₀.heap[R]? =some (.cells C e F)
 old:∀r R,π₀ r R->W.heap[R]? =W₀.heap[R]?
 same:∀R,(∃r,πA r R)↔∃r,πB r R
def iw.Own(a c:Ren P.globals.size)(b:Nat):Prop:=(∃r,c r b)/\¬∃r,a r b
def uM{π Pr Post c F CS W}(h:Cp S P fs Pr Post π c F CS W):c.AtE↔CS=[]/\F.mode=.returning/\F.defers=[]:=by
 unfold Gh.AtE;have a:c.cs=[]↔CS=[]:=by have:=h.cs.length;exact⟨λe=>by rw[e]at this;exact Ss this.symm,λe=>by rw[e]at this;exact Ss this⟩
 have b:c.fr.defers=[]↔F.defers=[]:=by have:=h.top.defers.length;exact⟨λe=>by rw[e]at this;exact Ss this.symm,λe=>by rw[e]at this;exact Ss this⟩
 rw[a,b,h.top.mode]
def yV{F₀ a b n}(d:Fle F₀ a)(c:Fle a b)(f:G5 n F₀ b):a=F₀:=by
 refine Fle.back d ?_;have:b=F₀:=by
  obtain e|⟨e1,g,e3⟩:=f
  ·exact e
  ·obtain e|⟨h,i⟩:=d.trans c
   ·exact e
   ·refine Prod.ext ?_ ?_<;>omega
 rw[this]at c;exact c
def iw.step(V:Tab S P fs)(j:∀f,S.stop f=false)(k:∀g,S.calm g){d l X p wB Post T cB F CS W}
 (h:iw S P fs d p wB Post l X T cB F CS W) (A:¬T.AtE) (main):
 ∃(πA' m:Ren P.globals.size) (q D:Gh) (U:Frame) (t:List Frame) (u:World) (ev:Array Event),(Nx S (ah P fs) T q/\¬T.AtE)/\iw S P fs d p wB Post πA' m q D U t u/\
  (∀B,stepG P main ⟨F,CS++B,.running,none,none⟩ W=.go ⟨U,t++B,.running,none,none⟩ u ev)/\Eff (iw.Own d l) W u/\(∀b,iw.Own d l b->iw.Own d πA' b)/\(∀b,iw.Own d πA' b->iw.Own d l b\/W.heap.size<=b)/\
  (∀b,W.heap.size<=b->b<u.heap.size->iw.Own d πA' b)/\(∀e∈ev,kE (λR=>∃r,d r R) πA' e)/\Chg (λR=>∃r,d r R) l W u πA':=by
 have J:¬cB.AtE:=by rw[uM h.b];rw[uM h.a]at A;exact A
 obtain⟨q,U,t,u,ev,πA',a1,a2,a3,n,a5⟩:=h.a.step V j A (k _) main;obtain⟨D,ad,af,W2,ag,m,b1,b2,K,I,b5⟩:=h.b.step V j J (k _) main;have K:=K [];rw[a3 []]at K;simp only[GStep.go.injEq,Goroutine.mk.injEq]at K;obtain⟨⟨e1,e2,_⟩,e3,_⟩:=K;have Y:=List.append_cancel_right e2;subst e1;subst Y;subst e3;have y:∀r R,d r R->u.heap[R]? =p.heap[R]? :=by
  intro r R i;obtain⟨c,C,e,z,Z,hW⟩:=h.base r R i;obtain⟨F',E⟩:=n.nu R ⟨r,i⟩ C e z (by rw[h.old r R i,hW]);obtain⟨C1,F1,G,aa⟩:=I.fz R C e z (by rw[h.old r R i,hW]);rw[E]at G;simp only[Sg,Obj.cells.injEq,true_and]at G;obtain⟨rfl,rfl⟩:=G;obtain⟨ak,c2,F2,We,v,g1,g2,g3,g4,g5⟩:=b2.Ox V j k;obtain⟨C2,Fe,ab,L⟩:=g5.fz R C e F' E;obtain⟨o,O,ho,hO,M⟩:=g1.w.obj r R (g5.le _ _ (I.le _ _ (h.lb _ _ i)));rw[g3 r R i,Z]at ho;rw[ab]at hO;cases ho;cases hO;cases M with
  |cells _ _ hf=>rw[E,hW,yV aa L hf]
 have H:∀R,(∃r,πA' r R)↔∃r,m r R:=by
  intro R;constructor
  ·rintro⟨r,i⟩
   obtain x|x:=n.old r R i
   ·obtain⟨s,hs⟩:=(h.same R).1 ⟨r,x⟩
    exact⟨s,I.le _ _ hs⟩
   ·exact I.new R x (a2.w.lt i).2
  ·rintro⟨r,i⟩
   obtain x|x:=I.old r R i
   ·obtain⟨s,hs⟩:=(h.same R).2 ⟨r,x⟩
    exact⟨s,n.le _ _ hs⟩
   ·exact n.new R x (b2.w.lt i).2
 have N:∀b,iw.Own d l b->iw.Own d πA' b:=λb ⟨⟨r,i⟩,Q⟩=>⟨⟨r,n.le _ _ i⟩,Q⟩
 refine⟨πA',m,q,D,U,t,u,ev,a1,⟨a2,b2,Ren.le_trans h.la n.le,Ren.le_trans h.lb I.le,h.base,y,H⟩,a3,⟨n.os,n.tape,n.output,n.size,λb Z Q=>?_⟩,N,λb ⟨⟨r,i⟩,Q⟩=>?_,λb h1 h2=>?_,a5,n⟩
 ·by_cases hp:∃r,l r b
  ·have:∃r,d r b:=SQ λhx=>Q ⟨hp,hx⟩
   obtain⟨r,i⟩:=this;rw[y r b i,h.old r b i]
  ·exact n.keep b Z hp
 ·obtain x|x:=n.old r b i
  ·exact .inl ⟨⟨r,x⟩,Q⟩
  ·exact .inr x
 ·refine⟨n.new b h1 h2,λ⟨r,i⟩=>?_⟩
  have:=(h.a.w.lt (h.la _ _ i)).2;omega
end
def Rw{a}:Result a->World
 | .ok _ w=>w
 | .halt _ w=>w
def Rt{b}(τ:Nat->Question->Nat):Result b->Result b
 | .ok a w=>.ok a (av w τ w.drawn)
 | .halt h w=>.halt h (av w τ w.drawn)
def iU(es:Array Event):Prop:=∀e∈es,e.loc≠ .output
def Agr(w:World)(d:Nat)(τ:Nat->Question->Nat):Prop:=∀n,w.drawn<=n->n<d->τ n=w.tape n
def Kw{f}(P)(s:Sem f):∀(w) (es),∀e∈es,e∈(s.runT P w es).2:=by
 induction s with
 |pure a=>exactλw es e b=>b
 |load m a k d=>
  intro w es e b;simp only[Sem.runT];cases w.cell? a with
  |some v=>exact d v w _ e (TG _ b)
  |none=>
   simp only[];cases w.farLoad P a (m== .atomic)with
   |ok r=>exact d r.1 w _ e (U6 _ b)
   |error h=>exact b
 |store m a v k d=>
  intro w es e b;cases v with
  |agg=>exact b
  |tuple=>exact b
  |_=>
   simp only[Sem.runT];cases w.cell? a with
   |some v=>
    simp only[];split
    ·exact b
    ·exact d _ _ e (TG _ b)
   |none=>
    simp only[];split
    ·exact d _ _ e (U6 _ b)
    ·exact b
 |new o k d=>exactλw es=>d _ _ _
 |shape r k d=>exactλw es=>d _ _ _
 |freeze a n k d=>exactλw es=>d _ _
 |frozen a k d=>exactλw es=>d _ _ _
 |getObj r k d=>
  intro w es e b;simp only[Sem.runT];split
  ·exact b
  ·exact d _ _ _ e (TG _ b)
  ·exact b
 |setObj r o k d=>
  intro w es e b;simp only[Sem.runT];split
  ·exact b
  ·exact d _ _ e (TG _ b)
  ·exact b
 |choose q k d=>
  intro w es e b;simp only[Sem.runT];split
  ·exact d _ _ _ e b
  ·exact d _ _ _ e b
 |sys c k d=>exactλw es e b=>d _ _ _ e (TG _ b)
 |program k d=>exactλw es=>d _ _ _
 |mark m k d=>exactλw es e b=>d _ _ e (TG _ b)
 |halt h=>exactλw es e b=>b
def vR{P}{w w1:World}{a v m as}(h:w.farStore P a v m=.ok (w1,as)):w1.drawn=w.drawn/\w1.tape=w.tape:=by have:=fV P w w.tape w.drawn a v m;rw[show av w w.tape w.drawn=w from rfl,h]at this;simp only[Except.map,Except.ok.injEq,Ut,and_true]at this;rw[this];exact⟨rfl,rfl⟩
def Is{z}(P)(s:Sem z):∀(w) (es),iU (s.runT P w es).2->
 w.drawn<=(Rw (s.runT P w es).1).drawn/\(Rw (s.runT P w es).1).tape=w.tape/\∀τ,Agr w (Rw (s.runT P w es).1).drawn τ->s.runT P (av w τ w.drawn) es=(Rt τ (s.runT P w es).1,(s.runT P w es).2):=by
 induction s with
 |pure a=>exactλw es _=>⟨Rq _,rfl,λτ _=>rfl⟩
 |load m a k d=>
  intro w es h;simp only[Sem.runT,show ∀τ,(av w τ w.drawn).cell? a=w.cell? a fromλ_=>rfl,show ∀τ,(av w τ w.drawn).farLoad P a (m== .atomic)=w.farLoad P a (m== .atomic)fromλ_=>rfl]at h⊢;cases i:w.cell? a with
  |some v=>simp only[i]at h⊢;exact d v w _ h
  |none=>
   simp only[i]at h⊢;cases j:w.farLoad P a (m== .atomic)with
   |ok r=>simp only[j]at h⊢;exact d r.1 w _ h
   |error e=>exact⟨Rq _,rfl,λτ _=>rfl⟩
 |store m a v k d=>
  intro w es h;by_cases f:(∀c,v≠ .agg c)/\(∀c,v≠ .tuple c)
  case neg=>cases v<;>first|exact⟨Rq _,rfl,λτ _=>rfl⟩|exact absurd ⟨by simp,by simp⟩ f
  have key:∀w:World,(Sem.store m a v k).runT P w es=match w.cell? a with
   |some _=>if w.frozen? a=true then(.halt (.unsupported (.unsafePointer "a write to bytes that a string shares")) w,es)else k.runT P (w.setCell a v) (es.push ⟨.cell a,true,m== .atomic⟩)
   |none=>match w.farStore P a v (m== .atomic)with
    | .ok (w',as)=>k.runT P w' (es++as.toArray.map (⟨.cell ·,true,m== .atomic⟩))
    | .error h=>(.halt h w,es):=by
   intro w;cases v<;>first|rfl|exact absurd rfl (f.1 _)|exact absurd rfl (f.2 _)
  simp only[key,show ∀τ,(av w τ w.drawn).cell? a=w.cell? a fromλ_=>rfl,show ∀τ,(av w τ w.drawn).frozen? a=w.frozen? a fromλ_=>rfl,fV]at h⊢;cases i:w.cell? a with
  |some B=>
   simp only[i]at h⊢;split
   ·exact⟨Rq _,rfl,λτ _=>rfl⟩
   ·rename_i A
    simp only[Ro A]at h;exact d (w.setCell a v) _ h
  |none=>
   simp only[i]at h⊢;cases j:w.farStore P a v (m== .atomic)with
   |ok r=>obtain⟨w1,as⟩:=r;simp only[j,Except.map]at h⊢;obtain⟨e1,y⟩:=vR j;obtain⟨t,l,p⟩:=d w1 _ h;refine⟨by omega,l.trans y,λτ g=>?_⟩;have:=p τ (λn a b=>by rw[y];exact g n (by omega) b);rw[e1]at this;exact this
   |error e=>simp only[j,Except.map];exact⟨Rq _,rfl,λτ _=>rfl⟩
 |new o k d=>exactλw es h=>d _ {w with heap:=w.heap.push o} es h
 |shape r k d=>exactλw es h=>d _ w es h
 |freeze a n k d=>
  intro w es h;have e:(w.freeze a n).drawn=w.drawn/\(w.freeze a n).tape=w.tape:=by unfold World.freeze;split<;>exact⟨rfl,rfl⟩
  obtain⟨t,l,p⟩:=d (w.freeze a n) es h;refine⟨by simp only[Sem.runT];omega,l.trans e.2,λτ g=>?_⟩;simp only[Sem.runT,o8]at g⊢;have:=p τ (λn a b=>by rw[e.2];exact g n (by omega) b);rw[e.1]at this;exact this
 |frozen a k d=>exactλw es h=>d _ w es h
 |getObj r k d=>
  intro w es h;simp only[Sem.runT,show ∀τ,(av w τ w.drawn).heap[r]? =w.heap[r]? fromλ_=>rfl]at h⊢;cases u:w.heap[r]? with
  |none=>exact⟨Rq _,rfl,λτ _=>rfl⟩
  |some o=>cases o<;>simp only[u]at h⊢<;>first|exact d _ w _ h|exact⟨Rq _,rfl,λτ _=>rfl⟩
 |setObj r o k d=>
  intro w es h;simp only[Sem.runT,show ∀τ,(av w τ w.drawn).heap[r]? =w.heap[r]? fromλ_=>rfl]at h⊢;cases u:w.heap[r]? with
  |none=>exact⟨Rq _,rfl,λτ _=>rfl⟩
  |some o'=>cases o'<;>simp only[u]at h⊢<;>first|exact d {w with heap:=w.heap.setIfInBounds r o} _ h|exact⟨Rq _,rfl,λτ _=>rfl⟩
 |choose q k d=>
  intro w es h;simp only[Sem.runT]at h⊢;split
  ·rename_i x
   simp only[Rp x]at h;exact d 0 w es h
  ·rename_i x
   simp only[Ro x]at h;obtain⟨t,l,p⟩:=d _ {w with drawn:=w.drawn+1} es h;refine⟨Rr (Nat.le_succ _) t,l,λτ g=>?_⟩;have e:=g w.drawn (Rq _) t;have:=p τ (λn a b=>g n (Nat.le_of_succ_le a) b);simp only[av]at this⊢;rw[e];exact this
 |sys c k d=>intro w es h;exact absurd rfl (h _ (Kw P (k (w.sys c).1) (w.sys c).2 (es.push ⟨.output,true,false⟩) ⟨.output,true,false⟩ VM))
 |program k d=>exactλw es h=>d _ w es h
 |mark m k d=>exactλw es h=>d w _ h
 |halt h=>exactλw es _=>⟨Rq _,rfl,λτ _=>rfl⟩
end Go.Tm

import Derived.Conc.DeferLaws
import Derived.Conc.QuitsD
import Derived.Conc.FxBegin
import Derived.Test.YtaglpcmhopjebaaGreatDoorProg
import Derived.Test.YtaglpcmhopjebaaGreatDoorU14
set_option linter.all false
set_option maxRecDepth 100000
set_option maxHeartbeats 20000000
namespace Go.Tm
open Go.Conc Go.ConcN
section
variable {P:Program} {Shun:Loc->Prop} {B B':Nat} {gs:Array Goroutine} {a a':Goroutine} {w w':World} {sl:Option (Nat×Nat)} {t:Trace} {q:Nat->Nat}
def eA(D:gs[0]? =some a)(c:a.status=.running)(v:Leavers P t gs q)(L:Past Shun B t)(M:∀h∈t,h.g<gs.size):∃d f,stepT P (crowd gs w sl)=runT P (crowd gs (w.at d) f) 0\/∃gs' ops I,stepT P (crowd gs w sl)=(.next (crowd gs' (w.at d) f),ops)/\gs'[0]? =some a/\gs'.size=gs.size/\Leavers P (t++ops) gs' I/\Past Shun B (t++ops)/\sumTo gs.size I<sumTo gs.size q/\(∀h∈t++ops,h.g<gs'.size)/\∀h∈ops,h.act.touch?=none/\∀B,h.act.low B:=by (have E:∀g∈gs,awake g:=by intro g p;obtain⟨i,hi,rfl⟩:=Array.mem_iff_getElem.1 p;obtain rfl|hpos:=U4 i;(have:gs[0]=a:=by simpa[UD hi]using D);rw[this];exact awake_of (.inl c);exact awake_of ((v.old i _ hpos (UD hi)).status.elim .inl λx=>.inr (.inr x)));obtain⟨i,g,d,f,hi,p,r⟩:=crowd_pick (P:=P) (w:=w) (sl:=sl) E ⟨0,a,D,c⟩;refine⟨d,f,?_⟩;obtain rfl|hpos:=U4 i;exact .inl r;right;(have z:=v.old i g hpos hi;have F:(i==0)=false:=by simp;omega);have m:=(Uk.1 hi).1;cases n:q i with|zero=>rw[n]at z;rw[z.1]at p;cases p|succ k=>rw[n]at z;obtain⟨N,_⟩|⟨_,g',es,G,s,H⟩:=z;rw[N]at p;cases p;(have o:=runT_crowd_go (P:=P) (sl:=f) (i:=i) hi (by rw[F];exact s (w.at d));have J:sumTo gs.size (upd q i k)+(k+1)=sumTo gs.size q+k:=by have:=sumTo_upd q k id m;simpa[n]using this);refine⟨_,_,upd q i k,r.trans o,?_,by simp,⟨λj x A C=>?_,λj A=>?_⟩,L.mute (by omega) G,by omega,jl (by simpa using M) (λh b=>by obtain⟨e,_,rfl⟩:=Go.Conc.mem_ofEvents b;simpa using m),λh b=>by obtain⟨e,K,rfl⟩:=Go.Conc.mem_ofEvents b;exact⟨touch_mute (G e K),low_mute (G e K)⟩⟩;rw[Ur (by omega),UK,D];simp[woken_run c];by_cases l:i=j;subst l;rw[XF (by simpa using m)]at C;obtain rfl:=UA C;rw[upd_same,Deaf_own];exact H;rw[Ur l,UK]at C;obtain⟨y,O,rfl⟩:=UN.1 C;have u:=v.old j y A O;rw[woken_quitsD u,upd_ne q k (Ux l),Deaf_other t l _ (λh b=>by obtain⟨e,_,rfl⟩:=Go.Conc.mem_ofEvents b;rfl)];exact u;rw[Deaf_other t (g':=i) (by simp at A;omega) _ (λh b=>by obtain⟨e,_,rfl⟩:=Go.Conc.mem_ofEvents b;rfl)];exact v.above j (by simpa using A)
def ua(m:gs[0]? =some a)(n:Leavers P t gs q)(r:Past Shun B t)(s:∀c∈t,c.g<gs.size)(u:B<=B'){es}(k:stepG P true a w=.go a' w' es)(l:∀e∈es,EvL Shun B' e):∃gs' ops,runT P (crowd gs w sl) 0=(.next (crowd gs' w' sl),ops)/\gs'[0]? =some a'/\gs'.size=gs.size/\Leavers P (t++ops) gs' q/\Past Shun B' (t++ops)/\(∀c∈t++ops,c.g<gs'.size)/\∀c∈ops,∃e∈es,c.act=.ofEvent e:=by have f:=(Uk.1 m).1;have d:=runT_crowd_go (P:=P) (sl:=sl) (i:=0) m (show stepG P (0==0) a w=_ from k);refine⟨_,_,d,by simp[f],by simp,⟨λj x h o=>?_,λj h=>?_⟩,(r.mono u).own l,jl (by simpa using s) (λc b=>by obtain⟨e,_,rfl⟩:=Go.Conc.mem_ofEvents b;simpa using f),λc b=>by obtain⟨e,v,rfl⟩:=Go.Conc.mem_ofEvents b;exact⟨e,v,rfl⟩⟩;rw[Ur (by omega),UK]at o;obtain⟨y,z,rfl⟩:=UN.1 o;have p:=n.old j y h z;rw[woken_quitsD p,Deaf_other t (g:=j) (g':=0) (by omega) _ (λc b=>by obtain⟨e,_,rfl⟩:=Go.Conc.mem_ofEvents b;rfl)];exact p;rw[Deaf_other t (g':=0) (by simp at h;omega) _ (λc b=>by obtain⟨e,_,rfl⟩:=Go.Conc.mem_ofEvents b;rfl)];exact n.above j (by simpa using h)
end
section
variable {S:Kn} {P:Program} {fs:Array Func}
def xW(Pr)(π:Ren P.globals.size)(W d):Chg Pr π W (W.at d) π:=⟨rfl,rfl,rfl,Ue _,λ_ _ _=>rfl,λ_ _ _ _ F h=>⟨F,h⟩,λ_ c _ F h=>⟨c,F,h,.refl _⟩,λ_ _ h=>.inl h,λ_ a b=>absurd b (Vi.2 a),λ_ _ h=>h⟩
def Az{Pr}{π:Ren P.globals.size}{ShB:Nat->Prop}{Shun:Loc->Prop}(d:∀l,Shun l->∃b,blk l=some b/\ShB b)(n:∀b,ShB b->¬∃r,π r b){B}(o:∀b,(∃r,π r b)->b<B){e}(h:lu Pr π e):EvL Shun B e:=by
 obtain⟨j,wr,u⟩:=e;unfold lu at h;cases j with
 |cell A=>obtain⟨rfl,g,s⟩:=h;refine⟨λx c k=>?_,by simp,by simp,o _ g⟩;simp[MemAct.ofEvent,MemAct.touch?]at c;subst c;obtain⟨b,i,hsb⟩:=d _ k;simp[blk]at i;subst i;exact absurd g (n _ hsb)
 |obj R=>obtain⟨p,g,s⟩:=h;simp only at p;subst p;refine⟨λx c k=>?_,by simp,by simp,by cases wr<;>exact o _ g⟩;cases wr<;>(simp[MemAct.ofEvent,MemAct.touch?]at c;subst c;obtain⟨b,i,hsb⟩:=d _ k;simp[blk]at i;subst i;exact absurd g (n _ hsb))
 |mark m=>cases m with|extern f=>exact⟨λx c=>by simp[MemAct.ofEvent,MemAct.touch?]at c,by simp,by simp,trivial⟩|noRoom=>exact⟨λx c=>by simp[MemAct.ofEvent,MemAct.touch?]at c,by simp,by simp,trivial⟩|_=>exact h.elim
 |_=>exact h.elim
def Nxs(S:Kn)(P:Program)(c c':Gh)(n:Nat):Prop:=c.w.drawn<=c'.w.drawn/\(∀k,c.w.drawn<=k->S.fS (c'.w.tape k))/\(∀k<c.w.drawn,c'.w.tape k=c.w.tape k)/\∀τ,(∀k<c'.w.drawn,τ k=c'.w.tape k)->runN P n (lone c.fr (c.cs++[aH]) (av c.w τ c.w.drawn))=.next (lone c'.fr (c'.cs++[aH]) (av c'.w τ c'.w.drawn))
def Nxs.refl{S:Kn}{P}{c:Gh}(h:∀k,c.w.drawn<=k->S.fS (c.w.tape k)):Nxs S P c c 0:=⟨Ue _,h,λ_ _=>rfl,λ_ _=>rfl⟩
def Nxs.trans{S P a b c m n}(h:Nxs S P a b m)(d:Nxs S P b c n):Nxs S P a c (m+n):=by refine⟨Uf h.1 d.1,λk e=>?_,λk e=>(d.2.2.1 k (Ui e h.1)).trans (h.2.2.1 k e),λτ f=>?_⟩;obtain x|x:=Uh k b.w.drawn;rw[d.2.2.1 k x];exact h.2.1 k e;exact d.2.1 k x;rw[runN_add,h.2.2.2 τ λk e=>(f k (Ui e d.1)).trans (d.2.2.1 k e)];exact d.2.2.2 τ f
def Nx.nxs{S P c c'}(h:Nx S P c c'):Nxs S P c c' 1:=⟨h.1,h.2.1,h.2.2.1,λτ b=>by unfold runN;rw[h.step b];rfl⟩
structure iQ{G:Nat}(Pr:Nat->Prop)(π₀:Ren G)(W₀:World)(π:Ren G)(W:World):Prop where
 os:W.os=W₀.os
 output:W.output=W₀.output
 size:W₀.heap.size<=W.heap.size
 keep:∀b,b<W₀.heap.size->(¬∃r,π₀ r b)->W.heap[b]? =W₀.heap[b]?
 nV:∀b,Pr b->∀c e F,W₀.heap[b]? =some (Obj.cells c e F)->∃F',W.heap[b]? =some (Obj.cells c e F')
 fz:∀(b:Nat) c e F,W₀.heap[b]? =some (Obj.cells c e F)->∃c' F',W.heap[b]? =some (Obj.cells c' e F')/\Fle F F'
 old:∀r R,π r R->π₀ r R\/W₀.heap.size<=R
 le:Ren.le π₀ π
def iQ.refl{G}(Pr)(π:Ren G)(W):iQ Pr π W π W:=⟨rfl,rfl,Ue _,λ_ _ _=>rfl,λ_ _ _ _ F h=>⟨F,h⟩,λ_ c _ F h=>⟨c,F,h,.refl _⟩,λ_ _ h=>.inl h,Ren.le_refl _⟩
def iQ.no{G Pr}{c π:Ren G}{d W}(h:iQ Pr c d π W){b}(e:b<d.heap.size)(f:¬∃r,c r b):¬∃r,π r b:=λ⟨r,g⟩=>(h.old r b g).elim (λx=>f ⟨r,x⟩) λx=>absurd e (Vi.2 x)
def iQ.chg{G:Nat}{Pr:Nat->Prop}{d π g:Ren G}{f W n:World}(h:iQ Pr d f π W)(k:Chg Pr π W n g):iQ Pr d f g n where
 os:=k.os.trans h.os
 output:=k.output.trans h.output
 size:=Uf h.size k.size
 keep b hb hn:=(k.keep b (Ui hb h.size) (h.no hb hn)).trans (h.keep b hb hn)
 nV b hb c e F hF:=by obtain⟨i,j⟩:=h.nV b hb c e F hF;exact k.nV b hb c e i j
 fz b c e F hF:=by obtain⟨c',i,j,o⟩:=h.fz b c e F hF;obtain⟨l,m,p,s⟩:=k.fz b c' e i j;exact⟨l,m,p,o.trans s⟩
 old r R hr:=(k.old r R hr).elim (h.old r R) λx=>.inr (Uf h.size x)
 le:=Ren.le_trans h.le k.le
def iQ.still{G:Nat}{Pr:Nat->Prop}{d π g:Ren G}{f W i:World}(h:iQ Pr d f π W)(m:i.os=W.os)(n:i.output=W.output)(o:W.heap.size<=i.heap.size)(k:∀b,b<W.heap.size->i.heap[b]? =W.heap[b]?)(p:∀r R,g r R->π r R\/W.heap.size<=R)(s:Ren.le π g):iQ Pr d f g i where
 os:=m.trans h.os
 output:=n.trans h.output
 size:=Uf h.size o
 keep b hb hn:=(k b (Ui hb h.size)).trans (h.keep b hb hn)
 nV b hb c e F hF:=by obtain⟨l,j⟩:=h.nV b hb c e F hF;exact⟨l,(k b (Uk.1 j).1).trans j⟩
 fz b c e F hF:=by obtain⟨c',l,j,u⟩:=h.fz b c e F hF;exact⟨c',l,(k b (Uk.1 j).1).trans j,u⟩
 old r R hr:=(p r R hr).elim (h.old r R) λx=>.inr (Uf h.size x)
 le:=Ren.le_trans h.le s
def Ie(S:Kn)(P:Program)(fs:Array Func)(Pr:Nat->Prop)(Post:Value->World->Prop)(π:Ren P.globals.size)(c:Gh)(F:Frame)(CS:List Frame)(W:World):Prop:=
 (Cp S P fs Pr Post π c F CS W/\c.AtE)\/
  ∃f a A,S.stop f=true/\(a.size=1/\VsR π a A)/\c.fr=Frame.enter (ah P fs) f a .normal/\F=Frame.enter P f A .normal/\c.cs≠[]/\bt (bg S π) c.cs CS/\bw S Pr π c.w W/\c.Flat/\Gd S (ah P fs) Post c/\∀g,S.dF g=true->π g g
def EU{Pr}(B₀)(ht:Tab S P fs)(p:∀g,S.calm g){Post Shun}{ShB:Nat->Prop}(G:∀l,Shun l->∃b,blk l=some b/\ShB b){c}:Acc (λc' c=>Nx S (ah P fs) c c'/\¬c.AtE) c->∀(m) (π) (F) (CS) (W) (gs) (sl) (t) (q),sumTo gs.size q<=m->Cp S P fs Pr Post π c F CS W->gs[0]? =some ⟨F,CS++B₀,.running,none,none⟩->Leavers P t gs q->Past Shun W.heap.size t->(∀z∈t,z.g<gs.size)->(∀b,ShB b->b<W.heap.size/\¬∃r,π r b)->∃N gs' s j v R i c' y n k,runNT P N (crowd gs W sl) t=(.next (crowd gs' s j),v)/\gs'.size=gs.size/\gs'[0]? =some ⟨y,n++B₀,.running,none,none⟩/\Leavers P v gs' R/\Past Shun s.heap.size v/\(∀b,ShB b->¬∃r,i r b)/\Chg Pr π W s i/\Ie S P fs Pr Post i c' y n s/\(∀z∈v,z.g<gs'.size)/\Nxs S (ah P fs) c c' k:=by
 intro ab;induction ab with
 |intro c _ ih=>
  intro m;induction m with
  |zero=>
   intro π F CS W gs sl t q hm h H I J K o;by_cases T:c.AtE
   ·exact⟨0,gs,W,sl,t,q,π,c,F,CS,0,rfl,rfl,H,I,J,λb C=>(o b C).2,.refl _ _ _,.inl ⟨h,T⟩,K,.refl h.ra.1⟩
   ·obtain⟨d,j,u|⟨gs',ops,R,_,_,_,_,_,af,_⟩⟩:=eA (w:=W) (sl:=sl) H rfl I J K
    ·exact Jl B₀ ht p G ih h T H I J K o u
    ·omega
  |succ m ag=>
   intro π F CS W gs sl t q hm h H I J K o;by_cases T:c.AtE
   ·exact⟨0,gs,W,sl,t,q,π,c,F,CS,0,rfl,rfl,H,I,J,λb C=>(o b C).2,.refl _ _ _,.inl ⟨h,T⟩,K,.refl h.ra.1⟩
   ·obtain⟨d,j,u|⟨gs',ops,R,u,L,D,M,O,af,Q,_⟩⟩:=eA (w:=W) (sl:=sl) H rfl I J K
    ·exact Jl B₀ ht p G ih h T H I J K o u
    ·obtain⟨N,V,W2,X,t2,q2,Y,c2,y,Z,k,r1,r2,r3,r4,r5,r6,r7,r8,r9,aa⟩:=ag π F CS (W.at d) gs' j (t++ops) R (by rw[D];omega) ⟨h.top,h.cs,h.w.heap rfl rfl,h.flat,h.ra,h.dF⟩ L M O Q o
     exact⟨N+1,V,W2,X,t2,q2,Y,c2,y,Z,k,by simp only[runNT,u];exact r1,r2.trans D,r3,r4,r5,r6,(xW _ _ _ d).trans r7,r8,r9,aa⟩
where
 Jl {Pr:Nat->Prop} (B₀:List Frame) {Post:Value->World->Prop} {Shun:Loc->Prop} {ShB:Nat->Prop} (ht:Tab S P fs) (p:∀g,S.calm g) (G:∀l,Shun l->∃b,blk l=some b/\ShB b) {c:Gh}
     (ih:∀c0,(Nx S (ah P fs) c c0/\¬c.AtE)->∀(m:Nat) (π:Ren P.globals.size) (F:Frame) (CS:List Frame) (W:World) (gs:Array Goroutine) (sl:Option (Nat×Nat)) (t:Trace) (q:Nat->Nat),sumTo gs.size q<=m->
      Cp S P fs Pr Post π c0 F CS W->gs[0]? =some ⟨F,CS++B₀,.running,none,none⟩->Leavers P t gs q->Past Shun W.heap.size t->(∀z∈t,z.g<gs.size)->(∀b,ShB b->b<W.heap.size/\¬∃r,π r b)->
      ∃N gs' s j v R i c' y n k,runNT P N (crowd gs W sl) t=(.next (crowd gs' s j),v)/\gs'.size=gs.size/\gs'[0]? =some ⟨y,n++B₀,.running,none,none⟩/\Leavers P v gs' R/\Past Shun s.heap.size v/\(∀b,ShB b->¬∃r,i r b)/\Chg Pr π W s i/\Ie S P fs Pr Post i c' y n s/\(∀z∈v,z.g<gs'.size)/\Nxs S (ah P fs) c0 c' k)
     {π:Ren P.globals.size} {F:Frame} {CS:List Frame} {W:World} {gs:Array Goroutine} {sl j:Option (Nat×Nat)} {t:Trace} {q:Nat->Nat} {d:Nat}
     (h:Cp S P fs Pr Post π c F CS W) (T:¬c.AtE) (H:gs[0]? =some ⟨F,CS++B₀,.running,none,none⟩) (I:Leavers P t gs q) (J:Past Shun W.heap.size t) (K:∀z∈t,z.g<gs.size) (o:∀b,ShB b->b<W.heap.size/\¬∃r,π r b)
     (u:stepT P (crowd gs W sl)=runT P (crowd gs (W.at d) j) 0):
     ∃N gs' s j v R i c' y n k,runNT P N (crowd gs W sl) t=(.next (crowd gs' s j),v)/\gs'.size=gs.size/\gs'[0]? =some ⟨y,n++B₀,.running,none,none⟩/\Leavers P v gs' R/\Past Shun s.heap.size v/\(∀b,ShB b->¬∃r,i r b)/\Chg Pr π W s i/\Ie S P fs Pr Post i c' y n s/\(∀z∈v,z.g<gs'.size)/\Nxs S (ah P fs) c c' k:=by
  obtain⟨c',y,n,s,ev,i,h1,h2,h3,h4,h5,h6,h7,h8,h9⟩:=follow ht h.dF h.top h.cs (h.w.heap (W₁:=W.at d) rfl rfl) h.flat h.ra T (p _) true;have h3:=h3 B₀;have E:∀b,ShB b->b<s.heap.size/\¬∃r,i r b:=λb C=>⟨Ui (o b C).1 h5.size,λ⟨r,hr⟩=>(h5.old r b hr).elim (λx=>(o b C).2 ⟨r,x⟩) λx=>absurd (o b C).1 (Vi.2 x)⟩
  obtain⟨gs',ops,U,L,D,M,O,Q,_⟩:=ua (sl:=j) (B':=s.heap.size) H I J K h5.size h3 λe ak=>Az G (λb C=>(E b C).2) (λb ⟨r,hr⟩=>(h4.lt hr).2) (h6 e ak);have ad:∀g,S.dF g=true->i g g:=λg hg=>h5.le _ _ (h.dF g hg);obtain h8|⟨an,f,a,A,hs,ha,e1,e2⟩:=h8
  ·obtain⟨N,V,W2,X,t2,q2,Y,c2,ao,Z,k,r1,r2,r3,r4,r5,r6,r7,r8,r9,aa⟩:=ih c' ⟨h1,T⟩ _ i y n s gs' j (t++ops) q (Ue _) ⟨h8,h7,h4,h9,h2,ad⟩ L M O Q E
   exact⟨N+1,V,W2,X,t2,q2,Y,c2,ao,Z,1+k,by simp only[runNT,u,U];exact r1,r2.trans D,r3,r4,r5,r6,((xW _ _ _ d).trans h5).trans r7,r8,r9,h1.nxs.trans aa⟩
  ·exact⟨1,gs',s,j,t++ops,q,i,c',y,n,1,by simp only[runNT,u,U],D,L,M,O,λb C=>(E b C).2,(xW _ _ _ d).trans h5,.inr ⟨f,a,A,hs,ha,e1,e2,an,h7,h4,h9,h2,ad⟩,Q,h1.nxs⟩
end
noncomputable def bot(P:Program):Frame:={(default:Frame)with fn:=P.funcs.size,defers:=[],mode:=.panicking [goexitEntry]}
section
variable {P:Program} {f:FuncId} {fn:Func} {c:Code} {args caps:Array Value} {w:World} {mn:Bool}
def AB(b:P.funcs[f]? =some fn)(a:(fn.name== "runtime.NumGoroutine")=false)(d:fn.body=some c):stepG P mn (born P {target:=.fn (.func f) caps,args:=args}) w=.go (G ((baseD f).at {tmps:=(args++caps)++Array.replicate (fn.ntmps-(args++caps).size) undef,defers:=[]} [.code c]) [bot P]) w #[]:=by (have e:¬fn.name= "runtime.NumGoroutine" :=by simpa using a);rw[<-enter_atD (args++caps) b d];simp[born,G,stepG,unwind,callDeferred,invoke,callFunc,b,e,d,GStep.after,seen_none,bot]
def Nr(w:World):stepG P false (G (bot P) []) w=.go {G (bot P) []with status:=.finished} w #[]:=by simp[G,stepG,unwind,bot,goexitEntry,Frame.catches];rfl
def AD{b:Frame}{a:Act}{todo:List Item}(d:b.kind=.deferred)(e:a.defers=[])(g:P.funcs[b.fn]? =some fn)(h:fn.results=#[]):QuitsD P 2 0 (G {b.at a todo with mode:=.returning} [bot P]):=by refine QuitsD.ctl rfl (g':=G (bot P) []) (λw=>?_) ?_;simp[G,stepG,unwind,doReturn,results,Frame.at,d,e,g,h,bot,seen_none,GStep.after,goexitEntry];refine .inr ⟨rfl,_,#[],by simp,λw=>Nr w,rfl,rfl⟩
end
section
variable {P:Program} {ty:TypeId} {Wg:Nat} {S:aJ} {Shun:Loc->Prop} {ShB:Nat->Prop}
def No(c:∀l,Shun l->∃b,blk l=some b/\ShB b){K M:Nat->Prop}{B}(j:∀b,K b->b<B/\¬ShB b)(m:Wg<B){e}(h:EvK Wg K M e):EvL Shun B e:=by obtain⟨k,n,o,u,p⟩:=h;refine⟨λx d q=>?_,n,o,Jj (λx d b f=>?_) λr=>p B r⟩;obtain⟨b,f,g⟩:=k x d;obtain⟨v,i,_⟩|⟨_,s⟩:=g;obtain⟨t,a,hsb⟩:=c _ q;rw[f]at a;cases a;exact absurd hsb (j b i).2;rw[s];simp;obtain⟨t,a,g⟩:=k x d;rw[f]at a;cases a;obtain⟨_,i,_⟩|⟨rfl,_⟩:=g;exact(j b i).1;exact m
structure Bes(P:Program)(Shun:Loc->Prop)(gs:Array Goroutine)(w:World)(t:Trace)(g:Goroutine):Prop where
 g0:gs[0]? =some g
 lv:∃q,Leavers P t gs q
 past:Past Shun w.heap.size t
 few:∀op∈t,op.g<gs.size
structure Tch(Wg:Nat)(K:Nat->Prop)(u:Trace):Prop where
 t:∀op∈u,∀x,op.act.touch?=some x->op.g=0/\((∃b,blk x.loc=some b/\K b/\x.kind=.plain)\/(blk x.loc=some Wg/\x.kind=.atomic))
 l:∀op∈u,op.act.touch?=none->∀B,op.act.low B
def Tch.app{K g u v}(h:Tch Wg K u)(j:Tch Wg g v)(m:∀b,K b->g b):Tch Wg g (u++v):=⟨λf e x k=>(Vf.1 e).elim (λi=>by obtain⟨n,o⟩:=h.t f i x k;exact⟨n,o.imp (λ⟨b,a,c,d⟩=>⟨b,a,m b c,d⟩) id⟩) λi=>j.t f i x k,λf e=>(Vf.1 e).elim (h.l f) (j.l f)⟩
structure kU(P:Program)(Wg:Nat)(Shun:Loc->Prop)(ShB:Nat->Prop)(S:aJ)(K M:Nat->Prop)(w:World)(n:Nat)(t:Trace)(gs':Array Goroutine)(w':World)(t':Trace):Prop where
 size:gs'.size=n
 os:w'.os=w.os
 tape:w'.tape=w.tape
 output:w'.output=w.output
 grown:w.heap.size<=w'.heap.size
 keep:∀b,b<w.heap.size->¬M b->w'.heap[b]? =w.heap[b]?
 at_:∃g' K' M' u,Bes P Shun gs' w' t' g'/\S K' M' g' w'/\t'=t++u/\Tch Wg K' u/\(∀b,K b->K' b)/\(∀b,K' b->K b\/w.heap.size<=b)/\(∀b,K' b->b<w'.heap.size/\¬ShB b)/\(∀b,M b->M' b)/\∀b,M' b->M b\/w.heap.size<=b
def kU.of{K M c d:Nat->Prop}{w a w':World}{n gs' t v t'}(h:kU P Wg Shun ShB S c d a n (t++v) gs' w' t')(m:Tch Wg c v)(e1:a.os=w.os)(o:a.tape=w.tape)(e3:a.output=w.output)(g:w.heap.size<=a.heap.size) (p:∀b,b<w.heap.size->¬M b->a.heap[b]? =w.heap[b]?) (q:∀b,K b->c b) (i:∀b,c b->K b\/w.heap.size<=b) (r:∀b,M b->d b) (f:∀b,d b->M b\/w.heap.size<=b):kU P Wg Shun ShB S K M w n t gs' w' t':=by obtain⟨g',s,z,u,a1,A,B,j,k,C,D,E,F⟩:=h.at_;refine⟨h.size,h.os.trans e1,h.tape.trans o,h.output.trans e3,Uf g h.grown,λb e l=>?_,g',s,z,v++u,a1,A,by rw[B,Vo],m.app j k,λb e=>k b (q b e),λb e=>?_,D,λb e=>E b (r b e),λb e=>?_⟩;rw[h.keep b (Ui e g) (λx=>(f b x).elim l λy=>absurd e (Vi.2 y)),p b e l];obtain x|x:=C b e;exact i b x;exact .inr (Uf g x);obtain x|x:=F b e;exact f b x;exact .inr (Uf g x)
def xY{K}{u:Trace}(h:∀b∈u,b.act.touch?=none/\∀B,b.act.low B):Tch Wg K u:=⟨(λb a x c=>by rw[(h b a).1]at c;cases c),λb a _=>(h b a).2⟩
def nA(A:∀l,Shun l->∃b,blk l=some b/\ShB b){K M g w}(h:Run P true ty Wg S K M g w):∀(c) (sl) (t),Bes P Shun c w t g->(∀b,K b->b<w.heap.size/\¬ShB b)->(∀b,ShB b->b<w.heap.size)->Wg<w.heap.size->∃N gs' w' a t',runNT P N (crowd c w sl) t=(.next (crowd gs' w' a),t')/\kU P Wg Shun ShB S K M w c.size t gs' w' t':=by
 induction h with
 | @stop K M g w h=>intro c sl t v H U V;exact⟨0,c,w,sl,t,rfl,rfl,rfl,rfl,rfl,Ue _,λ_ _ _=>rfl,g,K,M,#[],v,h w (.refl w),by simp,⟨(λp j=>by simp at j),λp j=>by simp at j⟩,λ_ x=>x,λ_ x=>.inl x,H,λ_ x=>x,λ_ x=>.inl x⟩
 | @step K M g w hs n ak ih=>
  intro c sl t ⟨s,⟨q,C⟩,D,E⟩ H U V;have key:∀(m:Nat) (d:Nat) (c:Array Goroutine) (sl:Option (Nat×Nat)) (t:Trace) (q:Nat->Nat),sumTo c.size q<=m->c[0]? =some g->Leavers P t c q->Past Shun w.heap.size t->(∀p∈t,p.g<c.size)->
   ∃N gs' w' a t',runNT P N (crowd c (w.at d) sl) t=(.next (crowd gs' w' a),t')/\kU P Wg Shun ShB S K M w c.size t gs' w' t':=by
   intro m;induction m with
   |zero=>
    intro d c sl t q hm s C D E;obtain⟨d',a,k|⟨gs',ops,q',_,_,_,_,_,W,_⟩⟩:=eA (w:=w.at d) (sl:=sl) s hs C D E
    ·exact go A n ih s C D E H U V k
    ·omega
   |succ m ab=>
    intro d c sl t q hm s C D E;obtain⟨d',a,k|⟨gs',ops,q',k,I,F,J,L,W,O,ad⟩⟩:=eA (w:=w.at d) (sl:=sl) s hs C D E
    ·exact go A n ih s C D E H U V k
    ·obtain⟨N,Q,w2,R,t2,hr,v⟩:=ab d' gs' a (t++ops) q' (by rw[F];omega) I J L O
     refine⟨N+1,Q,w2,R,t2,by simp only[runNT,k];exact hr,?_⟩;rw[F]at v;exact v.of (xY ad) rfl rfl rfl (Ue _) (λ_ _ _=>rfl) (λ_ x=>x) (λ_ x=>.inl x) (λ_ x=>x) λ_ x=>.inl x
  exact key _ w.drawn c sl t q (Ue _) s C D E
where
 go (A:∀l,Shun l->∃b,blk l=some b/\ShB b) {K M:Nat->Prop} {g:Goroutine} {w:World} (n:∀f,RK ty Wg K w f->SV P true Wg K M g f)
     (ih:∀f g' w' es,RK ty Wg K w f->stepG P true g f=.go g' w' es->∀(c:Array Goroutine) (sl:Option (Nat×Nat)) (t:Trace),Bes P Shun c w' t g'->(∀b,orK K f w' b->b<w'.heap.size/\¬ShB b)->(∀b,ShB b->b<w'.heap.size)->Wg<w'.heap.size->∃N gs' X a t',runNT P N (crowd c w' sl) t=(.next (crowd gs' X a),t')/\kU P Wg Shun ShB S (orK K f w') (orK M f w') w' c.size t gs' X t')
     {c:Array Goroutine} {sl a:Option (Nat×Nat)} {t:Trace} {q:Nat->Nat} {d d':Nat} (s:c[0]? =some g) (C:Leavers P t c q) (D:Past Shun w.heap.size t) (E:∀p∈t,p.g<c.size) (H:∀b,K b->b<w.heap.size/\¬ShB b) (U:∀b,ShB b->b<w.heap.size) (V:Wg<w.heap.size)
     (k:stepT P (crowd c (w.at d) sl)=runT P (crowd c ((w.at d).at d') a) 0):
     ∃N gs' w' a t',runNT P N (crowd c (w.at d) sl) t=(.next (crowd gs' w' a),t')/\kU P Wg Shun ShB S K M w c.size t gs' w' t':=by
  have hr:RK ty Wg K w ((w.at d).at d'):=⟨λ_ _=>rfl,id,Ue _⟩
  obtain⟨g',w',es,e1,Y,e3⟩:=n _ hr;have r:w.heap.size<=w'.heap.size:=Y.size;have Z:∀b,orK K ((w.at d).at d') w' b->b<w'.heap.size/\¬ShB b:=by
   rintro b (x|⟨x,y⟩)
   ·exact⟨Ui (H b x).1 r,(H b x).2⟩
   ·exact⟨y,λz=>absurd (U b z) (Vi.2 x)⟩
  have W:=(Uk.1 s).1;have T:=runT_crowd_go (P:=P) (sl:=a) (i:=0) s (show stepG P (0==0) _ _=_ from e1);obtain⟨gs',ops,o,I,F,J,L,O,G⟩:=ua (sl:=a) (B':=w'.heap.size) s C D E r e1 λe he=>No A Z (Ui V r) (e3 e he);have hg:∀p∈ops,p.g=0:=by rw[T]at o;simp only[Xd]at o;intro p j;rw[<-o.2]at j;obtain⟨e,_,rfl⟩:=Go.Conc.mem_ofEvents j;rfl
  have aa:Tch Wg (orK K ((w.at d).at d') w') ops:=by
   refine⟨λp j x hx=>?_,λp j hx B=>?_⟩
   ·obtain⟨e,he,u⟩:=G p j
    rw[u]at hx;obtain⟨b,v,hc⟩:=(e3 e he).1 x hx;refine⟨hg p j,hc.imp (λh=>⟨b,v,h.2.1,h.1⟩) λh=>⟨by rw[<-h.1];exact v,h.2⟩⟩
   ·obtain⟨e,he,u⟩:=G p j
    rw[u]at hx⊢;exact(e3 e he).2.2.2.2 B hx
  obtain⟨N,Q,w2,R,t2,af,v⟩:=ih _ g' w' es hr e1 gs' a (t++ops) ⟨I,⟨q,J⟩,L,O⟩ Z (λb z=>Ui (U b z) r) (Ui V r);refine⟨N+1,Q,w2,R,t2,by simp only[runNT,k,o];exact af,?_⟩;rw[F]at v;exact v.of aa Y.os Y.tape Y.output r (λb ag hm=>Y.keep b ag hm) (λb x=>.inl x) (λb x=>x.elim .inl λy=>.inr y.1) (λb x=>.inl x) (λb x=>x.elim .inl λy=>.inr y.1)
def xZ{g:Goroutine}{w:World}{ob:Obj}{g':Nat->Goroutine}(J:g.status=.running)(i:∀a:World,stepG P true g a=.go (g' a.heap.size) {a with heap:=a.heap.push ob} #[]):∀(m:Nat) (d:Nat) (c:Array Goroutine) (sl:Option (Nat×Nat)) (t:Trace) (q:Nat->Nat),sumTo c.size q<=m->c[0]? =some g->Leavers P t c q->Past Shun w.heap.size t->(∀h∈t,h.g<c.size)->∃N gs' d' b k u,runNT P N (crowd c (w.at d) sl) t=(.next (crowd gs' {w.at d' with heap:=w.heap.push ob} b),k)/\gs'.size=c.size/\k=t++u/\(∀h∈u,h.act.touch?=none/\∀B,h.act.low B)/\Bes P Shun gs' {w.at d' with heap:=w.heap.push ob} k (g' w.heap.size):=by
 intro m;induction m with
 |zero=>
  intro d c sl t q L l n o p;obtain⟨d',b,f|⟨gs',ops,K,_,_,_,_,_,C,_⟩⟩:=eA (w:=w.at d) (sl:=sl) l J n o p
  ·exact go i l n o p f
  ·omega
 |succ m D=>
  intro d c sl t q L l n o p;obtain⟨d',b,f|⟨gs',ops,K,f,r,j,s,v,C,x,E⟩⟩:=eA (w:=w.at d) (sl:=sl) l J n o p
  ·exact go i l n o p f
  ·obtain⟨N,F,d2,G,M,u,O,e1,Q,e3,e4⟩:=D d' gs' b (t++ops) K (by rw[j];omega) r s v x
   refine⟨N+1,F,d2,G,M,ops++u,by simp only[runNT,f];exact O,e1.trans j,by rw[Q,Vo],λh y=>(Vf.1 y).elim (E h) (e3 h),e4⟩
where
 go {g:Goroutine} {w:World} {ob:Obj} {g':Nat->Goroutine} (i:∀a:World,stepG P true g a=.go (g' a.heap.size) {a with heap:=a.heap.push ob} #[])
     {c:Array Goroutine} {sl b:Option (Nat×Nat)} {t:Trace} {q:Nat->Nat} {d d':Nat} (l:c[0]? =some g) (n:Leavers P t c q) (o:Past Shun w.heap.size t) (p:∀h∈t,h.g<c.size)
     (f:stepT P (crowd c (w.at d) sl)=runT P (crowd c ((w.at d).at d') b) 0):
     ∃N gs' d' b k u,runNT P N (crowd c (w.at d) sl) t=(.next (crowd gs' {w.at d' with heap:=w.heap.push ob} b),k)/\gs'.size=c.size/\k=t++u/\(∀h∈u,h.act.touch?=none/\∀B,h.act.low B)/\Bes P Shun gs' {w.at d' with heap:=w.heap.push ob} k (g' w.heap.size):=by
  have H:w.heap.size<=(w.heap.push ob).size:=by simp
  obtain⟨gs',ops,z,r,j,s,v,x,A⟩:=ua (w:=(w.at d).at d') (sl:=b) (B':=(w.heap.push ob).size) l n o p H (i _) (λe I=>by simp at I);refine⟨1,gs',d',b,t++ops,ops,by simp only[runNT,f,z];rfl,j,rfl,λh y=>?_,r,⟨q,s⟩,v,x⟩;obtain⟨e,I,_⟩:=A h y;simp at I
end
section
variable {S:Kn} {P:Program} {fs:Array Func} {Pr:Nat->Prop}
def Cp.done(A:Tab S P fs)(r:∀f,S.ent f=true->P.inits.idxOf? f=none){Post π c F W}(h:Cp S P fs Pr Post π c F [] W)(s:c.AtE):∃(v V:Value) (w' o:World) (ev:Array Event) (j:Ren P.globals.size),Post v w'/\w'.heap=c.w.heap/\stepG P true ⟨F,[],.running,none,none⟩ W=.ended (.done V) o ev/\aA j v V/\bw S Pr j w' o/\Chg Pr π W o j/\∀e∈ev,lu Pr j e:=by
 obtain⟨_,g,B,e1,C,_,_,_⟩:=A.ent _ h.top.ent;have t:=qZ (S:=S) (P:=P) (fs:=fs) g h.top.tmps;obtain⟨L,D,E|⟨a,w',u,b,o,ev,j,G,z,H,I,J,K⟩⟩:=t.run (Pr:=Pr) c.w W #[] #[] c.w.drawn h.w;all_goals
  let τ:Nat->Question->Nat:=λn=>if n<c.w.drawn then c.w.tape n else lO c.w.drawn L n
  have p:Fits τ c.w.drawn L:=λi g hi=>by show(if c.w.drawn+i<c.w.drawn then _ else _)=g;rw[Uc (by omega)];exact lz c.w.drawn L i g hi
  have y:∀n<c.w.drawn,τ n=c.w.tape n:=λn M=>Ud M;obtain⟨v,⟨_,_,_,g',l,k⟩,N⟩:=(h.ra.av y (py D)).ends s h.top.kind;simp only[show(ah P fs).funcs=fs from rfl]at l;rw[e1]at l;cases l;rw[show results {g with body:=some (gS B)} c.fr.tmps=results g c.fr.tmps from rfl]at k;have d:((results g c.fr.tmps).runT (ah P fs) (av c.w τ c.w.drawn) #[]).1=.ok v (av c.w τ c.w.drawn):=by rw[<-k];simp
 obtain⟨x,w',u,e,_⟩:=E τ p;rw[e]at d;cases d;rw[G τ p]at d;simp only[Result.ok.injEq]at d;obtain⟨rfl,O⟩:=d;rw[Vw]at z;refine⟨a,b,av c.w τ c.w.drawn,o,seen P F.fn ev++#[],j,N,rfl,?_,H,?_,J,ki K⟩;have m:=h.top.mode.trans s.2.1;have q:F.defers=[]:=by have:=h.top.defers;rw[s.2.2]at this;cases Q:F.defers with|nil=>rfl|cons=>rw[Q]at this;cases this
 have R:P.funcs[F.fn]? =some g:=by rw[h.top.fn];exact C
 have T:=h.top.Kind;have hi:=r F.fn (by rw[h.top.fn];exact h.top.ent);simp only[stepG,unwind,m,q,R,z,doReturn,T,hi];rfl;refine I.heap ?_ rfl;rw[<-O];rfl
def zt{N m m' t a}(h:runNT P N m t=(.next m',a)):runN P N m=.next m':=by rw[<-runNT_fst P N m t,h]
def b9(P:Program)(Post:Value->World->Prop)(m:Machine)(t:Trace):Prop:=∃N last o w' a,runNT P (N+1) m t=(.ended o w',a)/\runN P N m=.next last/\step P last=.ended o w'/\Go.Conc.Good P Post last o w' a
def b9.back{Post N m m' t b}(h:b9 P Post m' b)(c:runNT P N m t=(.next m',b)):b9 P Post m t:=by obtain⟨M,last,o,w',a,d,e,f,g⟩:=h;refine⟨N+M,last,o,w',a,?_,?_,f,g⟩;rw[Wb,runNT_add,c];exact d;rw[runN_add,zt c];exact e
def KM(O:Tab S P fs)(C:∀f,S.ent f=true->P.inits.idxOf? f=none){Post Shun}{ShB:Nat->Prop}(D:∀l,Shun l->∃b,blk l=some b/\ShB b){PostR} {a} {o} (k:∀v V w' E (n),Post v w'->aA n v V->bw S Pr n w' E->iQ Pr a o n E->PostR V E):∀(m) (π) (c) (F) (W) (u) (sl) (t) (q),sumTo u.size q<=m->iQ Pr a o π W->Cp S P fs Pr Post π c F [] W->c.AtE->u[0]? =some ⟨F,[],.running,none,none⟩->Leavers P t u q->Past Shun W.heap.size t->(∀op∈t,op.g<u.size)->(∀b,ShB b->b<W.heap.size/\¬∃r,π r b)->b9 P PostR (crowd u W sl) t:=by
 intro m;induction m with
 |zero=>
  intro π c F W u sl t q hm y h K I H J Q s;obtain⟨d,z,p|⟨gs',ops,q',_,_,_,_,_,R,_⟩⟩:=eA (w:=W) (sl:=sl) I rfl H J Q
  ·exact Jq O C D k y h K I H J s p
  ·omega
 |succ m ih=>
  intro π c F W u sl t q hm y h K I H J Q s;obtain⟨d,z,p|⟨gs',ops,q',p,T,U,X,G,R,Y,_⟩⟩:=eA (w:=W) (sl:=sl) I rfl H J Q
  ·exact Jq O C D k y h K I H J s p
  ·have:=ih π c F (W.at d) gs' z (t++ops) q' (by rw[U];omega) (y.chg (xW _ _ _ d)) ⟨h.top,h.cs,h.w.heap rfl rfl,h.flat,h.ra,h.dF⟩ K T X G Y s
   exact this.back (N:=1) (by simp only[runNT,p])
where
 Jq (O:Tab S P fs) (C:∀f,S.ent f=true->P.inits.idxOf? f=none) {Post:Value->World->Prop} {Shun:Loc->Prop} {ShB:Nat->Prop} (D:∀l,Shun l->∃b,blk l=some b/\ShB b) {PostR:Value->World->Prop}
     {a:Ren P.globals.size} {o:World} (k:∀v V w' E (n:Ren P.globals.size),Post v w'->aA n v V->bw S Pr n w' E->iQ Pr a o n E->PostR V E)
     {π:Ren P.globals.size} {c:Gh} {F:Frame} {W:World} {u:Array Goroutine} {sl z:Option (Nat×Nat)} {t:Trace} {q:Nat->Nat} {d:Nat}
     (y:iQ Pr a o π W) (h:Cp S P fs Pr Post π c F [] W) (K:c.AtE) (I:u[0]? =some ⟨F,[],.running,none,none⟩) (H:Leavers P t u q) (J:Past Shun W.heap.size t) (s:∀b,ShB b->b<W.heap.size/\¬∃r,π r b)
     (p:stepT P (crowd u W sl)=runT P (crowd u (W.at d) z) 0):b9 P PostR (crowd u W sl) t:=by
  obtain⟨v,V,w',E,ev,n,hp,_,L,hv,hw,A,Z⟩:=Cp.done O C (⟨h.top,h.cs,h.w.heap (W₁:=W.at d) rfl rfl,h.flat,h.ra,h.dF⟩:Cp S P fs Pr Post π c F [] (W.at d)) K;have B:=runT_many_ended (P:=P) (sl:=z) (i:=0) I (show stepG P (0==0) _ (W.at d)=_ from L);have M:∀b,ShB b->¬∃r,n r b:=λb hb ⟨r,hr⟩=>(A.old r b hr).elim (λx=>(s b hb).2 ⟨r,x⟩) λx=>absurd (s b hb).1 (Vi.2 x);have G:=(J.mono (B':=E.heap.size) A.size).own (fn:=F.fn) (pos:=F.place) λe aa=>Az D M (λb ⟨r,hr⟩=>(hw.lt hr).2) (Z e aa);refine⟨0,_,_,_,_,by simp only[runNT,p,B],rfl,by simp only[step,p,B],V,rfl,k _ _ _ _ _ hp hv hw ((y.chg (xW _ _ _ d)).chg A),G.clean,G.over,⟨λx hx=>?_,rfl⟩,λj x hx hj=>?_⟩
  ·obtain⟨j,hj⟩:=Vt.1 hx
   rw[W4]at hj;exact⟨_,(H.old (1+j) x (by omega) (by simpa[crowd]using hj)).leaves⟩
  ·have hq:=H.old j x (by omega) hx
   refine⟨q j,?_⟩;have e:(t++MemOp.ofEvents 0 F.fn F.place ev).deaf j (t++MemOp.ofEvents 0 F.fn F.place ev).size=Deaf t j:=Deaf_other t (g:=j) (g':=0) (by omega) _ (λop ab=>by obtain⟨e,_,rfl⟩:=Go.Conc.mem_ofEvents ab;rfl)
   rw[e];exact hq.hears _
end
end Go.Tm
namespace Go.Tm
open Go.Conc Go.ConcN Go.Conc.Lib
open Go.ConcR (KK WgAt stA smA rd wr mk DC0 Bk)
section
variable {P:Program} {ty:TypeId} {Wg ch:Nat} {z:Value} {An:aJ} {HV:Nat->Option Value} {Fin:List Value->aJ} {n N0:Nat} {shun:Nat->Prop} {Shun:Loc->Prop} {t:Trace} {gs:Array Goroutine} {w:World} {a:Goroutine} {K:Nat->Prop}
def Np(F:∀l,Shun l->∃b,blk l=some b/\shun b)(U:Bes P Shun gs w t a)(V:∀b,shun b->b<N0)(W:N0<=Wg)(X:N0<=ch)(Y:Wg≠ch)(Z:N0<=w.heap.size) (hwg:w.heap[Wg]? =some (.cells #[.int .u64 0,.int .u32 0] ty)) (hch:w.heap[ch]? =some (.chan 0 #[] false 0 0 false)) (G:∀b,K b->b<w.heap.size/\¬spB Wg ch b/\¬shun b) (H:∀(i:Nat) (f) x b,t[i]? =some f->f.act.touch?=some x->blk x.loc=some b->¬spB Wg ch b) (s:NoRelease (stA Wg) t) (u:Run P true ty Wg (SSp P ty Wg ch z An HV Fin n n) K (λ_=>False) a w):∃σ,GI P ty Wg ch z An HV Fin n gs.size N0 shun w t gs w t σ:=by
 obtain⟨g0,⟨q,Q⟩,C,S⟩:=U;have aa:=(Uk.1 g0).1;have I:=(Uk.1 hwg).1;have J:=(Uk.1 hch).1;obtain⟨x,T⟩:=cZ.of u;obtain⟨mt,ρ,L,v,m,M,A⟩:∃mt ρ,fw P ty Wg ch z An HV Fin n mt 0 0 K (λ_=>False) ρ a w/\mt.got=[]/\mt.pend=0/\((∃r st,mt=.sp r st)\/mt=.gc)/\(∀r hs,mt≠ .rb r hs)/\∀r hs,mt≠ .rw r hs:=by cases n with|zero=>exact⟨.gc,(90,0,x),.gc T,rfl,rfl,.inr rfl,λ_ _=>by simp,λ_ _=>by simp⟩|succ r=>refine⟨.sp r 5,(100+10*r+5,0,x),?_,rfl,rfl,.inl ⟨_,_,rfl⟩,λ_ _=>by simp,λ_ _=>by simp⟩;have:=fw.kd (n:=r+1) (r:=r) (by omega) T;simpa using this
 have known:∀(i:Nat) y b,touchAt t i=some y->blk y.loc=some b->¬shun b->Knows t 0 i:=by intro i y b o d hs;rcases C.known i y o (by cases hl:y.loc<;>simp_all [blk,Loc.isMemory])with h|⟨h,_⟩;exact h;obtain⟨b',E,h2⟩:=F _ h;rw[d]at E;cases E;exact absurd h2 hs
 let σ:GSt P ty Wg:={j:=0,D:=λ_=>⟨0,0,λ_=>False,λ_=>False⟩,R:=λ_=>(9,0,x),mt:=mt,K0:=K,M0:=λ_=>False,r0:=ρ,d0:=0,ct:=none,Kc:=λ_=>False,Mc:=λ_=>False,rc:=ρ,dc:=0,q:=q,own:=λ_=>0,low:=λ_=>0,st:=0,sm:=0}
 refine⟨σ,⟨⟨rfl,rfl,rfl,Z,λ_ _=>rfl,⟨0,hch⟩,hwg,⟨I,J⟩,λi hi=>absurd hi (Ut _),λi hi=>absurd hi (Ut _),λb d=>?_,λb d=>d.elim,λh=>absurd rfl h,λh=>absurd rfl h,λb h=>absurd rfl h,λi hi=>absurd hi (Ut _),⟨λh=>absurd rfl h,λh=>absurd rfl h⟩,λk h=>absurd rfl h,λk=>Ul _⟩,
  ⟨⟨#[],by simp⟩,?_,C.seen,(λf p=>by have:=S f p;omega),s,C.hears,λi hi=>absurd hi (Ut _),λh=>absurd rfl h,λk N _ _=>Q.above k N,λi hi=>absurd hi (Ut _),(λh=>by cases h),λh=>by cases h⟩,
  ⟨by simp[σ],Ul _,λh=>absurd rfl h,⟨a,g0,L⟩,⟨λ_=>M,λ_=>rfl⟩,λi hi=>absurd hi (Ut _),λi _ _=>rfl,(λc h=>by cases h),λi g E _ h3=>Q.old i g E h3,λ⟨r,hs,e⟩=>absurd e (A.1 r hs),λr hs e=>absurd e (A.2 r hs)⟩,
  ?_,⟨[],List.nodup_nil,λi=>⟨λh=>by simp at h,λh=>absurd h.1 (Ut _)⟩,v⟩⟩⟩
 exact⟨(G b d).1,(G b d).2.1,(G b d).2.2,rfl⟩;refine⟨C.clean,λi f y b _ _ _ h=>absurd rfl h,λi y b o d _ _ hs _=>⟨known i y b o d hs,λk N=>absurd N (Ut _)⟩,λi y b o d _ _ hs _=>known i y b o d hs,λi f y B o b d O=>absurd O (H i f y b B o d),λf p e=>?_,λi f y hi B=>?_,λi f y hi B=>?_,rfl,λb _=>rfl⟩;have:=S f p;omega;have:=lt_size_of_getElem? B;omega;have:=lt_size_of_getElem? B;omega;have e:(((VW 0 σ.D+mt.pend:Nat):Int)*KK)=0:=by rw[m];simp[VW,sumTo]
 have key:=Mode.opn (j:=0) (D:=σ.D) (mt:=mt) (ct:=none) True.intro (λi hi=>absurd hi (Ut _)) (λvs h=>by cases h);rw[e]at key;exact key
end
end Go.Tm
namespace Go.Tm
open Go.Proofs
abbrev link:Go.Conc.Lib.WgLink:={add:=122,done:=124,wait:=127,relMerge:=144,disable:=145,enable:=146,inBubble:=147,associate:=148,fatal:=149,uOr:=150,uAdd:=151,raceRead:=152,uLoad:=153,uStore:=154,disassociate:=155,semrelease:=156,acquire:=157,isAssociated:=158,uCas:=159,raceWrite:=160,semacquire:=161,orU64:=168,addU64:=169,loadU64:=170,storeU64:=171,casU64:=172,tWgP:=208,tUP:=210,tAssoc:=211,tWg:=195,tAU:=192,tU64:=190,tUint:=215,tU32:=193,tPU32:=216,tPAU:=229,tPU64:=231,tNoCopy:=187,tANoCopy:=188,tAlign64:=189}
def yd:Go.Conc.Lib.WgLib Tryz.prog link:=⟨Tryz.func122,Tryz.func124,Tryz.func127,Tryz.func144,Tryz.func145,Tryz.func146,Tryz.func147,Tryz.func148,Tryz.func149,Tryz.func150,Tryz.func151,Tryz.func152,Tryz.func153,Tryz.func154,Tryz.func155,Tryz.func156,Tryz.func157,Tryz.func158,Tryz.func159,Tryz.func160,Tryz.func161,Tryz.func168,Tryz.func169,Tryz.func170,Tryz.func171,Tryz.func172,Tryz.underlying208,Tryz.runUnderlying208,Tryz.sizeOf208,Tryz.isAgg208,Tryz.zeroValue208,Tryz.underlying210,Tryz.runUnderlying210,Tryz.sizeOf210,Tryz.isAgg210,Tryz.zeroValue210,Tryz.underlying211,Tryz.runUnderlying211,Tryz.sizeOf211,Tryz.isAgg211,Tryz.zeroValue211,Tryz.underlying195,Tryz.runUnderlying195,Tryz.sizeOf195,Tryz.isAgg195,Tryz.zeroValue195,Tryz.underlying192,Tryz.runUnderlying192,Tryz.sizeOf192,Tryz.isAgg192,Tryz.zeroValue192,Tryz.underlying190,Tryz.runUnderlying190,Tryz.sizeOf190,Tryz.isAgg190,Tryz.zeroValue190,Tryz.underlying215,Tryz.runUnderlying215,Tryz.sizeOf215,Tryz.isAgg215,Tryz.zeroValue215,Tryz.underlying193,Tryz.runUnderlying193,Tryz.sizeOf193,Tryz.isAgg193,Tryz.zeroValue193,Tryz.underlying216,Tryz.runUnderlying216,Tryz.sizeOf216,Tryz.isAgg216,Tryz.zeroValue216,Tryz.underlying229,Tryz.runUnderlying229,Tryz.sizeOf229,Tryz.isAgg229,Tryz.zeroValue229,Tryz.underlying231,Tryz.runUnderlying231,Tryz.sizeOf231,Tryz.isAgg231,Tryz.zeroValue231,Tryz.underlying0,Tryz.runUnderlying0,Tryz.sizeOf0,Tryz.isAgg0,Tryz.zeroValue0,Tryz.underlying3,Tryz.runUnderlying3,Tryz.sizeOf3,Tryz.isAgg3,Tryz.zeroValue3,Tryz.underlying4,Tryz.runUnderlying4,Tryz.sizeOf4,Tryz.isAgg4,Tryz.zeroValue4,Tryz.underlying9,Tryz.runUnderlying9,Tryz.sizeOf9,Tryz.isAgg9,Tryz.zeroValue9,Tryz.underlying20,Tryz.runUnderlying20,Tryz.sizeOf20,Tryz.isAgg20,Tryz.zeroValue20,Tryz.underlying21,Tryz.runUnderlying21,Tryz.sizeOf21,Tryz.isAgg21,Tryz.zeroValue21,(by kernel_rfl),(by kernel_rfl)⟩
end Go.Tm

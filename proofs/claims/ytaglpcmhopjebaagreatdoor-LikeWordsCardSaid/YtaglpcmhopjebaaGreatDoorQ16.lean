import Derived.Conc.FxBegin
import Derived.Test.YtaglpcmhopjebaaGreatDoorProg
import Derived.IntWalk
import Derived.Conc.TokenAlone
import Derived.Test.YtaglpcmhopjebaaGreatDoorQ15
set_option linter.all false
set_option maxRecDepth 100000
set_option maxHeartbeats 20000000
namespace Go.Tm
open Go.Conc Go.ConcN
section
variable {S:Kn} {P:Program} {fs:Array Func} {Pr:Nat->Prop}
def Cp.done(B:Tab S P fs)(r:∀f,S.ent f=true->P.inits.idxOf? f=none){Post π c F W}(h:Cp S P fs Pr Post π c F [] W)(s:c.AtE):
 ∃(v V:Value) (w' o:World) (ev:Array Event) (j:Ren P.globals.size),Post v w'/\w'.heap=c.w.heap/\stepG P true ⟨F,[],.running,none,none⟩ W=.ended (.done V) o ev/\av j v V/\bj S Pr j w' o/\Chg Pr π W o j/\∀e∈ev,kP Pr j e:=by
 obtain⟨_,g,C,e1,D,_,_,_⟩:=B.ent _ h.top.ent;have t:=qh (S:=S) (P:=P) (fs:=fs) g h.top.tmps;obtain⟨L,E,G|⟨a,w',u,b,o,ev,j,H,A,I,J,K,M⟩⟩:=t.run (Pr:=Pr) c.w W #[] #[] c.w.drawn h.w;all_goals
  let τ:Nat->Question->Nat:=λn=>if n<c.w.drawn then c.w.tape n else lx c.w.drawn L n
  have p:Fits τ c.w.drawn L:=λi g y=>by show(if c.w.drawn+i<c.w.drawn then _ else _)=g;rw[RY (by omega)];exact kQ c.w.drawn L i g y
  have z:∀n<c.w.drawn,τ n=c.w.tape n:=λn N=>RZ N;obtain⟨v,⟨_,_,_,g',l,k⟩,O⟩:=(h.qi.aq z (oS E)).ends s h.top.kind;simp only[show(ah P fs).funcs=fs from rfl]at l;rw[e1]at l;cases l;rw[show results {g with body:=some (gp C)} c.fr.tmps=results g c.fr.tmps from rfl]at k;have d:((results g c.fr.tmps).runT (ah P fs) (aq c.w τ c.w.drawn) #[]).1=.ok v (aq c.w τ c.w.drawn):=by rw[<-k];simp
 ·obtain⟨x,w',u,e,_⟩:=G τ p
  rw[e]at d;cases d
 ·rw[H τ p]at d
  simp only[Result.ok.injEq]at d;obtain⟨rfl,Q⟩:=d;rw[TA]at A;refine⟨a,b,aq c.w τ c.w.drawn,o,seen P F.fn ev++#[],j,O,rfl,?_,I,?_,K,jV M⟩
  ·have m:=h.top.mode.trans s.2.1
   have q:F.defers=[]:=by
    have:=h.top.defers;rw[s.2.2]at this;cases R:F.defers with
    |nil=>rfl
    |cons=>rw[R]at this;cases this
   have T:P.funcs[F.fn]? =some g:=by rw[h.top.fn];exact D
   have U:=h.top.Kind;have y:=r F.fn (by rw[h.top.fn];exact h.top.ent);simp only[stepG,unwind,m,q,T,A,doReturn,U,y];rfl
  ·refine J.heap ?_ rfl
   rw[<-Q];rfl
def yn{N m m' t a}(h:runNT P N m t=(.next m',a)):runN P N m=.next m':=by rw[<-runNT_fst P N m t,h]
def cQ(P:Program)(Post:Value->World->Prop)(m:Machine)(t:Trace):Prop:=∃N last o w' a,runNT P (N+1) m t=(.ended o w',a)/\runN P N m=.next last/\step P last=.ended o w'/\Go.Conc.Good P Post last o w' a
def cQ.back{Post N m m' t b}(h:cQ P Post m' b)(c:runNT P N m t=(.next m',b)):cQ P Post m t:=by
 obtain⟨M,last,o,w',a,d,e,f,g⟩:=h;refine⟨N+M,last,o,w',a,?_,?_,f,g⟩
 ·rw[T9,runNT_add,c];exact d
 ·rw[runN_add,yn c];exact e
def Jo(O:Tab S P fs)(C:∀f,S.ent f=true->P.inits.idxOf? f=none){Post Shun}{ShB:Nat->Prop}(D:∀l,Shun l->∃b,blk l=some b/\ShB b){PostR}
 {a} {o} (k:∀v V w' E (n),Post v w'->av n v V->bj S Pr n w' E->iw Pr a o n E->PostR V E):
 ∀(m) (π) (c) (F) (W) (u) (sl) (t) (q),sumTo u.size q<=m->
  iw Pr a o π W->Cp S P fs Pr Post π c F [] W->c.AtE->u[0]? =some ⟨F,[],.running,none,none⟩->Leavers P t u q->Past Shun W.heap.size t->(∀op∈t,op.g<u.size)->(∀b,ShB b->b<W.heap.size/\¬∃r,π r b)->
  cQ P PostR (crowd u W sl) t:=by
 intro m;induction m with
 |zero=>
  intro π c F W u sl t q hm y h K I H J Q s;obtain⟨d,z,p|⟨gs',ops,q',_,_,_,_,_,R,_⟩⟩:=eu (w:=W) (sl:=sl) I rfl H J Q
  ·exact Hr O C D k y h K I H J s p
  ·omega
 |succ m ih=>
  intro π c F W u sl t q hm y h K I H J Q s;obtain⟨d,z,p|⟨gs',ops,q',p,T,U,X,G,R,Y,_⟩⟩:=eu (w:=W) (sl:=sl) I rfl H J Q
  ·exact Hr O C D k y h K I H J s p
  ·have:=ih π c F (W.at d) gs' z (t++ops) q' (by rw[U];omega) (y.chg (wP _ _ _ d)) ⟨h.top,h.cs,h.w.heap rfl rfl,h.flat,h.qi,h.dq⟩ K T X G Y s
   exact this.back (N:=1) (by simp only[runNT,p])
where
 Hr (O:Tab S P fs) (C:∀f,S.ent f=true->P.inits.idxOf? f=none) {Post:Value->World->Prop} {Shun:Loc->Prop} {ShB:Nat->Prop} (D:∀l,Shun l->∃b,blk l=some b/\ShB b) {PostR:Value->World->Prop}
     {a:Ren P.globals.size} {o:World} (k:∀v V w' E (n:Ren P.globals.size),Post v w'->av n v V->bj S Pr n w' E->iw Pr a o n E->PostR V E)
     {π:Ren P.globals.size} {c:Gh} {F:Frame} {W:World} {u:Array Goroutine} {sl z:Option (Nat×Nat)} {t:Trace} {q:Nat->Nat} {d:Nat}
     (y:iw Pr a o π W) (h:Cp S P fs Pr Post π c F [] W) (K:c.AtE) (I:u[0]? =some ⟨F,[],.running,none,none⟩) (H:Leavers P t u q) (J:Past Shun W.heap.size t) (s:∀b,ShB b->b<W.heap.size/\¬∃r,π r b)
     (p:stepT P (crowd u W sl)=runT P (crowd u (W.at d) z) 0):cQ P PostR (crowd u W sl) t:=by
  obtain⟨v,V,w',E,ev,n,hp,_,L,hv,hw,A,Z⟩:=Cp.done O C (⟨h.top,h.cs,h.w.heap (W₁:=W.at d) rfl rfl,h.flat,h.qi,h.dq⟩:Cp S P fs Pr Post π c F [] (W.at d)) K;have B:=runT_many_ended (P:=P) (sl:=z) (i:=0) I (show stepG P (0==0) _ (W.at d)=_ from L);have M:∀b,ShB b->¬∃r,n r b:=λb hb ⟨r,hr⟩=>(A.old r b hr).elim (λx=>(s b hb).2 ⟨r,x⟩) λx=>absurd (s b hb).1 (Ti.2 x);have G:=(J.mono (B':=E.heap.size) A.size).own (fn:=F.fn) (pos:=F.place) λe aa=>zo D M (λb ⟨r,hr⟩=>(hw.lt hr).2) (Z e aa);refine⟨0,_,_,_,_,by simp only[runNT,p,B],rfl,by simp only[step,p,B],V,rfl,k _ _ _ _ _ hp hv hw ((y.chg (wP _ _ _ d)).chg A),G.clean,G.over,⟨λx hx=>?_,rfl⟩,λj x hx hj=>?_⟩
  ·obtain⟨j,hj⟩:=Ty.1 hx
   rw[UR]at hj;exact⟨_,(H.old (1+j) x (by omega) (by simpa[crowd]using hj)).leaves⟩
  ·have hq:=H.old j x (by omega) hx
   refine⟨q j,?_⟩;have e:(t++MemOp.ofEvents 0 F.fn F.place ev).deaf j (t++MemOp.ofEvents 0 F.fn F.place ev).size=Deaf t j:=Deaf_other t (g:=j) (g':=0) (by omega) _ (λop ab=>by obtain⟨e,_,rfl⟩:=Go.Conc.mem_ofEvents ab;rfl)
   rw[e];exact hq.hears _
end
end Go.Tm
namespace Go.Tm
open Go.Conc Go.ConcN Go.Conc.Lib
open Go.ConcR (KK WgAt stA smA rd wr mk DC0 Bk)
section
variable {P:Program} {ty:TypeId} {Wg ch:Nat} {z:Value} {An:aJ} {HV:Nat->Option Value} {Fin:List Value->aJ} {n N0:Nat} {shun:Nat->Prop} {Shun:Loc->Prop} {t:Trace} {gs:Array Goroutine} {w:World} {a:Goroutine} {K:Nat->Prop}
def LK(G:∀l,Shun l->∃b,blk l=some b/\shun b)(V:Bes P Shun gs w t a)(W:∀b,shun b->b<N0)(X:N0<=Wg)(Y:N0<=ch)(Z:Wg≠ch)(hN:N0<=w.heap.size)
 (hwg:w.heap[Wg]? =some (.cells #[.int .u64 0,.int .u32 0] ty)) (hch:w.heap[ch]? =some (.chan 0 #[] false 0 0 false)) (H:∀b,K b->b<w.heap.size/\¬spB Wg ch b/\¬shun b)
 (I:∀(i:Nat) (m) x b,t[i]? =some m->m.act.touch?=some x->blk x.loc=some b->¬spB Wg ch b) (u:NoRelease (stA Wg) t)
 (v:Run P true ty Wg (SSp P ty Wg ch z An HV Fin n n) K (λ_=>False) a w):
 ∃σ,GI P ty Wg ch z An HV Fin n gs.size N0 shun w t gs w t σ:=by
 obtain⟨g0,⟨q,S⟩,E,T⟩:=V;have aa:=(R7.1 g0).1;have J:=(R7.1 hwg).1;have L:=(R7.1 hch).1;obtain⟨x,U⟩:=cj.of v;obtain⟨mt,ρ,M,A,o,N,B⟩:∃mt ρ,fj P ty Wg ch z An HV Fin n mt 0 0 K (λ_=>False) ρ a w/\mt.got=[]/\mt.pend=0/\((∃r st,mt=.sp r st)\/mt=.gc)/\(∀r hs,mt≠ .rb r hs)/\∀r hs,mt≠ .rw r hs:=by
  cases n with
  |zero=>exact⟨.gc,(90,0,x),.gc U,rfl,rfl,.inr rfl,λ_ _=>by simp,λ_ _=>by simp⟩
  |succ r=>refine⟨.sp r 5,(100+10*r+5,0,x),?_,rfl,rfl,.inl ⟨_,_,rfl⟩,λ_ _=>by simp,λ_ _=>by simp⟩;have:=fj.kd (n:=r+1) (r:=r) (by omega) U;simpa using this
 have known:∀(i:Nat) y b,touchAt t i=some y->blk y.loc=some b->¬shun b->Knows t 0 i:=by
  intro i y b p d hs;rcases E.known i y p (by cases hl:y.loc<;>simp_all [blk,Loc.isMemory])with h|⟨h,_⟩
  ·exact h
  ·obtain⟨b',F,h2⟩:=G _ h
   rw[d]at F;cases F;exact absurd h2 hs
 let σ:GSt P ty Wg:={j:=0,D:=λ_=>⟨0,0,λ_=>False,λ_=>False⟩,R:=λ_=>(9,0,x),mt:=mt,K0:=K,M0:=λ_=>False,r0:=ρ,d0:=0,ct:=none,Kc:=λ_=>False,Mc:=λ_=>False,rc:=ρ,dc:=0,q:=q,own:=λ_=>0,low:=λ_=>0,st:=0,sm:=0}
 refine⟨σ,⟨⟨rfl,rfl,rfl,hN,λ_ _=>rfl,⟨0,hch⟩,hwg,⟨J,L⟩,λi f=>absurd f (Sm _),λi f=>absurd f (Sm _),λb d=>?_,λb d=>d.elim,λh=>absurd rfl h,λh=>absurd rfl h,λb h=>absurd rfl h,λi f=>absurd f (Sm _),⟨λh=>absurd rfl h,λh=>absurd rfl h⟩,λk h=>absurd rfl h,λk=>R9 _⟩,
  ⟨⟨#[],by simp⟩,?_,E.seen,(λm s=>by have:=T m s;omega),u,E.hears,λi f=>absurd f (Sm _),λh=>absurd rfl h,λk O _ _=>S.above k O,λi f=>absurd f (Sm _),(λh=>by cases h),λh=>by cases h⟩,
  ⟨by simp[σ],R9 _,λh=>absurd rfl h,⟨a,g0,M⟩,⟨λ_=>N,λ_=>rfl⟩,λi f=>absurd f (Sm _),λi _ _=>rfl,(λc h=>by cases h),λi g F _ h3=>S.old i g F h3,λ⟨r,hs,e⟩=>absurd e (B.1 r hs),λr hs e=>absurd e (B.2 r hs)⟩,
  ?_,⟨[],List.nodup_nil,λi=>⟨λh=>by simp at h,λh=>absurd h.1 (Sm _)⟩,A⟩⟩⟩
 ·exact⟨(H b d).1,(H b d).2.1,(H b d).2.2,rfl⟩
 ·refine⟨E.clean,λi m y b _ _ _ h=>absurd rfl h,λi y b p d _ _ hs _=>⟨known i y b p d hs,λk O=>absurd O (Sm _)⟩,λi y b p d _ _ hs _=>known i y b p d hs,λi m y C p b d Q=>absurd Q (I i m y b C p d),λm s e=>?_,λi m y f C=>?_,λi m y f C=>?_,rfl,λb _=>rfl⟩
  ·have:=T m s;omega
  ·have:=lt_size_of_getElem? C;omega
  ·have:=lt_size_of_getElem? C;omega
 ·have e:(((VW 0 σ.D+mt.pend:Nat):Int)*KK)=0:=by rw[o];simp[VW,sumTo]
  have key:=Mode.opn (j:=0) (D:=σ.D) (mt:=mt) (ct:=none) True.intro (λi f=>absurd f (Sm _)) (λvs h=>by cases h);rw[e]at key;exact key
end
end Go.Tm
namespace Go.Tm
open Go.Proofs
abbrev link:Go.Conc.Lib.WgLink:={add:=122,done:=124,wait:=127,relMerge:=144,disable:=145,enable:=146,inBubble:=147,associate:=148,fatal:=149,uOr:=150,uAdd:=151,raceRead:=152,uLoad:=153,uStore:=154,disassociate:=155,semrelease:=156,acquire:=157,isAssociated:=158,uCas:=159,raceWrite:=160,semacquire:=161,orU64:=168,addU64:=169,loadU64:=170,storeU64:=171,casU64:=172,tWgP:=208,tUP:=210,tAssoc:=211,tWg:=195,tAU:=192,tU64:=190,tUint:=215,tU32:=193,tPU32:=216,tPAU:=229,tPU64:=231,tNoCopy:=187,tANoCopy:=188,tAlign64:=189}
def wW:Go.Conc.Lib.WgLib Tryz.prog link:=⟨Tryz.func122,Tryz.func124,Tryz.func127,Tryz.func144,Tryz.func145,Tryz.func146,Tryz.func147,Tryz.func148,Tryz.func149,Tryz.func150,Tryz.func151,Tryz.func152,Tryz.func153,Tryz.func154,Tryz.func155,Tryz.func156,Tryz.func157,Tryz.func158,Tryz.func159,Tryz.func160,Tryz.func161,Tryz.func168,Tryz.func169,Tryz.func170,Tryz.func171,Tryz.func172,Tryz.underlying208,Tryz.runUnderlying208,Tryz.sizeOf208,Tryz.isAgg208,Tryz.zeroValue208,Tryz.underlying210,Tryz.runUnderlying210,Tryz.sizeOf210,Tryz.isAgg210,Tryz.zeroValue210,Tryz.underlying211,Tryz.runUnderlying211,Tryz.sizeOf211,Tryz.isAgg211,Tryz.zeroValue211,Tryz.underlying195,Tryz.runUnderlying195,Tryz.sizeOf195,Tryz.isAgg195,Tryz.zeroValue195,Tryz.underlying192,Tryz.runUnderlying192,Tryz.sizeOf192,Tryz.isAgg192,Tryz.zeroValue192,Tryz.underlying190,Tryz.runUnderlying190,Tryz.sizeOf190,Tryz.isAgg190,Tryz.zeroValue190,Tryz.underlying215,Tryz.runUnderlying215,Tryz.sizeOf215,Tryz.isAgg215,Tryz.zeroValue215,Tryz.underlying193,Tryz.runUnderlying193,Tryz.sizeOf193,Tryz.isAgg193,Tryz.zeroValue193,Tryz.underlying216,Tryz.runUnderlying216,Tryz.sizeOf216,Tryz.isAgg216,Tryz.zeroValue216,Tryz.underlying229,Tryz.runUnderlying229,Tryz.sizeOf229,Tryz.isAgg229,Tryz.zeroValue229,Tryz.underlying231,Tryz.runUnderlying231,Tryz.sizeOf231,Tryz.isAgg231,Tryz.zeroValue231,Tryz.underlying0,Tryz.runUnderlying0,Tryz.sizeOf0,Tryz.isAgg0,Tryz.zeroValue0,Tryz.underlying3,Tryz.runUnderlying3,Tryz.sizeOf3,Tryz.isAgg3,Tryz.zeroValue3,Tryz.underlying4,Tryz.runUnderlying4,Tryz.sizeOf4,Tryz.isAgg4,Tryz.zeroValue4,Tryz.underlying9,Tryz.runUnderlying9,Tryz.sizeOf9,Tryz.isAgg9,Tryz.zeroValue9,Tryz.underlying20,Tryz.runUnderlying20,Tryz.sizeOf20,Tryz.isAgg20,Tryz.zeroValue20,Tryz.underlying21,Tryz.runUnderlying21,Tryz.sizeOf21,Tryz.isAgg21,Tryz.zeroValue21,(by kernel_rfl),(by kernel_rfl)⟩
end Go.Tm
namespace Go.Tm
open Go.Conc Go.ConcN Go.RowKit Go.Conc.Lib Go.ConcR.Gen Go.ConcN.Gen
open Go.ConcR (KK wgBlock WgAt stA smA rd wr mk Payload Aside2 DC0)
section
variable {P:Program} {R:World->World->Prop} {D:World->World->Array Event->Prop} {St:Goroutine->World->Prop} {F:World->Prop} {a:Addr}
structure Fl(P:Program)(R:World->World->Prop)(D:World->World->Array Event->Prop)(St:Goroutine->World->Prop)(F:World->Prop)(a:Addr):Prop where
 refl:∀w,R w w
 trans:∀a b c,R a b->R b c->R a c
 keep:∀w w₁,F w->R w w₁->F w₁
 stop:∀g w,St g w->∃g',stepG P false g w=.go g' w #[mk (.releaseMerge a)]
 dis:∀w w',¬D w w' #[mk .disable]
def Cv(P:Program)(R:World->World->Prop)(D:World->World->Array Event->Prop)(St:Goroutine->World->Prop)(F:World->Prop)(g:Goroutine):Prop:=∀w n,F w->Goes P false R D St n g w->∃m,Goes P false R DC0 St m g w
def Bad(P:Program)(R:World->World->Prop)(D:World->World->Array Event->Prop)(St:Goroutine->World->Prop)(F:World->Prop)(g:Goroutine):Prop:=∀w n,F w->¬Goes P false R D St n g w
def Cv.step(d:Fl P R D St F a){g g'}(k:g.status=.running)(h:∀w,F w->stepG P false g w=.go g' w #[])(l:Cv P R D St F g'):Cv P R D St F g:=by
 intro w n i f;have no:¬St g w:=λj=>by obtain⟨p,e⟩:=d.stop g w j;rw[h w i]at e;simp at e
 cases n with
 |zero=>exact absurd (f w (d.refl w)) no
 |succ n=>
  obtain f|⟨_,f⟩:=f
  ·exact absurd (f w (d.refl w)) no
  ·have:=f w (d.refl w)
   rw[h w i,goes_go]at this;obtain⟨m,o⟩:=l w _ i this.2;refine⟨m+1,.inr ⟨k,λb c=>?_⟩⟩;rw[h b (d.keep w b i c),goes_go];exact⟨⟨rfl,rfl⟩,Goes.rely d.trans o c⟩
def Bad.step(c:Fl P R D St F a){g g'}(j:g.status=.running)(h:∀w,F w->stepG P false g w=.go g' w #[])(i:Bad P R D St F g'):Bad P R D St F g:=by
 intro w n d b;have no:¬St g w:=λf=>by obtain⟨k,e⟩:=c.stop g w f;rw[h w d]at e;simp at e
 cases n with
 |zero=>exact absurd (b w (c.refl w)) no
 |succ n=>
  obtain b|⟨_,b⟩:=b
  ·exact absurd (b w (c.refl w)) no
  ·have:=b w (c.refl w)
   rw[h w d,goes_go]at this;exact i w _ d this.2
def Cv.stop(d:Fl P R D St F a){g g' es}(h:∀w,F w->stepG P false g w=.go g' w es)(e:Bad P R D St F g'):Cv P R D St F g:=by
 intro w n c b;cases n with
 |zero=>exact⟨0,b⟩
 |succ n=>
  obtain b|⟨_,b⟩:=b
  ·exact⟨0,b⟩
  ·have:=b w (d.refl w)
   rw[h w c,goes_go]at this;exact(e w _ c this.2).elim
def Bad.last(c:Fl P R D St F a){g g'}(h:∀w,F w->stepG P false g w=.go g' w #[mk .disable]):Bad P R D St F g:=by
 intro w n f b;have no:¬St g w:=λd=>by obtain⟨i,e⟩:=c.stop g w d;rw[h w f]at e;simp[Go.ConcR.mk]at e
 cases n with
 |zero=>exact absurd (b w (c.refl w)) no
 |succ n=>
  obtain b|⟨_,b⟩:=b
  ·exact absurd (b w (c.refl w)) no
  ·have:=b w (c.refl w)
   rw[h w f,goes_go]at this;exact c.dis _ _ this.1
def js{mn}{b:Frame}{a k cs w ops i rest o}(v)(c:ops[i]? =some o)(d:Region.wanted o (yielded ops a.tmps)=true)(e:b.kind≠ .early)
 (f:(execOp a.eval o).run P w=.ok (.value v) w) (g:(execOp a.eval o).events P w #[]=#[]):stepG P mn (G (b.at a (.inRegion ops (i::rest)::k)) cs) w=.go (G (b.at (a.put o.dst v) (.inRegion ops rest::k)) cs) w #[]:=by
 rw[stepG_value c d e f];unfold listed;rw[g,seen_none]
def Cv.val(d:Fl P R D St F a){b:Frame}{c k cs ops i rest o}(v)(e:ops[i]? =some o)(f:Region.wanted o (yielded ops c.tmps)=true)(g:b.kind≠ .early)
 (j:∀w,F w->(execOp c.eval o).run P w=.ok (.value v) w) (l:∀w,F w->(execOp c.eval o).events P w #[]=#[]) (m:Cv P R D St F (G (b.at (c.put o.dst v) (.inRegion ops rest::k)) cs)):Cv P R D St F (G (b.at c (.inRegion ops (i::rest)::k)) cs):=
 .step d rfl (λw h=>js v e f g (j w h) (l w h)) m
def A3{mn g g' w es}(h:(stepG P mn g w).goes λc w1 b=>c=g'/\w1=w/\b=es):stepG P mn g w=.go g' w es:=by
 cases e:stepG P mn g w with
 |go c w1 b=>rw[e,goes_go]at h;obtain⟨rfl,rfl,rfl⟩:=h;rfl
 |_=>rw[e]at h;exact h.elim
end
section
variable [Payload] {L:WgLink}
def QX{P}(H:WgLib P L){Wg C n Low k val c cs j}
 (e:c.mode=.returning) (l:QuitsD P j 0 (G c cs)) (w) (f:WgLive L.tWg Wg w/\Has C (k-1) val w):
 ∃m,Goes P false (RW L.tWg Wg C n Low (k-1)) DC0 (AtR0 P L.tWg Wg C n Low k val) m (G ((baseD L.done).at ⟨#[.pointer (some ⟨Wg,0,none⟩),undef,undef,undef],[]⟩ [.code (body_done L)]) (c::cs)) w:=by
 have i:=doneN (Own:=λ_ _=>False) (Rd:=λ_ _=>False) (n:=n) (Low:=Low) H e l w f;have b:Fl P (RW L.tWg Wg C n Low (k-1)) (DWs Wg (λ_ _=>False) (λ_ _=>False) C n k) (AtR0 P L.tWg Wg C n Low k val) (λw=>WgLive L.tWg Wg w/\Has C (k-1) val w) (stA Wg):=⟨RW.refl,λ_ _ _=>RW.trans,λ_ _=>kn_rely,λg w h=>⟨h.2.2.choose,h.2.2.choose_spec.1⟩,λw w' h=>(h.2 (mk .disable) (by simp)).2.1 rfl⟩
 refine(?_:Cv P _ _ _ (λw=>WgLive L.tWg Wg w/\Has C (k-1) val w) _) w _ f i;clear i
 lib_facts
 simp only[body_done,doneFn,TZ];refine Cv.step b rfl (λ_ _=>stepG_region) ?_;simp only[Su,R4,Sl,Nat.reduceAdd,Se,List.range,List.range.loop];refine Cv.step b rfl (λw _=>js (.pointer (some ⟨Wg,0,none⟩)) rfl rfl (by k_ne) (by go_simp;try decide) (by simp[go_sem, *])) ?_
 walk_nrm
 refine Cv.step b rfl (λ_ _=>A3 (goes_call rfl rfl (by k_ne) rfl H.f_add (nm_add L) rfl ⟨rfl,rfl,rfl⟩)) ?_
 walk_nrmf addFn
 refine Cv.step b rfl (λ_ _=>stepG_seq) ?_;refine Cv.step b rfl (λ_ _=>stepG_cond (t:=true) rfl) ?_;simp only[Sj,Sp,Ss,↓reduceIte];refine Cv.step b rfl (λ_ _=>stepG_seq) ?_;refine Cv.step b rfl (λ_ _=>stepG_seq) ?_;refine Cv.step b rfl (λ_ _=>stepG_region) ?_;simp only[Su,R4,Sl,Nat.reduceAdd,Se,List.range,List.range.loop];refine Cv.step b rfl (λw _=>js (.int .i64 (-1)) rfl rfl (by k_ne) (by go_simp;try decide) (by simp[go_sem, *])) ?_
 walk_nrm
 refine Cv.step b rfl (λw _=>js (.bool true) rfl rfl (by k_ne) (by go_simp;try decide) (by simp[go_sem, *])) ?_
 walk_nrm
 refine Cv.step b rfl (λ_ _=>stepG_region_end) ?_;refine Cv.step b rfl (λ_ _=>stepG_cond (t:=true) rfl) ?_;simp only[Sj,Sp,Ss,↓reduceIte];refine Cv.step b rfl (λ_ _=>stepG_region) ?_;simp only[Su,R4,Sl,Nat.reduceAdd,Se,List.range,List.range.loop];refine Cv.step b rfl (λw _=>js (.pointer (some ⟨Wg,0,none⟩)) rfl rfl (by k_ne) (by go_simp;try decide) (by simp[go_sem, *])) ?_
 walk_nrm
 refine Cv.val b (.pointer (some ⟨Wg,0,none⟩)) rfl rfl (by k_ne) (λw d=>?_) (λw d=>?_) ?_
 ·have o:=run_convert_to_unsafe (P:=P) H.underlying_tWgP H.underlying_tUP H.room_tWg (WgLive.cell0 d.1).choose_spec
  go_simp
 ·have p:=λes=>events_convert_to_unsafe (P:=P) H.underlying_tWgP H.underlying_tUP H.room_tWg (WgLive.cell0 d.1).choose_spec es
  simp[go_sem, *]
 walk_nrm
 refine Cv.stop b (λw d=>stepG_markAt .releaseMerge (by simp) rfl rfl (by k_ne) rfl H.f_relMerge (x_relMerge_n L) (x_relMerge_b L) (x_relMerge_x L) (x_relMerge_f L) (ad:=⟨Wg,0,none⟩) (by simp[Act.eval,stA])) ?_
 walk_nrm
 refine Bad.step b rfl (λ_ _=>stepG_region_end) ?_;refine Bad.step b rfl (λ_ _=>stepG_seq) ?_;refine Bad.step b rfl (λ_ _=>stepG_region) ?_;simp only[Su,R4,Sl,Nat.reduceAdd,Se,List.range,List.range.loop];exact Bad.last b λw d=>stepG_mark0 .disable (by simp) rfl rfl (by k_ne) rfl H.f_disable (x_disable_n L) (x_disable_b L) (x_disable_x L) (x_disable_f L)
end
end Go.Tm
namespace Go.Tm
open Go.Proofs Go.Conc Go.ConcN Go.Conc.Lib Go.ConcR.Gen Go.ConcN.Gen
open Go.ConcR (KK WgAt stA smA rd wr mk DC0)
section
variable {P:Program} {ty:TypeId} {Wg:Nat} {S:aJ} {K M:Nat->Prop}
def A4{g w}(h:Still P ty Wg S K M g w):Run P false ty Wg S K M g w:=by
 obtain⟨m,h⟩:=h;induction m generalizing g w with
 |zero=>exact .stop h
 |succ m d=>
  obtain h|⟨e,h⟩:=h
  ·exact .stop h
  ·refine .jK e λa b=>?_
   have:=h a b;cases c:stepG P false g a with
   |go g' w' es=>rw[c,goes_go]at this;obtain⟨⟨rfl,rfl⟩,f⟩:=this;refine⟨g',w',#[],rfl,Eff.refl _ _,by simp,?_⟩;rw[bY rfl,bY rfl];exact d f
   |_=>rw[c]at this;exact this.elim
end
local instance:Go.ConcR.Payload:=⟨66⟩
def wX{T Wg C v K M w}(a:K C)(b:w.cell? ⟨C,0,none⟩=some v)(c:WgLive 195 Wg w):
 Run Tryz.prog false 195 Wg (SR0 Tryz.prog 195 Wg) K M (G ((baseD 123).at ⟨T,[dcall 124 #[.pointer (some ⟨Wg,0,none⟩)]]⟩ []) [bot Tryz.prog]) w:=by
 refine Run.still rfl (λ_=>stepG_end) ?_;refine Run.still rfl (λ_=>stepG_unwind_enter rfl wW.f_done (nm_done link) rfl) ?_
 walk_nrmf doneFn
 exact A4 (ml (n0:=0) a (QX (k:=1) wW rfl (zt rfl rfl Tryz.func123 rfl) w ⟨c,b⟩) (QT a))
end Go.Tm
namespace Go.Tm
open Go.Proofs Go.Conc Go.ConcN Go.Conc.Lib Go.ConcR.Gen Go.ConcN.Gen
open Go.ConcR (KK WgAt stA smA rd wr mk DC0)
def sY{P mn}{b:Frame}{a k cs w ops i rest o f fn args e}(j:ops[i]? =some o)(l:Region.wanted o (yielded ops a.tmps)=true)(m:b.kind≠ .early)
 (d:o.op=.call {callee:=.value (.func f),args,argTypes:=e}) (g:P.funcs[f]? =some fn) (c:(fn.name== "runtime.NumGoroutine")=false) (h:fn.body.isNone=false):
 stepG P mn (G (b.at a (.inRegion ops (i::rest)::k)) cs) w=.go (G (Frame.enter P f (args.map a.eval) .normal) (b.at a (.inRegion ops (i::rest)::k)::cs)) w #[]:=by
 rw[stepG_enter j l m (run_call_body d g c h)];unfold listed;rw[events_call_body d g c h,seen_none]
def sZ{b:Frame}{a k cs ops i rest}(v):Conc.served (G (b.at a (.inRegion ops (i::rest)::k)) cs) v=G (b.at (a.put ((ops[i]?).bind (·.dst)) v) (.inRegion ops rest::k)) cs:=by show G (Frame.finish _ v) cs=_;rw[<-Frame.finish_at];rfl
def A5:(Tryz.prog.info? 66).map (·.size)=some 3:=by kernel_rfl
def QY:(Tryz.f125.name== "runtime.NumGoroutine")=false:=by kernel_rfl
def QZ:Tryz.f125.body.isNone=false:=by kernel_rfl
def Q0:(Tryz.f123.name== "runtime.NumGoroutine")=false:=by kernel_rfl
noncomputable def Hm:Code:=Tryz.f123.body.getD .skip
section
variable {Wg ch sb ib fb:Nat} {K:Nat->Prop} {z:Value} {ok:Bool} {hc sc:Array Value} {i:Int}
def DO(E:K sb)(F:K ib)(f:K fb){w}(U:WgLive 195 Wg w)(hsb:w.heap[sb]? =some (.cells sc 125 (0,0)))(H:w.heap[ib]? =some (.cells #[.int .i64 i] 3 (0,0)))(hfb:w.heap[fb]? =some (.cells #[.chan (some ch)] 185 (0,0)))
 (j:hc.size=3) (p:hc.all (·.oneCell')=true) (P:∀b,K b->b≠Wg)
 (I:(Tryz.prog.info? 125).map (·.size)=some sc.size)
 (q:∀(Q) (C),(∀D J w',(∀b,K b->D b/\¬J b/\w'.heap[b]? =w.heap[b]?)->(∀b,D b->b<w'.heap.size)->WgLive 195 Wg w'->Run Tryz.prog false 195 Wg Q D J (G (C.finish (.tuple #[.agg hc,.bool ok])) [bot Tryz.prog]) w')->Run Tryz.prog false 195 Wg Q K (λ_=>False) (G (Frame.enter Tryz.prog 125 #[.agg sc,.int .i64 i] .normal) [C,bot Tryz.prog]) w):
 Run Tryz.prog false 195 Wg (SWk Tryz.prog 195 Wg ch z (if ok then some (.agg hc)else none)) K (λ_=>False)
  (born Tryz.prog {target:=.fn (.func 123) #[.pointer (some ⟨Wg,0,none⟩),.pointer (some ⟨sb,0,none⟩),.pointer (some ⟨ib,0,none⟩),.pointer (some ⟨fb,0,none⟩)],args:=#[]}) w:=by
 refine Run.still rfl (λ_=>zq (c:=Hm) Tryz.func123 Q0 rfl) ?_
 walk_nrmf Tryz.f123
 simp only[Hm,Tryz.f123,TZ];refine Run.still rfl (λ_=>stepG_seq) ?_;refine Run.still rfl (λ_=>stepG_region) ?_;simp only[Su,R4,Sl,Nat.reduceAdd,Se,List.range,List.range.loop];refine Run.still rfl (λ_=>stepG_defer rfl rfl (by k_ne) rfl) ?_
 walk_nrm
 refine Run.still rfl (λ_=>stepG_region_end) ?_;refine Run.still rfl (λ_=>stepG_seq) ?_;refine Run.still rfl (λ_=>stepG_region) ?_;simp only[Su,R4,Sl,Nat.reduceAdd,Se,List.range,List.range.loop];refine Run.rE rfl rfl (by k_ne) rfl rfl Tryz.underlying125 rfl E hsb I ?_
 walk_nrm
 refine Run.DN (A:=⟨ib,0,none⟩) (v:=.int .i64 i) rfl rfl (by k_ne) rfl rfl rfl Tryz.underlying3 rfl F (by simp[World.cell?,H]) ?_
 walk_nrm
 refine Run.still rfl (λ_=>sY rfl rfl (by k_ne) rfl Tryz.func125 QY QZ) ?_
 walk_nrm
 refine q _ _ λD J w' r O s=>?_;rw[Frame.finish_at]
 walk_nrm
 refine Run.pure (.tuple #[.agg hc,.bool ok]) rfl rfl (by k_ne) (λ_=>rfl) (λ_=>rfl) ?_
 walk_nrm
 refine Run.pure (.agg hc) rfl rfl (by k_ne) (λ_=>rfl) (λ_=>rfl) ?_
 walk_nrm
 refine Run.pure (.bool ok) rfl rfl (by k_ne) (λ_=>rfl) (λ_=>rfl) ?_
 walk_nrm
 refine Run.fresh (ob:=.cells #[.int .i64 0,.int .i64 0,.int .i64 0] 66 (0,0)) (λm=>.pointer (some ⟨m,0,none⟩)) rfl rfl (by k_ne) (λa=>by go_simp) (λa=>by simp[go_sem, *]) (λm w2 V u x R n=>?_) O;have L:=n s;have M:m≠Wg:=λe=>by obtain⟨st,sm,h⟩:=s;have:=(R7.1 (show w'.heap[Wg]? =some _ from h)).1;omega
 walk_nrm
 refine Run.store (cells:=hc) rfl rfl (by k_ne) rfl rfl rfl x (by rw[j];exact A5) (by rw[j];rfl) p (.inr rfl) (.inr rfl) M (λw3 o d S k=>?_);have y:=k L
 walk_nrm
 refine Run.pure (.bool ok) rfl rfl (by k_ne) (λ_=>rfl) (λ_=>rfl) ?_
 walk_nrm
 refine Run.still rfl (λ_=>stepG_region_end) ?_;refine Run.still rfl (λ_=>stepG_seq) ?_;refine Run.still rfl (λ_=>stepG_region) ?_;simp only[Su,R4,Sl,Nat.reduceAdd,Se,List.range,List.range.loop];refine Run.pure (.bool ok) rfl rfl (by k_ne) (λ_=>rfl) (λ_=>rfl) ?_
 walk_nrm
 refine Run.still rfl (λ_=>stepG_region_end) ?_;refine Run.still rfl (λ_=>stepG_cond (t:=ok) rfl) ?_;have g:∀a:World,a.heap[m]? =some (.cells hc 66 (0,0))->a.cell? ⟨m,0,none⟩=some (hc[0]?.getD undef):=λa h=>by simp[World.cell?,h,j]
 have B:w3.heap[fb]? =some (.cells #[.chan (some ch)] 185 (0,0)):=by have e1:=(r fb f).2.2;have T:=u fb (r fb f).1;have e3:=o fb (.inl (r fb f).1) (λe=>by have:=O fb (r fb f).1;omega);rw[e3,T,e1,hfb]
 cases ok with
 |false=>simp only[Sp,Ss,↓reduceIte];refine Run.still rfl (λ_=>stepG_skip) ?_;exact wX (.inr rfl) (g w3 d) y
 |true=>
  simp only[Sj,↓reduceIte];refine Run.still rfl (λ_=>stepG_region) ?_;simp only[Su,R4,Sl,Nat.reduceAdd,Se,List.range,List.range.loop];refine Run.DN (A:=⟨fb,0,none⟩) (v:=.chan (some ch)) rfl rfl (by k_ne) rfl rfl rfl Tryz.underlying185 rfl (.inl (r fb f).1) (by simp[World.cell?,B]) ?_
  walk_nrm
  refine Run.rE rfl rfl (by k_ne) rfl rfl Tryz.underlying66 rfl (.inr rfl) d (by rw[j];exact A5) ?_
  walk_nrm
  refine .stop λa l=>⟨rfl,⟨_,?_,stepG_comm rfl rfl (by k_ne) rfl⟩,?_⟩
  ·exact seen_none _ _
  ·have N:=(l.keep m (.inr rfl)).trans d
   rw[sZ]
   walk_nrm
   refine Run.still rfl (λ_=>stepG_region_end) ?_;exact wX (.inr rfl) (g a N) (l.live y)
end
noncomputable def mZ:Code:=match Tryz.f74.body with|some (.seq _ (.seq _ (.seq _ (.seq (.seq _ (.block _ (.loop c))) _))))=>c|_=>.skip
noncomputable def jE:Code:=match Tryz.f74.body with|some (.seq _ (.seq _ (.seq _ (.seq _ c))))=>c|_=>.skip
@[go_sem] theorem RQ(P)(fn)(first cap)(w):(Instr.makeFunc fn first cap).run P w=.ok (.func fn first cap) w:=by simp[Instr.makeFunc,go_sem]
@[go_sem] theorem PQ(P)(fn)(first cap)(w)(es):(Instr.makeFunc fn first cap).events P w es=es:=by simp[Instr.makeFunc,go_sem]
def Ho{P mn}{b:Frame}{a k cs w ops i rest o f c x}(l:ops[i]? =some o)(m:Region.wanted o (yielded ops a.tmps)=true)(p:b.kind≠ .early)
 (g:o.op=.go {callee:=.value x,args:=#[],argTypes:=#[]}) (h:a.eval x=.func (.func f) #[] c):
 stepG P mn (G (b.at a (.inRegion ops (i::rest)::k)) cs) w=.spawn (G (b.at (a.put o.dst undef) (.inRegion ops rest::k)) cs) (born P {target:=.fn (.func f) c,args:=#[]}) w #[]:=by
 have e:(execOp a.eval o).run P w=.ok (.spawn {target:=.fn (.func f) c,args:=#[]}) w:=by generalize a.eval=ρ at h;unfold execOp;simp[g,h,resolve,Deferred.ofValue,go_sem]
 have j:(execOp a.eval o).events P w #[]=#[]:=by clear e;generalize a.eval=ρ at h;unfold execOp;simp[g,h,resolve,Deferred.ofValue,go_sem]
 rw[stepG_spawn (d:={target:=.fn (.func f) c,args:=#[]}) (w':=w) (f:=.func f) (c:=c) l m p e rfl];simp[listed,j,seen]
def Q1:(Tryz.prog.info? 3).map (·.size)=some 1:=by kernel_rfl
section
variable {Wg ch sb fb n:Nat} {z:Value} {An:aJ} {HV:Nat->Option Value} {Fin:List Value->aJ} {CS:List Frame} {sc:Array Value} {Kold:Nat->Prop} {W₁:World}
structure Stood(Wg ch sb fb:Nat)(sc:Array Value)(Kold:Nat->Prop)(W₁:World)(K:Nat->Prop)(w:World):Prop where
 sb_:w.heap[sb]? =some (.cells sc 125 (0,0))
 fb_:w.heap[fb]? =some (.cells #[.chan (some ch)] 185 (0,0))
 old:∀b,Kold b->w.heap[b]? =W₁.heap[b]?
abbrev ptr(b:Nat):Value:=.pointer (some ⟨b,0,none⟩)
def Stood.fx{K:Nat->Prop}(f:K sb)(g:K fb)(i:∀b,Kold b->K b)(d:∀b,K b->b≠Wg):mY 195 Wg K (Stood Wg ch sb fb sc Kold W₁ K):=⟨λw j r h=>⟨(r.keep sb f).trans h.sb_,(r.keep fb g).trans h.fb_,λb c=>(r.keep b (i b c)).trans (h.old b c)⟩,λw a v e h=>⟨by rw[dL w a v sb (by rw[e];exact d sb f)];exact h.sb_,by rw[dL w a v fb (by rw[e];exact d fb g)];exact h.fb_,λb c=>by rw[dL w a v b (by rw[e];exact d b (i b c))];exact h.old b c⟩⟩
def Stood.mono{K d}{w w':World}(h:Stood Wg ch sb fb sc Kold W₁ K w)(e:K sb)(f:K fb)(g:∀b,Kold b->K b)(a:∀b,K b->w'.heap[b]? =w.heap[b]?):Stood Wg ch sb fb sc Kold W₁ d w':=⟨(a sb e).trans h.sb_,(a fb f).trans h.fb_,λb c=>(a b (g b c)).trans (h.old b c)⟩
def Jg{ty Wg K}(n):mY ty Wg K (λw=>n<=w.heap.size):=⟨λ_ _ r h=>R3 h r.size,λw a v _ h=>by rw[fC];exact h⟩
def NZ{K M c r Nx a d w}(fx:mY 195 Wg K c)
 (b:∀(Fin),(∀w,WgLive 195 Wg w->Goes Tryz.prog true (RL 195 Wg) DC0 Fin 0 d w)->Goes Tryz.prog true (RL 195 Wg) DC0 (XKd Tryz.prog true 195 Wg Fin) 20 a w)
 (h:∀w,WgLive 195 Wg w->c w->Run Tryz.prog true 195 Wg (SGo Tryz.prog 195 Wg ch z HV n r Nx) K M d w) (e:c w):Run Tryz.prog true 195 Wg (SKd Tryz.prog 195 Wg ch z HV n r Nx) K M a w:=by
 refine dE fx ⟨_,b (λg w=>g=d/\WgLive 195 Wg w) λw i=>λf j=>⟨rfl,j i⟩⟩ e (RP fx ?_);rintro g w ⟨rfl,k⟩ e;exact h w k e
noncomputable def rF(sb fb Wg n:Nat)(i:Int)(h j k l a b c d e f g:Value):Array Value:=#[h,ptr sb,.slice none 0 0,ptr fb,ptr Wg,j,undef,undef,k,l,a,b,.int .i64 n,.int .i64 i,c,d,e,f,g,undef,undef,undef,undef,undef,undef,undef,undef,undef,undef,undef,undef,undef]
def Ge(nb)(hn:n<2147483647)
 (A:∀i,i<n->∀(Y) (K) (w),K sb->K fb->K Y->(∀b,Kold b->K b)->(∀b,K b->b<w.heap.size)->(∀b,K b->b≠Wg)->WgLive 195 Wg w->Stood Wg ch sb fb sc Kold W₁ K w->w.heap[Y]? =some (.cells #[.int .i64 i] 3 (0,0))->Run Tryz.prog false 195 Wg (SWk Tryz.prog 195 Wg ch z (HV i)) K (λ_=>False) (born Tryz.prog {target:=.fn (.func 123) #[ptr Wg,ptr sb,ptr Y,ptr fb],args:=#[]}) w)
 (I:∀(K) (w) (J L M N d f g j k l o),K sb->K fb->(∀b,Kold b->K b)->(∀b,K b->b<w.heap.size)->(∀b,K b->b≠Wg)->WgLive 195 Wg w->Stood Wg ch sb fb sc Kold W₁ K w->nb<=w.heap.size->Run Tryz.prog true 195 Wg (I8 Tryz.prog 195 Wg ch z An HV Fin n) K (λ_=>False) (G ((base 74).at ⟨rF sb fb Wg n n J L M N d f g j k l o,[]⟩ [.code jE]) CS) w):
 ∀(r),r<=n->∀(K) (w) (J L M N d f g j k l o),K sb->K fb->(∀b,Kold b->K b)->(∀b,K b->b<w.heap.size)->(∀b,K b->b≠Wg)->WgLive 195 Wg w->Stood Wg ch sb fb sc Kold W₁ K w->nb<=w.heap.size->Run Tryz.prog true 195 Wg (SSp Tryz.prog 195 Wg ch z An HV Fin n r) K (λ_=>False) (G ((base 74).at ⟨rF sb fb Wg n ((n-r:Nat):Int) J L M N d f g j k l o,[]⟩ [.code mZ,.inLoop mZ,.inBlock 0,.code jE]) CS) w:=by
 intro r;induction r with
 |zero=>
  intro hr K w J L M N d f g j k l o s u v O Z X hs P;simp only[mZ,Tryz.f74,rF];refine Run.still rfl (λ_=>stepG_seq) ?_;refine Run.still rfl (λ_=>stepG_region) ?_;simp only[Su,R4,Sl,Se,List.range,List.range.loop];refine Run.pure (.bool false) rfl rfl (by k_ne) (λ_=>by go_simp) (λ_=>by simp[go_sem]) ?_
  walk_nrm
  refine Run.still rfl (λ_=>stepG_region_end) ?_;refine Run.still rfl (λ_=>stepG_seq) ?_;refine Run.still rfl (λ_=>stepG_cond (t:=false) rfl) ?_;simp only[Sp,Ss,↓reduceIte];refine Run.still rfl (λ_=>stepG_exit rfl) ?_;exact I K w _ _ _ _ _ _ _ _ _ _ _ s u v O Z X hs P
 |succ r ih=>
  intro hr K w J L M N d f g j k l o s u v O Z X hs P;have ax:((n-(r+1):Nat):Int)<(n:Int):=by omega
  have aa:=ih (by omega);have ab:((n-(r+1):Nat):Int)+1=((n-r:Nat):Int):=by omega
  have ay:(0:Int)<=((n-(r+1):Nat):Int):=by omega
  have ad:n-(r+1)<n:=by omega
  have af:=A _ ad;generalize hi:n-(r+1)=ix at*;simp only[mZ,Tryz.f74,rF];refine Run.still rfl (λ_=>stepG_seq) ?_;refine Run.still rfl (λ_=>stepG_region) ?_;simp only[Su,R4,Sl,Se,List.range,List.range.loop];refine Run.pure (.bool true) rfl rfl (by k_ne) (λ_=>by go_simp) (λ_=>by simp[go_sem]) ?_
  walk_nrm
  refine Run.still rfl (λ_=>stepG_region_end) ?_;refine Run.still rfl (λ_=>stepG_seq) ?_;refine Run.still rfl (λ_=>stepG_cond (t:=true) rfl) ?_;simp only[Sj,↓reduceIte];refine Run.still rfl (λ_=>stepG_skip) ?_;refine Run.still rfl (λ_=>stepG_seq) ?_;refine Run.still rfl (λ_=>stepG_block) ?_;refine Run.still rfl (λ_=>stepG_seq) ?_;refine Run.still rfl (λ_=>stepG_region) ?_;simp only[Su,R4,Sl,Nat.reduceAdd,Se,List.range,List.range.loop];refine Run.pure (.int .i64 ix) rfl rfl (by k_ne) (λ_=>rfl) (λ_=>rfl) ?_
  walk_nrm
  refine Run.fresh (ob:=.cells #[.int .i64 0] 3 (0,0)) (λm=>.pointer (some ⟨m,0,none⟩)) rfl rfl (by k_ne) (λQ=>by go_simp) (λQ=>by simp[go_sem, *]) (λm w2 hm R S aM B=>?_) O;have ag:=B X;have C:m≠Wg:=λe=>by obtain⟨st,sm,h⟩:=X;have:=(R7.1 (show w.heap[Wg]? =some _ from h)).1;omega
  have ak:∀b,K b->b≠m:=λb a e=>by have:=O b a;omega
  walk_nrm
  refine Run.store (cells:=#[.int .i64 ix]) rfl rfl (by k_ne) rfl rfl rfl S Q1 rfl (by simp[Value.oneCell']) (.inr rfl) (.inr rfl) C (λw3 D E a1 q=>?_);have an:=q ag;have ao:∀b,K b->w3.heap[b]? =w.heap[b]? :=λb a=>(D b (.inl a) (ak b a)).trans (R b a)
  walk_nrm
  refine Run.still rfl (λ_=>stepG_region_end) ?_;refine Run.still rfl (λ_=>stepG_seq) ?_;refine Run.still rfl (λ_=>stepG_region) ?_;simp only[Su,R4,Sl,Nat.reduceAdd,Se,List.range,List.range.loop];let p:Nat->Prop:=λb=>K b\/b=m;have T:∀b,p b->b<w3.heap.size:=λb a=>a.elim (λx=>by have:=O b x;omega) λx=>by omega
  have F:∀b,p b->b≠Wg:=λb a=>a.elim (Z b) λx=>by rw[x];exact C
  have U:Stood Wg ch sb fb sc Kold W₁ p w3:=hs.mono s u v ao;have fx:mY 195 Wg p (λw=>Stood Wg ch sb fb sc Kold W₁ p w/\w.heap[m]? =some (.cells #[.int .i64 ix] 3 (0,0))/\w3.heap.size<=w.heap.size):=(Stood.fx (.inl s) (.inl u) (λb a=>.inl (v b a)) F).and ((wT (.inr rfl) C).and (Jg _))
  refine Run.still rfl (λ_=>A3 (goes_call (c:=body_add link) rfl rfl (by k_ne) rfl wW.f_add (nm_add link) rfl ⟨rfl,rfl,rfl⟩)) ?_
  walk_nrmf addFn
  refine NZ fx (λFin hT=>RD wW hT w3 an) ?_ ⟨U,E,R2 _⟩;rintro w4 V ⟨W,ar,a6⟩
  walk_nrm
  refine Run.still rfl (λ_=>stepG_region_end) ?_;refine Run.still rfl (λ_=>stepG_region) ?_;simp only[Su,R4,Sl,Nat.reduceAdd,Se,List.range,List.range.loop];refine Run.pure (.func (.func 123) #[] #[ptr Wg,ptr sb,ptr m,ptr fb]) rfl rfl (by k_ne) (λ_=>by go_simp) (λ_=>by simp[go_sem]) ?_
  walk_nrm
  refine .stop λw5 y=>⟨rfl,_,_,p,Ho rfl rfl (by k_ne) rfl rfl,rfl,rfl,λ_ x=>x,?_,?_⟩
  ·have H:Stood Wg ch sb fb sc Kold W₁ p w5:=W.mono (.inl s) (.inl u) (λb a=>.inl (v b a)) λb a=>y.keep b a
   rw[hi];exact af m p w5 (.inl s) (.inl u) (.inr rfl) (λb a=>.inl (v b a)) (λb a=>by have:=T b a;have:=y.size;omega) F (y.live V) H ((y.keep m (.inr rfl)).trans ar)
  ·walk_nrm
   refine Run.still rfl (λ_=>stepG_region_end) ?_;refine Run.still rfl (λ_=>stepG_inBlock) ?_;refine Run.still rfl (λ_=>stepG_region) ?_;simp only[Su,R4,Sl,Nat.reduceAdd,Se,List.range,List.range.loop];refine Run.pure (.int .i64 ((n-r:Nat):Int)) rfl rfl (by k_ne) (λ_=>by go_simp;exact IntWalk.i64_in _ (by omega)) (λ_=>by simp[go_sem]) ?_
   walk_nrm
   refine Run.pure (.int .i64 ((n-r:Nat):Int)) rfl rfl (by k_ne) (λ_=>rfl) (λ_=>rfl) ?_
   walk_nrm
   refine Run.still rfl (λ_=>stepG_region_end) ?_;refine Run.still rfl (λ_=>stepG_inLoop) ?_;have H:Stood Wg ch sb fb sc Kold W₁ p w5:=W.mono (.inl s) (.inl u) (λb a=>.inl (v b a)) λb a=>y.keep b a;exact aa p w5 _ _ _ _ _ _ _ _ _ _ _ (.inl s) (.inl u) (λb a=>.inl (v b a)) (λb a=>by have:=T b a;have:=y.size;omega) F (y.live V) H (by have:=y.size;omega)
end
def Q2:(Tryz.f126.name== "runtime.NumGoroutine")=false:=by kernel_rfl
noncomputable def Hp:Code:=Tryz.f126.body.getD .skip
section
variable {Wg ch fb:Nat} {K M:Nat->Prop}
def DT(o:K fb)(n:fb≠Wg):
 ∃An,(∀k l g w,An k l g w->Run Tryz.prog false 195 Wg (SW1 Tryz.prog 195 Wg ch An) k l g w)/\∀w,WgLive 195 Wg w->w.heap[fb]? =some (.cells #[.chan (some ch)] 185 (0,0))->Run Tryz.prog false 195 Wg (SWd Tryz.prog 195 Wg ch An) K M (born Tryz.prog {target:=.fn (.func 126) #[.pointer (some ⟨Wg,0,none⟩),.pointer (some ⟨fb,0,none⟩)],args:=#[]}) w:=by
 have fx:mY 195 Wg K (λw=>w.heap[fb]? =some (.cells #[.chan (some ch)] 185 (0,0))):=wT o n;let b:Frame:=baseD 126;let d:Array Value:=#[.pointer (some ⟨Wg,0,none⟩),.pointer (some ⟨fb,0,none⟩),undef,undef]
 let a:Array Oper:=match Tryz.f126.body with|some (.seq (.region _ ops _) _)=>ops|_=>#[]
 let e:Array Oper:=match Tryz.f126.body with|some (.seq _ (.region _ ops _))=>ops|_=>#[]
 let f:List Item:=[.code (.region 1 e false)]
 let p:Goroutine->World->Prop:=λg w=>g=G (b.at (Act.put ⟨d,[]⟩ ((a[0]?).bind (·.dst)) (.tuple #[])) (.inRegion a []::f)) [bot Tryz.prog];have q:∀g w,p g w->w.heap[fb]? =some (.cells #[.chan (some ch)] 185 (0,0))->Run Tryz.prog false 195 Wg (SCl Tryz.prog ch) K M g w:=by
  rintro g w rfl u;refine Run.still rfl (λ_=>stepG_region_end) ?_;refine Run.still rfl (λ_=>stepG_region) ?_;simp only[e,b,d,a,Tryz.f126,Su,R4,Sl,Nat.reduceAdd,Se,List.range,List.range.loop]
  walk_nrm
  refine Run.DN (A:=⟨fb,0,none⟩) (v:=.chan (some ch)) rfl rfl (by k_ne) rfl rfl rfl Tryz.underlying185 rfl o (by simp[World.cell?,u]) ?_
  walk_nrm
  refine .stop λi t=>⟨rfl,rfl,λs r z x=>⟨_,stepG_close rfl rfl (by k_ne) rfl rfl x (by simp[baseD,Frame.at,Tryz.func126,Tryz.f126]),4,?_⟩⟩
  walk_nrm
  refine QuitsD.ctl rfl (λ_=>stepG_region_end) ?_;refine QuitsD.ctl rfl (λ_=>stepG_end) ?_;exact zt rfl rfl Tryz.func126 rfl
 have j:∀g w,XAn link Wg (b.at ⟨d,[]⟩ (.inRegion a (0::[])::f)) [bot Tryz.prog] g w->∃m,Goes Tryz.prog false (RL 195 Wg) DC0 (XW1 Tryz.prog false 195 Wg p (XAn link Wg (b.at ⟨d,[]⟩ (.inRegion a (0::[])::f)) [bot Tryz.prog])) m g w:=λg w h=>QM (mT:=0) wW (λw _=>λi _=>rfl) g w h
 refine⟨AnF K M _ _,λk l g w=>LM fx q j k l g w,λw y hfb=>?_⟩;refine Run.still rfl (λ_=>zq (c:=Hp) Tryz.func126 Q2 rfl) ?_
 walk_nrmf Tryz.f126
 simp only[Hp,Tryz.f126,TZ];refine Run.still rfl (λ_=>stepG_seq) ?_;refine Run.still rfl (λ_=>stepG_region) ?_;simp only[Su,R4,Sl,Nat.reduceAdd,Se,List.range,List.range.loop];refine Run.still rfl (λ_=>A3 (goes_call (c:=body_wait link) rfl rfl (by k_ne) rfl wW.f_wait (nm_wait link) rfl ⟨rfl,rfl,rfl⟩)) ?_
 walk_nrmf waitFn
 exact dE fx ⟨_,FZ wW w y⟩ hfb (RJ fx q j)
end
end Go.Tm

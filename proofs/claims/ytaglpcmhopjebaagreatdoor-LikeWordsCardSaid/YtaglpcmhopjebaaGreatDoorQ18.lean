import Derived.WalkKit
import Derived.WalkSpells
import Derived.WalkLawsBesides
import Derived.RangeFuncNested
import Derived.RangeFuncBound
import Derived.RangeFuncCalls
import Derived.Test.YtaglpcmhopjebaaGreatDoorQ17
set_option linter.all false
set_option maxRecDepth 100000
set_option maxHeartbeats 20000000
namespace Go.Tm
open Go.Proofs Go.Conc Go.ConcN
def Ren.add{G:Nat}(π:Ren G)(r R:Nat)(d:∀X,¬π r X)(e:∀x,¬π x R)(f:r<G↔R<G):Ren G where
 rel a b:=π a b\/(a=r/\b=R)
 fn a b c hb hc:=by
  obtain hb|⟨rfl,rfl⟩:=hb
  ·obtain hc|⟨rfl,rfl⟩:=hc
   ·exact π.fn a b c hb hc
   ·exact absurd hb (d b)
  ·obtain hc|⟨_,rfl⟩:=hc
   ·exact absurd hc (d c)
   ·rfl
 inj a b c ha hb:=by
  obtain ha|⟨rfl,rfl⟩:=ha
  ·obtain hb|⟨rfl,rfl⟩:=hb
   ·exact π.inj a b c ha hb
   ·exact absurd ha (e a)
  ·obtain hb|⟨rfl,_⟩:=hb
   ·exact absurd hb (e b)
   ·rfl
 dq a b h:=by
  obtain h|⟨rfl,rfl⟩:=h
  ·exact π.dq a b h
  ·exact f
def Ren.L1{G π r R}{a:∀X,¬π r X}{b:∀x,¬π x R}{c:r<G↔R<G}:Ren.le π (π.add r R a b c):=λ_ _ h=>.inl h
section
variable {S:Kn} {P:Program} {G:Nat}
def bj.keep{Pr}{π:Ren G}{w W w' W':World}(h:bj S Pr π w W)(k1:∀b,b<w.heap.size->w'.heap[b]? =w.heap[b]?)(j:∀b,b<W.heap.size->W'.heap[b]? =W.heap[b]?)(k:w.heap.size<=w'.heap.size)(g:W.heap.size<=W'.heap.size):
 bj S Pr π w' W':=
 ⟨λr R a=>by rw[k1 r (h.lt a).1,j R (h.lt a).2];exact h.obj r R a,λr R a d=>by rw[k1 r (h.lt a).1];exact h.uh r R a d,λR d=>R6 (h.uR R d) g,R3 h.gw k,R3 h.gW g,by obtain⟨c,e,f,i⟩:=h.w0;exact⟨c,e,f,(k1 0 (R7.1 i).1).trans i⟩⟩
def bj.add{Pr π w W}(h:bj S Pr π w W){r R}{e:∀X,¬π r X}{f:∀x,¬π x R}{g:r<G↔R<G}{o O}(e1:w.heap[r]? =some o)(j:W.heap[R]? =some O)(k:fA S (π.add r R e f g) o O)(d:¬Pr R):
 bj S Pr (π.add r R e f g) w W:=by
 refine⟨λa b c=>?_,λa b c i=>?_,h.uR,h.gw,h.gW,h.w0⟩
 ·obtain c|⟨rfl,rfl⟩:=c
  ·obtain⟨o',l,a1,m,n⟩:=h.obj a b c
   exact⟨o',l,a1,m,n.mono Ren.L1⟩
  ·exact⟨o,O,e1,j,k⟩
 ·obtain c|⟨rfl,rfl⟩:=c
  ·exact h.uh a b c i
  ·exact absurd i d
end
def Gl{G}(π:Ren G)(L)(f:∀v∈L,∃a b c,v=eR a b c)(k):VsR π (bq L++cu jW k).toArray (bq L++cu jW k).toArray:=by
 refine aV.refl λx hx=>?_;have hx:x∈bq L++cu jW k:=by simpa using hx
 obtain hx|hx:=TS.1 hx
 ·obtain⟨v,g,d⟩:=Vo.1 hx
  obtain⟨a,b,c,rfl⟩:=f v g;simp[eR,Value.cells]at d;rcases d with rfl|rfl|rfl<;>exact .int _ _
 ·obtain⟨l,h,e⟩:=VB.1 hx
  have:=VC h;subst this;simp[jW]at e;subst e;exact .int _ _
section
variable {S:Kn} {fs:Array Func} {Post PostR:Value->World->Prop} {dJ:World->Value->List Value->Prop} {c₀:Gh}
def D9(S:Kn)(fs:Array Func)(dJ:World->Value->List Value->Prop)(c₀:Gh):Prop:=∀(c:Gh) (k:Nat) (v:Value) (π:Ren Tryz.prog.globals.size),Nxs S (ah Tryz.prog fs) c₀ c k->c.fr=Frame.enter (ah Tryz.prog fs) 74 #[v] .normal->(∀x∈c.cs,Marks π x)->Dp π c.w->(∀x∈c.cs,x.mode=.run\/x.mode=.returning)->∃L,dJ c.w v L
def m6(S:Kn)(fs:Array Func)(Post:Value->World->Prop)(dJ:World->Value->List Value->Prop):Prop:=∀(c:Gh) (v:Value) (C:Frame) (cs:List Frame) (L:List Value) (cap:Nat),c.fr=Frame.enter (ah Tryz.prog fs) 74 #[v] .normal->c.cs=C::cs->Gd S (ah Tryz.prog fs) Post c->dJ c.w v L->(L≠[]->L.length<=cap/\cap<=maxLen)->∃V w' k,0<k/\Nxs S (ah Tryz.prog fs) c ⟨C.finish V,cs,w'⟩ k/\c.w.heap.size<=w'.heap.size/\(∀b,b<c.w.heap.size->w'.heap[b]? =c.w.heap[b]?)/\((L=[]/\V=.slice none 0 0)\/∃r,L≠[]/\c.w.heap.size<=r/\V=.slice (some ⟨r,0,none⟩) L.length cap/\w'.heap[r]? =some (.cells (bq L++cu jW (cap-L.length)).toArray 66 (0,0)))
def ti(S:Kn)(dJ:World->Value->List Value->Prop):Prop:=∀(Pr:Nat->Prop) (π:Ren Tryz.prog.globals.size) (w W:World) (v A:Value) (L:List Value),av π v A->bj S Pr π w W->dJ w v L->(∀g,S.dq g=true->π g g)->∃sc n H d Kold f h,A=.agg sc/\sc[9]? =some (.slice f n h)/\(Tryz.prog.info? 125).map (·.size)=some sc.size/\n<2147483647/\(∀b,Kold b->∃r,π r b)/\xb W Kold sc n H/\th W Kold sc n H d/\(∀e,Jn n H e->d e=L)/\∀x∈L,∃a b c,x=eR a b c
def join(ht:Tab S Tryz.prog fs)(ad:∀g,S.calm g)(bs:∀f,S.ent f=true->Tryz.prog.inits.idxOf? f=none)(bx:0<Tryz.prog.globals.size)
 {Pr} {s} {Z} (af:∀v V w' W' (ag),Post v w'->av ag v V->bj S Pr ag w' W'->iw Pr s Z ag W'->PostR V W')
 (ay:D9 S fs dJ c₀) (a1:m6 S fs Post dJ) (bA:ti S dJ) {c} (a6:Acc (λc' c=>∃n,0<n/\Nxs S (ah Tryz.prog fs) c c' n) c):
 ∀(k) (π) (F) (CS) (W) (gs) (sl) (t) (Shun) (ShB:Nat->Prop),Nxs S (ah Tryz.prog fs) c₀ c k->(∀l,Shun l->∃b,blk l=some b/\ShB b)->iw Pr s Z π W->Cp S Tryz.prog fs Pr Post π c F CS W->Bes Tryz.prog Shun gs W t ⟨F,CS,.running,none,none⟩->(∀b,ShB b->b<W.heap.size/\¬∃r,π r b)->cQ Tryz.prog PostR (crowd gs W sl) t:=by
 induction a6 with
 |intro c _ ih=>
  intro k π F CS W gs sl t Shun ShB hN E bB h hb a7;obtain⟨g0,⟨q,hL⟩,hP,hF⟩:=hb;obtain⟨N,I,W1,ak,t1,q1,d,D,FR,bC,k1,r1,r2,r3,r4,r5,r6,r7,r8,r9,an⟩:=DL [] ht ad E h.qi.acc _ π F CS W gs sl t q (R2 _) h (by simpa using g0) hL hP hF a7;have aa:=bB.chg r7;have i:∀b,ShB b->b<W1.heap.size/\¬∃r,d r b:=λb hb=>⟨R6 (a7 b hb).1 r7.size,r6 b hb⟩
  obtain⟨a8,he⟩|⟨f,a,A,hs,⟨b0,ha⟩,e1,e2,b1,J,p,ao,ar,ba⟩:=r8
  ·have ab:=a8.cs
   rw[he.1]at ab;cases ab;exact(Jo ht bs E af _ d D FR W1 I ak t1 q1 (R2 _) aa a8 he (by simpa using r3) r4 r5 r9 i).back r1
  ·have hf:=(ht.stop f hs).1
   have hf:f=74:=hf;subst hf;obtain⟨v,rfl⟩:∃v,a=#[v]:=by
    obtain⟨l⟩:=a
    match l,b0 with
    | [v],_=>exact⟨v,rfl⟩
   obtain⟨V0,rfl⟩:∃V0,A=#[V0]:=by
    have h1:A.size=1:=ha.1.symm;clear ha e2 r3;obtain⟨l⟩:=A
    match l,h1 with
    | [x],_=>exact⟨x,rfl⟩
   have hv:=ha.2 0 v V0 rfl rfl;have M:∀x∈D.cs,x.mode=.run\/x.mode=.returning:=λx u=>by obtain⟨y,hy⟩:=J.left x u;exact hy.calm
   have O:∀x∈D.cs,Marks d x:=λx u=>by obtain⟨y,hy⟩:=J.left x u;exact hy.marks
   obtain⟨L,ax⟩:=ay D (k+k1) v d (hN.trans an) e1 O (p.dp λ_ _ h=>h) M;obtain⟨sc,n,H,cr,Kold,aM,cM,rfl,q1,q2,q3,q4,q5,q6,q7,q8⟩:=bA Pr d D.w W1 v V0 L hv p ax ba;obtain⟨C,cs,Q⟩:∃C cs,D.cs=C::cs:=by
    cases u:D.cs with
    |nil=>exact absurd u b1
    |cons C cs=>exact⟨C,cs,rfl⟩
   rw[Q]at J;obtain⟨C',CS',rfl,b2,bb⟩:∃C' CS',bC=C'::CS'/\bd S d C C'/\bh (bd S d) cs CS':=by
    cases J with
    |cons a b=>exact⟨_,_,rfl,a,b⟩
   have b3:Bes Tryz.prog Shun I W1 t1 (G (Frame.enter Tryz.prog 74 #[.agg sc] .normal) (C'::CS')):=⟨by rw[e2]at r3;simpa[G]using r3,⟨_,r4⟩,r5,r9⟩
   obtain⟨N2,b4,W2,b5,t2,V,Wg,ch,b6,o⟩:=Be (C:=C') (CS:=CS') E q1 q2 q3 (λb hb=>by obtain⟨r,hr⟩:=q4 b hb;exact⟨(p.lt hr).2,λx=>(i b x).2 ⟨r,hr⟩⟩) (λb hb=>(i b hb).1) (R6 bx p.gW) I ak t1 b3 q5 q6
   obtain⟨N0,K,b7,cv,hh,z,b8⟩:=o.res;rw[q7 b7 hh]at z;have bk:∀l,(Shun l\/∃b,blk l=some b/\spB Wg ch b)->∃b,blk l=some b/\(ShB b\/spB Wg ch b):=λl h=>h.elim (λh=>(E l h).imp λb x=>⟨x.1,.inl x.2⟩) λ⟨b,h1,h2⟩=>⟨b,h1,.inr h2⟩
   have B:∀b,(ShB b\/spB Wg ch b)->b<W2.heap.size/\¬∃r,d r b:=λb hb=>by
    obtain hb|hb:=hb
    ·exact⟨R6 (i b hb).1 o.grown,(i b hb).2⟩
    ·refine⟨hb.elim (λe=>e▸o.sp.2.2.1) (λe=>e▸o.sp.2.2.2),λ⟨r,hr⟩=>?_⟩
     have h1:=(p.lt hr).2;have:=o.sp;rcases hb with rfl|rfl<;>omega
   have ca:∀V w',(⟨C.finish V,cs,w'⟩:Gh).Flat:=λV w' b hb=>by refine ao b ?_;rw[Q];simp only[mi]at hb;rw[Vp,VO];exact hb
   have go:∀(V1:Value) (w1:World) (T:Nat) (j:Ren Tryz.prog.globals.size),0<T->Nxs S (ah Tryz.prog fs) D ⟨C.finish V1,cs,w1⟩ T->Ren.le d j->(∀r R,j r R->d r R\/W1.heap.size<=R)->av j V1 V->bj S Pr j w1 W2->(∀b,(ShB b\/spB Wg ch b)->¬∃r,j r b)->cQ Tryz.prog PostR (crowd I W1 ak) t1:=by
    intro V1 w1 T j U m Y cb cc cd cf;have bm:Cp S Tryz.prog fs Pr Post j ⟨C.finish V1,cs,w1⟩ (C'.finish V) CS' W2:=⟨(b2.mono Y).finish cc,bb.mono λ_ _ x=>bd.mono Y x,cd,ca V1 w1,ar.nxs m,λg hg=>Y _ _ (ba g hg)⟩
    exact(ih ⟨C.finish V1,cs,w1⟩ ⟨k1+T,by omega,an.trans m⟩ (k+k1+T) j (C'.finish V) CS' W2 b4 b5 t2 _ _ ((hN.trans an).trans m) bk (aa.still o.os o.output o.grown o.old cb Y) bm o.bes λb hb=>⟨(B b hb).1,cf b hb⟩).back b6
   refine cQ.back ?_ r1;obtain⟨rfl,cg⟩|⟨g,cap,rfl,cw,bo,ck,cl,cm⟩:=z.1.2
   ·have br:=S8 cg
    obtain⟨V1,w1,T,U,m,s1,s2,hV⟩:=a1 D v C cs L 0 e1 Q ar ax (λh=>absurd br h);obtain⟨_,rfl⟩|⟨r,cn,_⟩:=hV
    ·exact go _ w1 T d U m (Ren.le_refl _) (λ_ _ h=>.inl h) (.im 0 0) (p.keep s2 o.old s1 o.grown) λb hb=>(B b hb).2
    ·exact absurd br cn
   ·obtain⟨V1,w1,T,U,m,s1,s2,hV⟩:=a1 D v C cs L cap e1 Q ar ax (λ_=>⟨ck,cl⟩)
    obtain⟨rfl,_⟩|⟨r,_,cx,rfl,hr⟩:=hV
    ·simp at cm
    ·have cp:=(R7.1 bo).1
     have cq:=(R7.1 hr).1;have n1:∀X,¬d r X:=λX hX=>by have:=(p.lt hX).1;omega
     have n2:∀x,¬d x g:=λx u=>by have:=(p.lt u).2;omega
     have n3:r<Tryz.prog.globals.size↔g<Tryz.prog.globals.size:=by have:=p.gw;have:=p.gW;omega
     refine go _ w1 T (d.add r g n1 n2 n3) U m Ren.L1 (λ_ _ h=>h.imp id λh=>by rw[h.2];omega) (.slice _ _ (.mk (.inr ⟨rfl,rfl⟩))) ((p.keep s2 o.old s1 o.grown).add hr bo (.cells 66 (Gl _ L q8 _) (.inl rfl)) (λhp=>by have:=p.uR _ hp;omega)) λb hb ⟨x,u⟩=>?_;obtain u|⟨_,rfl⟩:=u
     ·exact(B b hb).2 ⟨x,u⟩
     ·obtain hb|hb:=hb
      ·have:=(i b hb).1;omega
      ·exact(b8 b (z.2 b rfl)).2 hb
end
end Go.Tm
namespace Go.Proofs
open Go.Tm
noncomputable abbrev Qs(fs:Array Func):Program:=ah Tryz.prog fs
section
variable (P:Program) (fs:Array Func) (t:TypeId) (w:World)
@[go_sem] theorem rY:(ah P fs).info? t=P.info? t:=rfl
@[go_sem] theorem aI:(ah P fs).underlying t=P.underlying t:=rfl
@[go_sem] theorem zV:(isAgg t).run (ah P fs) w=(isAgg t).run P w:=by
 simp only[isAgg,underlying,program,bind,Sem.bind,Sem.run,aI];cases P.underlying t with
 |none=>rfl
 |some d=>cases d<;>rfl
@[go_sem] theorem uT:(Go.sizeOf t).run (ah P fs) w=(Go.sizeOf t).run P w:=by simp only[Go.sizeOf,typeInfo,program,bind,Sem.bind,Sem.run,rY];cases P.info? t<;>rfl
@[go_sem] theorem jb:(zeroValue t).run (ah P fs) w=(zeroValue t).run P w:=by
 simp only[zeroValue,typeInfo,program,bind,Sem.bind,Sem.run,rY];cases P.info? t with
 |none=>rfl
 |some i=>simp only[Sem.bind,pure];cases i.zero<;>rfl
end
def dv(fs)(a:(Qs fs).funcs[63]? =some Tryz.f63)(n b c w):
 Calls (Qs fs) 63 #[.int .i64 n,.int .i64 b,.int .i64 c] w λe w'=>e=.returned (.bool (decide (b<=n)&&decide (n<=c)))/\w'=w:=by
 go_enter a,Tryz.ntmps63;go_wp2;all_goals (go_ret;simp;try omega)
def mG(fs)(a:(Qs fs).funcs[91]? =some Tryz.f91)(c w):
 Calls (Qs fs) 91 #[.int .u8 c] w λe w'=>e=.returned (.bool (decide (97<=c)&&decide (c<=122)))/\w'=w:=by
 go_enter a,Tryz.ntmps91;go_wp2;all_goals (go_ret;simp;try omega)
def nth:List Value->Nat->Value
 | [],_=>undef
 |x::_,0=>x
 |_::l,n+1=>nth l n
def Fv:List Value->Nat->Value->List Value
 | [],_,_=>[]
 |_::l,0,v=>v::l
 |x::l,n+1,v=>x::Fv l n v
def Agr(s:Array Bool):Nat->List Value->List Value->Prop
 |n,x::xs,v::a=>(s.getD n false=true->x=v)/\Agr s (n+1) xs a
 |_,[],[]=>True
 |_,_,_=>False
theorem Agr.got{s}:∀{n} {xs a},Agr s n xs a->∀k,s.getD (n+k) false=true->nth xs k=nth a k
 |_,[],[],_,_,_=>rfl
 |_,_::_,_::_,h,0,d=>h.1 d
 |n,_::_,_::_,h,k+1,d=>Agr.got h.2 k (by rw[T9,UA 1 k];exact d)
def Agr.get{s xs a}(h:Agr s 0 xs a)(k)(d:s.getD k false=true):nth xs k=nth a k:=Agr.got h k (by rw[Se];exact d)
theorem Agr.far{s j}:∀{n} {xs a},Agr s n xs a->j<n->Agr (s.setIfInBounds j true) n xs a
 |_,[],[],_,_=>trivial
 |n,_::_,_::_,h,b=>⟨λd=>h.1 (by rw[Tc]at d⊢;rw[Si (by omega)]at d;exact d),Agr.far h.2 (by omega)⟩
theorem Agr.put{s}(v):∀{n} {xs a},Agr s n xs a->∀k,Agr (s.setIfInBounds (n+k) true) n (Fv xs k v) (Fv a k v)
 |_,[],[],_,_=>trivial
 |n,_::_,_::_,h,0=>⟨λ_=>rfl,Agr.far h.2 (Tl n)⟩
 |n,_::_,_::_,h,k+1=>⟨λd=>h.1 (by
  rw[Tc]at d⊢;rw[Si (by omega)]at d;exact d),by
  have b:=Agr.put v h.2 k;rw[T9,UA 1 k]at b;exact b⟩
def Agr.Fw{s xs a}(h:Agr s 0 xs a)(k v):Agr (s.setIfInBounds k true) 0 (Fv xs k v) (Fv a k v):=by have b:=Agr.put v h k;rw[Se]at b;exact b
theorem CP:∀(a) (k),Fv a k (nth a k)=a
 | [],_=>rfl
 |_::_,0=>rfl
 |x::l,k+1=>SL (x:: ·) (CP l k)
def Agr.set{s xs vs}(h:Agr s 0 xs vs)(k):Agr (s.setIfInBounds k true) 0 (Fv xs k (nth vs k)) vs:=by have a:=h.Fw k (nth vs k);rw[CP]at a;exact a
theorem Agr.start{k}:∀{n xs b},xs.length=b.length->Agr (Array.replicate k false) n xs b
 |_,[],[],_=>trivial
 |_,[],_::_,a=>by cases a
 |_,_::_,[],a=>by cases a
 |n,_::_,_::_,a=>⟨λd=>by rw[Tc,Vi]at d;split at d<;>exact absurd d (by decide),Agr.start (Nat.succ.inj a)⟩
def Agr.dep{s xs b}(h:Agr s 0 xs b){md}{o:Oper}(a:∀e∈o.after,Region.binds md e=true->s.getD e.on false=true)(p:Nat){e}(c:o.after[p]? =some e)(d:Region.binds md e=true):nth xs e.on=nth b e.on:=h.get _ (a _ (Td c) d)
def oP{md}{o:Oper}{s:Array Bool}(a:∀e∈o.after,Region.binds md e=true->s.getD e.on false=true){n}(h:((List.range n).all λk=>o.after.any λe=>e.on==k&&Region.binds md e)=true)(k)(b:k<n):s.getD k false=true:=by obtain⟨e,c,h⟩:=Array.any_eq_true'.1 (SM.1 h k (UZ.2 b));simp only[Sf,S9]at h;rw[<-h.1];exact a e c h.2
end Go.Proofs
namespace Go.Proofs
open Go.Tm Go.RowKit
structure Stp(n B:Nat)(W W':World):Prop where
 os:W'.os=W.os
 tape:W'.tape=W.tape
 output:W'.output=W.output
 size:W.heap.size<=W'.heap.size
 block:∀b,b<n->b≠B->W'.heap[b]? =W.heap[b]?
def Stp.refl(n B W):Stp n B W W:=⟨rfl,rfl,rfl,R2 _,λ_ _ _=>rfl⟩
def Stp.trans{n B W c W2}(h:Stp n B W c)(k:Stp n B c W2):Stp n B W W2:=⟨k.os.trans h.os,k.tape.trans h.tape,k.output.trans h.output,R3 h.size k.size,λb d e=>(k.block b d e).trans (h.block b d e)⟩
def Stp.mono{n m B W W'}(h:Stp n B W W')(d:m<=n):Stp m B W W':=⟨h.os,h.tape,h.output,h.size,λb e c=>h.block b (by omega) c⟩
def Stp.BQ{n B W W'}(h:Below n W W'):Stp n B W W':=⟨h.os,h.tape,h.output,h.size,λb c _=>h.block b c⟩
def Stp.setCell{n B}(W o v):Stp n B W (W.setCell ⟨B,o,none⟩ v):=⟨rfl,rfl,rfl,by show W.heap.size<=(W.heap.modify _ _).size;rw[Array.size_modify];exact R2 _,λb _ h=>Below.heap_setCell W ⟨B,o,none⟩ v b h⟩
def Stp.putObj{n B W l}(o')(c:n<=l):Stp n B W (W.putObj l o'):=⟨rfl,rfl,rfl,by simp,λb h _=>World.putObj_heap_other (by omega)⟩
section
variable {α:Type} {F:Fence} {n:Nat} {P:Program} {g:Operand} {ps:Array Tmp} {assign body:Code} {Q:Exit->Act->World->Prop} {a:Act} {w:World}
def xJ(G:F.round=none)(h1:1<=n){gf:Nat}{lb:Array Value}(hg:a.eval g=.func (.func gf) #[] lb)(H:F.fn gf)(eg:∀args w,(callFunc gf args).run P w=.ok (.enter gf args) w)
 {encs:α->Array Value} (L:∀x,(encs x).size=ps.size) (M N:Nat) (af:M<w.heap.size) (ag:N<w.heap.size) (xs:List α)
 (I:List α->World->Prop) (i:∀pre W l o o',w.heap.size<=l->W.heap[l]? =some o->o.isCells=false->I pre W->I pre (W.putObj l o')) (s:∀pre W c,Stp W.heap.size M W c->I pre W->I pre c) (h0:I [] w)
 (u:∀(l:Nat) (J:List α->World->Prop) (W:World),Below w.heap.size w W->(∀pre W c,Stp W.heap.size M W c->J pre W->J pre c)->
  (∀pre x W1,J pre W1->pre++[x]<+:xs->YieldAt F (n-1-1) P l (encs x) W1 λe c=>e=.returned (.bool true)/\J (pre++[x]) c/\Stp w.heap.size N W1 c)->J [] W->
  CallsIn F (n-1) P gf (#[.func (.yield l) #[] #[]]++lb) W λe c=>(∃v,e=.returned v)/\J xs c)
 (h:α->Act)
 (d:∀(l:Nat) (x:α) (W:World) (K:Act->World->Prop),K (h x) W->assign.wpIn (F.inRound l) (n-1-1) P (Exit.then K (λ_ _ _=>False)) {tmps:=(ps.zip (encs x)).foldl (λt (p,v)=>t.setIfInBounds p v) a.tmps,defers:=[]} W)
 (j:∀(l:Nat) (pre:List α) (x:α) (W:World),I pre W->pre++[x]<+:xs->w.heap.size+2<=W.heap.size->body.wpIn (F.inRound l) (n-1-1) P (λe _ c=>e=.normal/\I (pre++[x]) c/\Stp (w.heap.size+2) N W c) (h x) W)
 (k:∀(D:Nat) (W:World),w.heap.size<=D->I xs W->W.heap[D]? =some (.deferred (some []))->Q .normal {a with defers:={target:=.collected D,args:=#[]}::a.defers} W):
 (Code.rangeFunc g ps assign body).wpIn F n P Q a w:=by
 refine wpIn_rangeFunc ?_;intro fn O;rw[G];obtain⟨rec,b⟩:∃rec:LoopState->Option Code->Loop,rec=λst pe=>{state:=st,pending:=pe,fn,tmps:=a.tmps,params:=ps,assign,body,defers:=w.heap.size}:=⟨_,rfl⟩
 obtain⟨W1,f⟩:∃W1,(w.alloc (.deferred (some []))).alloc (.loop (rec .ready none))=W1:=⟨_,rfl⟩
 have R:W1.heap[w.heap.size+1]? =some (.loop (rec .ready none)):=by rw[<-f];have:=World.alloc_heap_new (w.alloc (.deferred (some []))) (.loop (rec .ready none));rwa[World.size_alloc]at this
 have S:W1.heap[w.heap.size]? =some (.deferred (some [])):=by rw[<-f];exact(Below.heap_alloc _ _ _ (by simp)).trans (World.alloc_heap_new w _)
 have y:Below w.heap.size w W1:=by rw[<-f];exact((Below.refl _ w).alloc (R2 _) _).alloc (by simp) _
 have T:=s _ _ _ (Stp.BQ y) h0;refine⟨w.heap.size+1,[{target:=.collected w.heap.size,args:=#[]}],W1,{target:=.fn (.func gf) lb,args:=#[.func (.yield (w.heap.size+1)) #[] #[]]},W1,gf,#[.func (.yield (w.heap.size+1)) #[] #[]]++lb,W1,?_,?_,?_,?_,λ_=>h1,?_⟩
 ·rw[<-f,b];exact run_enterLoop_outer _ _ _ _ _
 ·simp only[resolve,hg]
  simp[go_sem]
 ·intro f' z;simp[Target.leads]at z;subst z;exact H
 ·simp[invoke,go_sem,eg]
 ·refine(u (w.heap.size+1) (λpre W=>I pre W/\W.heap[w.heap.size+1]? =some (.loop (rec .ready none))/\W.heap[w.heap.size]? =some (.deferred (some [])))
   W1 y (λpre A B U C=>⟨s _ _ _ U C.1,(U.block _ (R7.1 C.2.1).1 (by omega)).trans C.2.1,(U.block _ (R7.1 C.2.2).1 (by omega)).trans C.2.2⟩) ?_ ⟨T,R,S⟩).mono ?_
  ·rintro pre x W ⟨V,m,X⟩ E
   have Y:=(R7.1 m).1;have hy:=run_yield (P:=P) (args:=encs x) m (by rw[b];exact L x);rw[b]at hy;refine⟨fn,_,assign,body,hy,roundIn_of_wpIn O (d _ x W _ ?_)⟩;refine⟨_,run_beginRound m (by rw[b]),?_⟩;have Z:(W.putObj (w.heap.size+1) (.loop {rec .ready none with state:=.busy})).heap[w.heap.size+1]? =some (.loop {rec .ready none with state:=.busy}):=World.putObj_heap_same Y;have aa:(W.putObj (w.heap.size+1) (.loop {rec .ready none with state:=.busy})).heap[w.heap.size]? =some (.deferred (some [])):=(World.putObj_heap_other (by omega)).trans X;refine wpIn_mono (j _ pre x _ (i _ _ _ _ _ (by omega) m rfl V) E (by simp;omega)) ?_;rintro e a3 W3 ⟨rfl,ab,q⟩;have r:=(q.block (w.heap.size+1) (by omega) (by omega)).trans Z;have ad:=(q.block w.heap.size (by omega) (by omega)).trans aa;have hr:=run_endRound (P:=P) none r;rw[b]at hr;refine⟨_,_,hr,⟨rfl,⟨i _ _ _ _ _ (by omega) r rfl ab,?_,?_⟩,?_⟩⟩
   ·rw[b];exact World.putObj_heap_same (R7.1 r).1
   ·exact(World.putObj_heap_other (by omega)).trans ad
   ·exact((Stp.putObj _ (by omega)).trans (q.mono (by omega))).trans (Stp.putObj _ (by omega))
  ·rintro e W2 ⟨⟨v,rfl⟩,V,m,X⟩
   exact⟨none,_,by have:=run_endLoop (P:=P) m (by rw[b];simp);rw[b]at this;exact this,k _ _ (R2 _) (i _ _ _ _ _ (by omega) m rfl V) ((World.putObj_heap_other (by omega)).trans X)⟩
end
abbrev Pr2:=ByteArray×ByteArray
structure jw where
 name:ByteArray
 aT:List Pr2
structure Table where
 au:List Pr2
 az:List jw
 bl:List (List ByteArray)
structure Mark where
 name:ByteArray
 word:ByteArray
 aW:List Int
 day:Int
 known:Bool
structure ui where
 kind:Int
 least:Int
 plain:Int
 known:Int
structure Case where
 table:Table
 rules:List ui
 new:Mark
 marks:List Mark
 kin:List Int
def Kv(K:Nat->Prop)(w:World)(b:Option Addr):Prop:=∀a,b=some a->a.spot=none/\K a.block/\∃c e F,w.heap[a.block]? =some (.cells c e F)
def aE{e:Type}(K:Nat->Prop)(f:Nat)(E:(Nat->Prop)->World->Nat->Nat->e->Prop)(w:World)(v:Value)(l:List e):Prop:=∃d c,v=.slice d l.length c/\l.length<=c/\c<=9223372036854775807/\(c=0\/Kv K w d)/\∀k (h:k<l.length),∃b a,d=some ⟨b,a,none⟩/\E K w b (a+k*f) l[k]
def kq(K:Nat->Prop)(w:World)(b o:Nat)(s:ByteArray):Prop:=w.cell? ⟨b,o,none⟩=some (.string s)
def du(K:Nat->Prop)(w:World)(b o:Nat)(n:Int):Prop:=w.cell? ⟨b,o,none⟩=some (.int .i64 n)
def dh(K:Nat->Prop)(w:World)(b o:Nat)(p:Pr2):Prop:=w.cell? ⟨b,o,none⟩=some (.string p.1)/\w.cell? ⟨b,o+1,none⟩=some (.string p.2)
def jx(K:Nat->Prop)(w:World)(b o:Nat)(l:List ByteArray):Prop:=∃v,w.cell? ⟨b,o,none⟩=some v/\aE K 1 kq w v l
def eT(K:Nat->Prop)(w:World)(b o:Nat)(t:jw):Prop:=w.cell? ⟨b,o,none⟩=some (.string t.name)/\∃v,w.cell? ⟨b,o+1,none⟩=some v/\aE K 2 dh w v t.aT
def pb(K:Nat->Prop)(w:World)(b o:Nat)(m:Mark):Prop:=w.cell? ⟨b,o,none⟩=some (.string m.name)/\w.cell? ⟨b,o+1,none⟩=some (.string m.word)/\(∃v,w.cell? ⟨b,o+2,none⟩=some v/\aE K 1 du w v m.aW)/\w.cell? ⟨b,o+3,none⟩=some (.int .i64 m.day)/\w.cell? ⟨b,o+4,none⟩=some (.bool m.known)
def pc(K:Nat->Prop)(w:World)(b o:Nat)(r:ui):Prop:=w.cell? ⟨b,o,none⟩=some (.int .i64 r.kind)/\w.cell? ⟨b,o+1,none⟩=some (.int .i64 r.least)/\w.cell? ⟨b,o+2,none⟩=some (.int .i64 r.plain)/\w.cell? ⟨b,o+3,none⟩=some (.int .i64 r.known)
def IsTable(K:Nat->Prop)(w:World)(v0 v1 v2:Value)(t:Table):Prop:=aE K 2 dh w v0 t.au/\aE K 2 eT w v1 t.az/\aE K 1 jx w v2 t.bl
def bI(K:Nat->Prop)(w:World)(sc:Array Value)(c:Case):Prop:=∃v0 v1 v2 a b d e,sc=#[v0,v1,v2,a,.string c.new.name,.string c.new.word,b,.int .i64 c.new.day,.bool c.new.known,d,e]/\IsTable K w v0 v1 v2 c.table/\aE K 4 pc w a c.rules/\aE K 1 du w b c.new.aW/\aE K 5 pb w d c.marks/\aE K 1 du w e c.kin
inductive TV(σ:Nat->Nat->Prop)(K':Nat->Prop)(w':World):Bool->Value->Value->Prop
 |bool {q} (b):TV σ K' w' q (.bool b) (.bool b)
 |int {q} (k n):TV σ K' w' q (.int k n) (.int k n)
 |string {q} (s):TV σ K' w' q (.string s) (.string s)
 |im {q} (l c):TV σ K' w' q (.slice none l c) (.slice none l c)
 |slice {q} {b b' o:Nat} (l c):σ b b'->K' b'->(∃c e F,w'.heap[b']? =some (.cells c e F))->TV σ K' w' q (.slice (some ⟨b,o,none⟩) l c) (.slice (some ⟨b',o,none⟩) l c)
 |empty (a a':Option Addr):TV σ K' w' false (.slice a 0 0) (.slice a' 0 0)
inductive CV(K:Nat->Prop)(w:World):Bool->Value->Prop
 |bool {q} (b):CV K w q (.bool b)
 |int {q} (k n):CV K w q (.int k n)
 |string {q} (s):CV K w q (.string s)
 |slice {q} {ao:Option Addr} (l c):Kv K w ao->CV K w q (.slice ao l c)
 |empty (ao:Option Addr):CV K w false (.slice ao 0 0)
def TV.cv{σ K' w' v V}(h:TV σ K' w' true v V):CV K' w' true V:=by
 cases h with
 |bool=>exact .bool _
 |int=>exact .int _ _
 |string=>exact .string _
 |im=>exact .slice _ _ λa e=>by cases e
 |slice l c f b d=>exact .slice _ _ λa e=>by cases e;exact⟨rfl,b,d⟩
def gR(K:Nat->Prop)(w:World)(sc:Array Value):Prop:=∀v∈sc,CV K w true v
structure Carry(σ:Nat->Nat->Prop)(K K':Nat->Prop)(w w':World):Prop where
 fn:∀b b' b'',σ b b'->σ b b''->b'=b''
 cell:∀b b' o v,σ b b'->w.cell? ⟨b,o,none⟩=some v->CV K w false v->∃v',w'.cell? ⟨b',o,none⟩=some v'/\TV σ K' w' false v v'
section
variable {σ:Nat->Nat->Prop} {K K':Nat->Prop} {w w':World}
def aE.cv{a b E v}{l:List a}(h:aE K b E w v l):CV K w false v:=by
 obtain⟨e,c,rfl,d,_,hk,_⟩:=h;obtain rfl|hk:=hk
 ·rw[Nat.le_zero.1 d]
  exact .empty _
 ·exact .slice _ _ hk
def aE.carry{u j E}(y:∀b f o x,σ b f->E K w b o x->E K' w' f o x){q}{v m}{l:List u}(p:TV σ K' w' q v m)(h:aE K j E w v l):aE K' j E w' m l:=by
 obtain⟨G,c,rfl,r,s,H,t⟩:=h;generalize g:l.length=n at p;cases p with
 |empty _ z=>have e:l=[]:=S8 g;subst e;exact⟨z,0,rfl,R2 _,by omega,.inl rfl,λk d=>absurd d (by simp)⟩
 |im=>
  subst g;refine⟨none,c,rfl,r,s,.inr ?_,?_⟩
  ·intro a e;cases e
  ·intro k d
   obtain⟨b,i,e,_⟩:=t k d;cases e
 | @slice _ b f o _ _ A B D=>
  subst g;refine⟨some ⟨f,o,none⟩,c,rfl,r,s,.inr ?_,?_⟩
  ·intro a e;cases e;exact⟨rfl,B,D⟩
  intro k d;obtain⟨I,i,e,F⟩:=t k d;cases e;exact⟨f,o,rfl,y _ _ _ _ A F⟩
variable (C:Carry σ K K' w w')
include C
def kq.carry(b a o:Nat)(s:ByteArray)(c:σ b a)(h:kq K w b o s):kq K' w' a o s:=by obtain⟨v,d,e⟩:=C.cell b a o _ c h (.string s);cases e;exact d
def du.carry(b a o:Nat)(n:Int)(c:σ b a)(h:du K w b o n):du K' w' a o n:=by obtain⟨v,d,e⟩:=C.cell b a o _ c h (.int _ n);cases e;exact d
def EN(b a o:Nat)(x:Bool)(c:σ b a)(h:w.cell? ⟨b,o,none⟩=some (.bool x)):w'.cell? ⟨a,o,none⟩=some (.bool x):=by obtain⟨v,d,e⟩:=C.cell b a o _ c h (.bool x);cases e;exact d
def dh.carry(b a o:Nat)(p:Pr2)(c:σ b a)(h:dh K w b o p):dh K' w' a o p:=⟨kq.carry C b a o _ c h.1,kq.carry C b a (o+1) _ c h.2⟩
def pc.carry(b a o:Nat)(r:ui)(c:σ b a)(h:pc K w b o r):pc K' w' a o r:=⟨du.carry C b a o _ c h.1,du.carry C b a (o+1) _ c h.2.1,du.carry C b a (o+2) _ c h.2.2.1,du.carry C b a (o+3) _ c h.2.2.2⟩
def jx.carry(b a o:Nat)(l:List ByteArray)(d:σ b a)(h:jx K w b o l):jx K' w' a o l:=by obtain⟨v,e,c⟩:=h;obtain⟨f,g,i⟩:=C.cell b a o _ d e c.cv;exact⟨f,g,c.carry (kq.carry C) i⟩
def eT.carry(b a o:Nat)(t:jw)(c:σ b a)(h:eT K w b o t):eT K' w' a o t:=by obtain⟨e,v,f,d⟩:=h;obtain⟨g,i,j⟩:=C.cell b a (o+1) _ c f d.cv;exact⟨kq.carry C b a o _ c e,g,i,d.carry (dh.carry C) j⟩
def pb.carry(b a o:Nat)(m:Mark)(c:σ b a)(h:pb K w b o m):pb K' w' a o m:=by obtain⟨e,f,⟨v,g,d⟩,i,j⟩:=h;obtain⟨k,l,n⟩:=C.cell b a (o+2) _ c g d.cv;exact⟨kq.carry C b a o _ c e,kq.carry C b a (o+1) _ c f,⟨k,l,d.carry (du.carry C) n⟩,du.carry C b a (o+3) _ c i,EN C b a (o+4) _ c j⟩
def IsTable.carry{v0 v1 v2 a b c:Value}{t:Table}{q}(d:TV σ K' w' q v0 a)(e:TV σ K' w' q v1 b)(f:TV σ K' w' q v2 c)(h:IsTable K w v0 v1 v2 t):IsTable K' w' a b c t:=⟨h.1.carry (dh.carry C) d,h.2.1.carry (eT.carry C) e,h.2.2.carry (jx.carry C) f⟩
def bI.carry{sc e:Array Value}{c:Case}(b:e.size=sc.size)(a:∀(i:Nat) v V,sc[i]? =some v->e[i]? =some V->CV K w false v->TV σ K' w' false v V)(h:bI K w sc c):bI K' w' e c:=by
 obtain⟨v0,v1,v2,s,t,u,x,rfl,f,j,k,l,m⟩:=h;obtain⟨L⟩:=e;have b:L.length=11:=by simpa using b
 match L,b with
 | [n,a1,o,p,y,z,q,A,B,r,d],_=>have D:=a 0 v0 n rfl rfl f.1.cv;have E:=a 1 v1 a1 rfl rfl f.2.1.cv;have F:=a 2 v2 o rfl rfl f.2.2.cv;have G:=a 3 s p rfl rfl j.cv;have H:=a 4 _ y rfl rfl (.string _);have I:=a 5 _ z rfl rfl (.string _);have J:=a 6 t q rfl rfl k.cv;have M:=a 7 _ A rfl rfl (.int _ _);have N:=a 8 _ B rfl rfl (.bool _);have O:=a 9 u r rfl rfl l.cv;have g:=a 10 x d rfl rfl m.cv;cases H;cases I;cases M;cases N;exact⟨n,a1,o,p,q,r,d,rfl,f.carry C D E F,j.carry (pc.carry C) G,k.carry (du.carry C) J,l.carry (pb.carry C) O,m.carry (du.carry C) g⟩
end
def Carry.keep{K:Nat->Prop}{w w':World}(h:∀(b:Nat) c e f,w.heap[b]? =some (.cells c e f)->w'.heap[b]? =some (.cells c e f)):Carry (λa b=>a=b) K K w w' where
 fn _ _ _ h1 h2:=h1.symm.trans h2
 cell b b' o v hs hc hv:=by
  subst hs;have d:w'.cell? ⟨b,o,none⟩=some v:=by
   unfold World.cell? at hc⊢
   revert hc
   simp only[];cases i:w.heap[b]? with
   |none=>intro h;cases h
   |some o'=>
    cases o' with
    |cells g e F=>intro hc;rw[h b g e F i];exact hc
    |_=>intro h;cases h
  refine⟨v,d,?_⟩;cases hv with
  |bool=>exact .bool _
  |int=>exact .int _ _
  |string=>exact .string _
  |empty=>exact .empty _ _
  | @slice _ j l c k=>
   cases j with
   |none=>exact .im _ _
   |some a=>obtain⟨b,o,p⟩:=a;obtain⟨h1,h2,g,e,F,m⟩:=k _ rfl;simp only[]at h1;subst h1;exact .slice _ _ rfl h2 ⟨_,_,_,h _ _ _ _ m⟩
def TV.self{K w w'}(h:∀(b:Nat) c e f,w.heap[b]? =some (.cells c e f)->w'.heap[b]? =some (.cells c e f)){q}{v}(g:CV K w q v):TV (λa b=>a=b) K w' q v v:=by
 cases g with
 |bool=>exact .bool _
 |int=>exact .int _ _
 |string=>exact .string _
 |empty=>exact .empty _ _
 | @slice _ i l c j=>
  cases i with
  |none=>exact .im _ _
  |some a=>obtain⟨b,o,p⟩:=a;obtain⟨d,k,n,e,F,m⟩:=j _ rfl;simp only[]at d;subst d;exact .slice _ _ rfl k ⟨_,_,_,h _ _ _ _ m⟩
def ae(w w':World):Prop:=∀(b:Nat) c e f,w.heap[b]? =some (.cells c e f)->w'.heap[b]? =some (.cells c e f)
def ae.refl(w):ae w w:=λ_ _ _ _ h=>h
def ae.trans{a b c}(h:ae a b)(k:ae b c):ae a c:=λx _ _ _ d=>k x _ _ _ (h x _ _ _ d)
def ae.below{w w'}(h:Below w.heap.size w w'):ae w w':=λb c e f a=>(h.block b (R7.1 a).1).trans a
def aE.stays{d K a E w w'}(e:ae w w')(f:∀b c o x,b=c->E K w b o x->E K w' c o x){v}{l:List d}(h:aE K a E w v l):aE K a E w' v l:=h.carry f (TV.self e h.cv)
def IsTable.stays{K w w'}(a:ae w w'){v0 v1 v2 t}(h:IsTable K w v0 v1 v2 t):IsTable K w' v0 v1 v2 t:=h.carry (Carry.keep a) (TV.self a h.1.cv) (TV.self a h.2.1.cv) (TV.self a h.2.2.cv)
def bI.stays{K w w'}(a:ae w w'){sc c}(h:bI K w sc c):bI K w' sc c:=h.carry (Carry.keep a) rfl λi v V d b e=>by rw[d]at b;cases b;exact TV.self a e
end Go.Proofs

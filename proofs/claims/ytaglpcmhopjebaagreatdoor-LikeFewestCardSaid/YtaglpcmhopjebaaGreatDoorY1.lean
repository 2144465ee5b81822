import Derived.Test.YtaglpcmhopjebaaGreatDoorY0
set_option linter.all false
set_option maxRecDepth 100000
set_option maxHeartbeats 20000000
namespace Go.Tm
variable {G:Nat} {S:Kn} {Pr:Nat->Prop} {π:Ren G} {w W:World}
def ah(P:Program)(fs:Array Func):Program:={P with funcs:=fs}
def G6(P fs t):(ah P fs).info? t=P.info? t:=rfl
def m6(P fs t):(ah P fs).underlying t=P.underlying t:=rfl
def fU(P fs):∀(d) (t) (off),byteOfCell (ah P fs) d t off=byteOfCell P d t off:=by
 intro d;induction d with
 |zero=>exactλ_ _=>rfl
 |succ d a=>intro t off;unfold byteOfCell;simp only[a];rfl
def sf(P fs):∀(d) (t) (off),cellHolding (ah P fs) d t off=cellHolding P d t off:=by
 intro d;induction d with
 |zero=>exactλ_ _=>rfl
 |succ d a=>intro t off;unfold cellHolding;simp only[a];rfl
def uS(P fs):∀(d) (t) (off),plainCell (ah P fs) d t off=plainCell P d t off:=by
 intro d;induction d with
 |zero=>exactλ_ _=>rfl
 |succ d a=>intro t off;unfold plainCell;simp only[a];rfl
def El(P fs):∀(d) (t),tight (ah P fs) d t=tight P d t:=by
 intro d;induction d with
 |zero=>exactλ_=>rfl
 |succ d a=>intro t;unfold tight;simp only[a];rfl
def az.bytes{v V}(h:az π v V){bs}(a:v.bytes?=some bs):V=v:=by cases h<;>first|rfl|(simp[Value.bytes?]at a)
def oZ{v x bs}(h:v.ofBytes bs=some x):az π x x/\∀V,az π v V->V=v:=by
 cases v<;>simp only[Value.ofBytes]at h;case bool=>refine⟨?_,λV a=>by cases a;rfl⟩;split at h<;>first|(cases h;constructor)|cases h
 case int=>refine⟨?_,λV a=>by cases a;rfl⟩;split at h<;>first|(cases h;constructor)|cases h
 case float=>refine⟨?_,λV a=>by cases a;rfl⟩;split at h<;>first|(cases h;constructor)|cases h
 case complex=>refine⟨?_,λV a=>by cases a;rfl⟩;split at h<;>first|(cases h;constructor)|cases h
 all_goals cases h
def xx(P fs){c C}(n:VsR π c C)(e):∀(f x stop) (l),seenCells (ah P fs) c e f x stop=.ok l->seenCells P C e f x stop=.ok l:=by
 intro f;induction f with
 |zero=>intro x stop l h;simp[seenCells]at h
 |succ f o=>
  intro x stop l h;unfold seenCells at h⊢;simp only[show(ah P fs).depth=P.depth from rfl,show ∀t,(ah P fs).cellsOf t=P.cellsOf t fromλ_=>rfl,show ∀t,(ah P fs).bytesOf t=P.bytesOf t fromλ_=>rfl,sf]at h;dsimp only at h⊢;split
  ·rename_i d;rw[Rp d]at h;exact h
  ·rename_i d;rw[Ro d]at h
   split
   ·rename_i g;rw[Rp g]at h;cases h
   ·rename_i g;rw[Ro g]at h
    split
    ·rename_i j;rw[j]at h;cases h
    ·rename_i i s j
     rw[j]at h;simp only[]at h⊢;have k:=n.get i
     revert k h
     generalize c[i]? =u;generalize C[i]? =v;intro h k;cases k with
     |none=>cases h
     | @some v V r=>
      simp only[]at h⊢;cases a:v.bytes? with
      |none=>rw[a]at h;cases h
      |some bs=>
       rw[r.bytes a,a];rw[a]at h;cases bs with
       |nil=>cases h
       |cons b bs=>
        simp only[]at h⊢;cases m:seenCells (ah P fs) c e f (s+(b::bs).length) stop with
        |error _=>rw[m]at h;cases h
        |ok p=>rw[o _ _ _ m];rw[m]at h;exact h
def Bi{P fs}(i:∀r R,π r R->∃o O,w.heap[r]? =some o/\W.heap[R]? =some O/\fA S π o O)
 {a A k K} (B:aP π a A) (D:aP π k K) (u) {x} (h:w.seen (ah P fs) a u k false=.ok x):
 ∃c e f b l cs C F,x=(c,e,f,b,l,cs)/\W.seen P A u K false=.ok (C,e,F,b,l,cs)/\w.heap[a.block]? =some (.cells c e f)/\W.heap[A.block]? =some (.cells C e F)/\VsR π c C/\G5 c.size f F:=by
 cases B with
 | @mk r R o p E=>
 cases D with
 | @mk N R' o' H I=>
 obtain⟨ob,Q,m,J,L⟩:=i _ _ E;unfold World.seen at h⊢;simp only[m,uS,fU,show(ah P fs).depth=P.depth from rfl,show ∀t,(ah P fs).cellsOf t=P.cellsOf t fromλ_=>rfl,show ∀t,(ah P fs).bytesOf t=P.bytesOf t fromλ_=>rfl]at h;simp only[J];by_cases g:(H.isSome||p.isSome)=true
 ·rw[Rp g]at h;cases h
 rw[Ro g]at h⊢;cases n:plainCell P P.depth u o' with
 |none=>rw[n]at h;cases h
 |some d=>
 rw[n]at h;simp only[]at h⊢;cases q:Option.map (λx:List UInt8=>x.length) d.bytes? with
 |none=>rw[q]at h;cases h
 |some size=>
 rw[q]at h;simp only[]at h⊢;cases s:byteOfCell P P.depth u o' with
 |none=>rw[s]at h;cases h
 |some v=>
 rw[s]at h;simp only[]at h⊢;cases L with
 | @cells c C e f F y M=>
  simp only[]at h⊢;by_cases z:P.cellsOf e=0
  ·rw[Rp z]at h;cases h
  rw[Ro z]at h⊢;cases j:byteOfCell P P.depth e (o%P.cellsOf e)with
  |none=>rw[j]at h;cases h
  |some b0=>
  rw[j]at h;simp only[]at h⊢;cases g:seenCells (ah P fs) c e (size+1) (o/P.cellsOf e*P.bytesOf e+b0+v) (o/P.cellsOf e*P.bytesOf e+b0+v+size)with
  |error _=>rw[g]at h;cases h
  |ok cs=>rw[xx P fs y e _ _ _ _ g];rw[g]at h;cases h;exact⟨c,e,f,_,d,cs,C,F,rfl,rfl,m,rfl,y,M⟩
 |_=>cases h
def zL{P fs}(d:∀r R,π r R->∃o O,w.heap[r]? =some o/\W.heap[R]? =some O/\fA S π o O)
 {a A k K} (i:aP π a A) (j:aP π k K) (u) {v} {t} (h:w.viewLoad (ah P fs) a u k false=.ok (v,t)):
 ∃T,W.viewLoad P A u K false=.ok (v,T)/\az π v v/\∀X∈T,X.block=A.block:=by
 unfold World.viewLoad at h⊢;cases g:w.seen (ah P fs) a u k false with
 |error _=>rw[g]at h;cases h
 |ok x=>
  obtain⟨c,e,f,b,l,cs,C,F,rfl,m,_,_,_,_⟩:=Bi d i j u g;rw[g]at h;rw[m];dsimp only[bind,Except.bind]at h⊢;split at h
  ·rename_i q n
   cases h;exact⟨_,rfl,(oZ n).1,λX p=>by obtain⟨x,_,rfl⟩:=SU.1 p;rfl⟩
  ·cases h
def Em{i σ τ j:Type}{g:σ->i->Except j σ}{g':τ->i->Except j τ}{I:σ->τ->Prop}{H}(b:∀c C x c',I c C->g c x=.ok c'->∃a,g' C x=.ok a/\I c' a/\H):
 ∀(cs) {c} {C} {c'},I c C->cs.foldlM g c=.ok c'->∃a,cs.foldlM g' C=.ok a/\I c' a/\(cs=[]->a=C)/\(cs≠[]->H):=by
 intro cs;induction cs with
 |nil=>intro c C c' d h;cases h;exact⟨C,rfl,d,λ_=>rfl,λh=>absurd rfl h⟩
 |cons x cs k=>
  intro c C c' d h;simp only[List.foldlM_cons]at h⊢;cases f:g c x with
  |error e=>rw[f]at h;cases h
  |ok p=>obtain⟨q,e1,l,m⟩:=b _ _ _ _ d f;rw[f]at h;obtain⟨a,n,o,_,_⟩:=k l h;exact⟨a,by rw[e1];exact n,o,by simp,λ_=>m⟩
def xy{P fs}(m:∀r R,π r R->∃o O,w.heap[r]? =some o/\W.heap[R]? =some O/\fA S π o O)
 {a A k K} (ha:aP π a A) (hk:aP π k K) (u) {v V} (hv:az π v V) {w'} {t} (h:w.viewStore (ah P fs) a u k v false=.ok (w',t)):
 ∃c e f C F c' d T,W.viewStore P A u K V false=.ok ({W with heap:=W.heap.setIfInBounds A.block (.cells d e F)},T)/\w'={w with heap:=w.heap.setIfInBounds a.block (.cells c' e f)}/\w.heap[a.block]? =some (.cells c e f)/\W.heap[A.block]? =some (.cells C e F)/\VsR π c C/\VsR π c' d/\c'.size=c.size/\G5 c'.size f F/\(T≠[]->¬(f.1=0/\c.size<f.2))/\(T=[]->d=C)/\∀X∈T,X.block=A.block:=by
 unfold World.viewStore at h⊢;rw[El]at h;simp only[show(ah P fs).depth=P.depth from rfl]at h;by_cases Q:(!tight P P.depth u)=true
 ·rw[Rp Q]at h;cases h
 rw[Ro Q]at h⊢;cases B:w.seen (ah P fs) a u k false with
 |error _=>rw[B]at h;cases h
 |ok x=>
  obtain⟨c,e,f,b,l,cs,C,F,rfl,g,j,D,U,Y⟩:=Bi m ha hk u B;rw[B]at h;rw[g];dsimp only[bind,Except.bind,pure,Except.pure]at h⊢;cases q:v.bytes? with
  |none=>rw[q]at h;cases h
  |some bytes=>
   rw[hv.bytes q,q];rw[q]at h;dsimp only at h⊢;by_cases Z:some bytes.length≠Option.map (λx=>x.length) l.bytes?
   ·rw[Rp Z]at h;cases h
   rw[Ro Z]at h⊢;split at h
   ·cases h
   rename_i c' E;generalize J:(List.foldlM _ C cs:Except String (Array Value))=X
   suffices key:∃d,X=.ok d/\(VsR π c' d/\c'.size=c.size)/\(cs=[]->d=C)/\(cs≠[]->¬(f.1=0/\c.size<f.2)) by obtain⟨d,k1,⟨k2,k3⟩,k4,k5⟩:=key;cases h;refine⟨c,e,f,C,F,c',d,cs.map λx=>{block:=A.block,off:=x.1},by rw[k1],rfl,j,D,U,k2,k3,k3▸Y,λL=>k5 (λh0=>L (by rw[h0];rfl)),λL=>k4 (List.map_eq_nil_iff.1 L),λX J=>by obtain⟨x,_,rfl⟩:=SU.1 J;rfl⟩
   rw[<-J];refine Em (I:=λy M=>VsR π y M/\y.size=c.size) (H:=¬(f.1=0/\c.size<f.2)) ?_ cs ⟨U,rfl⟩ E
   ·rintro y M ⟨i,s,bs⟩ c2 ⟨n,N⟩ h
    dsimp only at h⊢;by_cases h1:(decide (s<b)||decide (s+bs.length>b+bytes.length))=true
    ·rw[Rp h1]at h;cases h
    rw[Ro h1]at h⊢;by_cases g:(decide (f.1<=i)&&decide (i<f.2))=true
    ·rw[Rp g]at h;cases h
    have p:=n.get i;cases j:y[i]? with
    |none=>rw[Ro g,j]at h;cases h
    |some old=>
     rw[j]at p;have hi:=(Rx.1 j).1;have D:¬(decide (F.1<=i)&&decide (i<F.2))=true:=by
      obtain rfl|⟨g1,g2,g3⟩:=Y
      ·exact g
      ·simp only[RD,RJ]at g;omega
     rw[Ro g,j]at h;rw[Ro D];cases hC:M[i]? with
     |none=>rw[hC]at p;cases p
     |some aa=>
      rw[hC]at p;cases p with
      |some hr=>
      dsimp only at h⊢;cases z:old.ofBytes ((bytes.drop (s-b)).take bs.length)with
      |none=>rw[z]at h;cases h
      |some new=>rw[z]at h;have⟨p1,p2⟩:=oZ (π:=π) z;rw[p2 _ hr,z];dsimp only at h⊢;cases h;refine⟨_,rfl,⟨n.set i p1,by simpa using N⟩,?_⟩;simp only[RD,RJ]at g;omega
def sg(P w τ d a k u v m):
 (av w τ d).viewStore P a u k v m=(w.viewStore P a u k v m).map λx=>(av x.1 τ d,x.2):=by
 unfold World.viewStore;rw[show(av w τ d).seen P a u k m=w.seen P a u k m from rfl];by_cases g:(!tight P P.depth u)=true
 ·rw[Rp g,Rp g];rfl
 rw[Ro g,Ro g];cases w.seen P a u k m with
 |error _=>rfl
 |ok x=>
  obtain⟨c,e,f,b,l,cs⟩:=x;dsimp only[bind,Except.bind,pure,Except.pure];cases v.bytes? with
  |none=>rfl
  |some bytes=>
   dsimp only;by_cases h:some bytes.length≠Option.map (λx=>x.length) l.bytes?
   ·rw[Rp h,Rp h];rfl
   rw[Ro h,Ro h];generalize (List.foldlM _ c cs:Except String (Array Value))=X;cases X<;>rfl
def fV(P w τ d a v m):
 (av w τ d).farStore P a v m=(w.farStore P a v m).map λx=>(av x.1 τ d,x.2):=by
 unfold World.farStore;rw[show(av w τ d).heap=w.heap from rfl,show(av w τ d).noCell a "store: no such cell" =w.noCell a "store: no such cell" from rfl];split
 ·rw[sg]
  cases w.viewStore P _ _ a v m<;>rfl
 ·rfl
end Go.Tm

import Derived.Test.YtaglpcmhopjebaaGreatDoorU0
set_option linter.all false
set_option maxRecDepth 100000
set_option maxHeartbeats 20000000
namespace Go.Tm
variable {G:Nat} {S:Kn} {Pr:Nat->Prop} {π:Ren G} {w W:World}
def bw.fn(_h:bw S Pr π w W):∀r R R',π r R->π r R'->R=R':=π.fn
def bw.inj(_h:bw S Pr π w W):∀r r' R,π r R->π r' R->r=r':=π.inj
def bw.lt(h:bw S Pr π w W){r R}(x:π r R):r<w.heap.size/\R<W.heap.size:=by obtain⟨o,O,a,b,_⟩:=h.obj r R x;exact⟨(Uk.1 a).1,(Uk.1 b).1⟩
def bw.cell(h:bw S Pr π w W){a A}(x:aS π a A){v}(b:w.cell? a=some v):∃V,W.cell? A=some V/\aA π v V:=by
 cases x with
 | @mk r s o p x=>
  obtain⟨ob,l,g,i,j⟩:=h.obj _ _ x;simp only[World.cell?,g]at b;cases j with
  | @cells c C e f F k m=>simp only[World.cell?,i];cases p with|some p=>simp at b|none=>simp only[Option.isSome_none,Uz,Uy]at b⊢;have d:=k.get o;rw[b]at d;revert d;generalize C[o]? =X;intro d;cases d with|some r=>exact⟨_,rfl,r⟩
  |_=>simp at b
def bw.frozen(h:bw S Pr π w W){a A}(x:aS π a A):W.frozen? A=true->w.frozen? a=true:=by cases x with| @mk r s o p x=>obtain⟨ob,j,b,d,g⟩:=h.obj _ _ x;simp only[World.frozen?,b,d];cases g with| @cells c C e f F k i=>obtain rfl|⟨a1,l,m⟩:=i;exact id;simp only[Un,Uu];omega|_=>exact id
def bw.shape(h:bw S Pr π w W){r R}(x:π r R):W.shape? R=w.shape? r:=by obtain⟨ob,f,a,b,c⟩:=h.obj _ _ x;simp only[World.shape?,a,b];cases c with|cells e d g=>simp[d.1]|_=>rfl
def eF{b:Type}(a:Array b)(i j f):(a.modify i f)[j]? =if i=j then a[j]?.map f else a[j]? :=U5
def dS(w:World)(a v b)(c:b≠a.block):(w.setCell a v).heap[b]? =w.heap[b]? :=by simp only[World.setCell,eF];rw[Uc (λh=>c h.symm)]
def fJ(w:World)(a v):(w.setCell a v).heap.size=w.heap.size:=by simp[World.setCell]
def hZ{W:World}{a v}{b:Nat}{c e F}(h:W.heap[b]? =some (.cells c e F)):∃c' F',(W.setCell a v).heap[b]? =some (.cells c' e F')/\Fle F F':=by simp only[World.setCell,eF];split;rw[h];exact⟨_,F,rfl,.refl _⟩;exact⟨c,F,h,.refl _⟩
def bw.setCell(h:bw S Pr π w W){a A}(x:aS π a A){v V}(u:aA π v V):bw S Pr π (w.setCell a v) (W.setCell A V):=by
 cases x with
 | @mk r s o p x=>
  refine⟨λg R' y=>?_,λg R' y z=>?_,λR z=>by rw[fJ];exact h.wI R z,by rw[fJ];exact h.gw,by rw[fJ];exact h.gW,by obtain⟨c,e,f,B⟩:=h.w0;obtain⟨c',D,d,_⟩:=hZ (a:=⟨r,o,p⟩) (v:=v) B;exact⟨c',e,D,d⟩⟩;obtain⟨ob,E,d,i,k⟩:=h.obj g R' y;by_cases e:g=r;subst e
  have j:=h.fn _ _ _ y x;subst j;simp only[World.setCell,eF,Us,d,i,UW];refine⟨_,_,rfl,rfl,?_⟩;cases k with
  | @cells c C e f F l m=>simp only[];cases p with|some p=>exact .cells e (by simpa using l) (by simpa using m)|none=>exact .cells e (by simpa using l.set o u) (by simpa using m)
  |map n h=>exact .map n h
  |stringIter=>exact .stringIter _ _
  |fo=>exact .fo _ _ _
  |mapIter a b c h=>exact .mapIter a b c h
  |loop h=>exact .loop h
  |deferred=>exact .deferred
  |eB=>exact .eB
  |number b h=>exact .number b h
  |view t h=>exact .view t h
  have j:R'≠s:=λj=>e (by subst j;exact h.inj _ _ _ y x);exact⟨ob,E,by rw[dS _ _ _ _ e];exact d,by rw[dS _ _ _ _ j];exact i,k⟩;obtain⟨c,e,f,d,i⟩:=h.vt g R' y z;by_cases q:g=r;subst q;refine⟨if p.isSome then c else c.setIfInBounds o v,e,f,?_,?_⟩;simp only[World.setCell,eF,Us,d,UW];split<;>simpa using i;exact⟨c,e,f,by rw[dS _ _ _ _ q];exact d,i⟩
def gM(w:World)(a n b)(c:b≠a.block):(w.freeze a n).heap[b]? =w.heap[b]? :=by simp only[World.freeze];split;rfl;simp only[eF];rw[Uc (λh=>c h.symm)]
def jx(w:World)(a n):(w.freeze a n).heap.size=w.heap.size:=by simp only[World.freeze];split<;>simp
def mE(w:World)(a n)(b:n≠0){c e f}(h:w.heap[a.block]? =some (.cells c e f)):(w.freeze a n).heap[a.block]? =some (.cells c e (grow f a.off n)):=by simp only[World.freeze,Uc b,eF,Us,h,UW];rfl
def bJ(w:World)(a n){o:Obj}(h:w.heap[a.block]? =some o)(b:∀c e f,o≠ .cells c e f):(w.freeze a n).heap[a.block]? =some o:=by simp only[World.freeze];split;exact h;simp only[eF,Us,h,UW];cases o<;>first|rfl|exact absurd rfl (b _ _ _)
def zQ{f m}(b:f.1=0)(c:m<f.2)(a n):(grow f a n).1=0/\m<(grow f a n).2/\f.2<=(grow f a n).2/\a+n<=(grow f a n).2:=by (unfold grow;have:(f.1==f.2)=false:=by simp;omega);rw[this];simp only[Uz,Uy];omega
def Pb{F k}(a n)(h:F.2<=k)(b:a+n<=k):(grow F a n).2<=k:=by unfold grow;split<;>simp only[]<;>omega
def wS{W:World}{a}{n b:Nat}{c e F}(h:W.heap[b]? =some (.cells c e F)):∃c' F',(W.freeze a n).heap[b]? =some (.cells c' e F')/\Fle F F':=by by_cases d:n=0;subst d;exact⟨c,F,by simpa[World.freeze]using h,.refl _⟩;by_cases f:b=a.block;subst f;exact⟨c,_,mE W a n d h,L3 _ _ _ d⟩;exact⟨c,F,by rw[gM _ _ _ _ f];exact h,.refl _⟩
def bw.freeze(h:bw S Pr π w W){a A}(x:aS π a A)(n):bw S Pr π (w.freeze a n) (W.freeze A n):=by by_cases m:n=0;subst m;simpa[World.freeze]using h;cases x with| @mk r s o p x=>refine⟨λd R' y=>?_,λd R' y z=>?_,λR z=>by rw[jx];exact h.wI R z,by rw[jx];exact h.gw,by rw[jx];exact h.gW,by obtain⟨c,e,f,B⟩:=h.w0;obtain⟨c',D,g,_⟩:=wS (a:=⟨r,o,p⟩) (n:=n) B;exact⟨c',e,D,g⟩⟩;obtain⟨ob,E,g,i,k⟩:=h.obj d R' y;by_cases e:d=r;subst e;(have l:=h.fn _ _ _ y x;subst l;cases k with| @cells c C e f F H I=>refine⟨_,_,mE w ⟨d,o,p⟩ n m g,mE W ⟨R',o,p⟩ n m i,.cells e H ?_⟩;obtain rfl|⟨a1,J,K⟩:=I;exact .inl rfl;obtain⟨q,u,L,M⟩:=zQ a1 J o n;exact .inr ⟨q,u,Pb o n (Uf K L) M⟩|map N j=>exact⟨_,_,bJ w ⟨d,o,p⟩ n g (by simp),bJ W ⟨R',o,p⟩ n i (by simp),.map N j⟩|stringIter=>exact⟨_,_,bJ w ⟨d,o,p⟩ n g (by simp),bJ W ⟨R',o,p⟩ n i (by simp),.stringIter _ _⟩|fo=>exact⟨_,_,bJ w ⟨d,o,p⟩ n g (by simp),bJ W ⟨R',o,p⟩ n i (by simp),.fo _ _ _⟩|mapIter a b c j=>exact⟨_,_,bJ w ⟨d,o,p⟩ n g (by simp),bJ W ⟨R',o,p⟩ n i (by simp),.mapIter a b c j⟩|loop j=>exact⟨_,_,bJ w ⟨d,o,p⟩ n g (by simp),bJ W ⟨R',o,p⟩ n i (by simp),.loop j⟩|deferred=>exact⟨_,_,bJ w ⟨d,o,p⟩ n g (by simp),bJ W ⟨R',o,p⟩ n i (by simp),.deferred⟩|eB=>exact⟨_,_,bJ w ⟨d,o,p⟩ n g (by simp),bJ W ⟨R',o,p⟩ n i (by simp),.eB⟩|number b j=>exact⟨_,_,bJ w ⟨d,o,p⟩ n g (by simp),bJ W ⟨R',o,p⟩ n i (by simp),.number b j⟩|view t j=>exact⟨_,_,bJ w ⟨d,o,p⟩ n g (by simp),bJ W ⟨R',o,p⟩ n i (by simp),.view t j⟩);have l:R'≠s:=λl=>e (by subst l;exact h.inj _ _ _ y x);exact⟨ob,E,by rw[gM _ _ _ _ e];exact g,by rw[gM _ _ _ _ l];exact i,k⟩;obtain⟨c,e,f,g,i,k⟩:=h.vt d R' y z;by_cases v:d=r;subst v;obtain⟨q,u,_⟩:=zQ i k o n;exact⟨c,e,_,mE w ⟨d,o,p⟩ n m g,q,u⟩;exact⟨c,e,f,by rw[gM _ _ _ _ v];exact g,i,k⟩
def bw.ext(h:bw S Pr π w W):Ren G where
 rel:=λr R=>π r R\/(r=w.heap.size/\R=W.heap.size)
 fn:=by
  rintro r R R' (x|⟨e1,a⟩) (y|⟨b,c⟩)
  ·exact h.fn _ _ _ x y
  ·have:=(h.lt x).1;omega
  ·have:=(h.lt y).1;omega
  ·omega
 inj:=by
  rintro r d R (x|⟨e1,a⟩) (y|⟨b,c⟩)
  ·exact h.inj _ _ _ x y
  ·have:=(h.lt x).2;omega
  ·have:=(h.lt y).2;omega
  ·omega
 dF:=by
  rintro r R (x|⟨rfl,rfl⟩)
  ·exact π.dF _ _ x
  ·have:=h.gw;have:=h.gW;omega
def bw.new(h:bw S Pr π w W){o O}(i:fG S π o O):bw S Pr h.ext {w with heap:=w.heap.push o} {W with heap:=W.heap.push O}:=by have l:Ren.le π h.ext:=λ_ _ x=>.inl x;refine⟨?_,?_,λR z=>by simp;have:=h.wI R z;omega,by simp;have:=h.gw;omega,by simp;have:=h.gW;omega,by obtain⟨c,e,f,g⟩:=h.w0;have:=(Uk.1 g).1;exact⟨c,e,f,by simp only[U6];rw[Uc (by omega)];exact g⟩⟩;rintro r R (x|⟨rfl,rfl⟩);obtain⟨a,A,b,d,j⟩:=h.obj r R x;have:=h.lt x;exact⟨a,A,by simp only[U6];rw[Uc (by omega)];exact b,by simp only[U6];rw[Uc (by omega)];exact d,j.mono l⟩;exact⟨o,O,by simp,by simp,i.mono l⟩;rintro r R (x|⟨e1,k⟩) z;obtain⟨c,e,f,b,d⟩:=h.vt r R x z;have:=h.lt x;exact⟨c,e,f,by simp only[U6];rw[Uc (by omega)];exact b,d⟩;have:=h.wI R z;omega
def bw.setObj(h:bw S Pr π w W){r R}(x:π r R){o O}(n:fG S π o O)(b:∀c e f,w.heap[r]? ≠some (.cells c e f)):bw S Pr π {w with heap:=w.heap.setIfInBounds r o} {W with heap:=W.heap.setIfInBounds R O}:=by have k:=h.lt x;refine⟨λd R' y=>?_,λd R' y z=>?_,λR z=>by simpa using h.wI R z,by simpa using h.gw,by simpa using h.gW,by obtain⟨p,e0,q,l⟩:=h.w0;refine⟨p,e0,q,?_⟩;rw[Ur (λe=>by subst e;exact b _ _ _ l)];exact l⟩;by_cases e:d=r;subst e;have g:=h.fn _ _ _ y x;subst g;exact⟨o,O,by simp[k.1],by simp[k.2],n⟩;obtain⟨a,A,i,j,s⟩:=h.obj d R' y;have g:R'≠R:=λg=>e (by subst g;exact h.inj _ _ _ y x);exact⟨a,A,by rw[Ur (Ux e)];exact i,by rw[Ur (Ux g)];exact j,s⟩;obtain⟨c,e,f,i,j⟩:=h.vt d R' y z;by_cases m:d=r;subst m;exact absurd i (b _ _ _);exact⟨c,e,f,by rw[Ur (Ux m)];exact i,j⟩
def aA.Pc{v V}(h:aA π v V)(b:(∀c,v≠ .agg c)/\(∀c,v≠ .tuple c)):(∀c,V≠ .agg c)/\(∀c,V≠ .tuple c):=by cases h with|my V a=>exact absurd rfl (b.2 _)|_=>simp_all
def bw.setCells(h:bw S Pr π w W){r R}(x:π r R){c c' C k e f F}(l:w.heap[r]? =some (.cells c e f))(n:W.heap[R]? =some (.cells C e F)) (p:VsR π c' k) (I:c'.size=c.size) (q:JI c'.size f F):bw S Pr π {w with heap:=w.heap.setIfInBounds r (.cells c' e f)} {W with heap:=W.heap.setIfInBounds R (.cells k e F)}:=by have j:=h.lt x;refine⟨λd R' y=>?_,λd R' y z=>?_,λR z=>by simpa using h.wI R z,by simpa using h.gw,by simpa using h.gW,by obtain⟨s,e0,t,u⟩:=h.w0;by_cases g:r=0;subst g;exact⟨c',e,f,by simp[j.1]⟩;exact⟨s,e0,t,by rw[Ur g];exact u⟩⟩;by_cases b:d=r;subst b;have i:=h.fn _ _ _ y x;subst i;exact⟨.cells c' e f,.cells k e F,by simp[j.1],by simp[j.2],.cells e p q⟩;obtain⟨a,A,l,n,v⟩:=h.obj d R' y;have i:R'≠R:=λi=>b (by subst i;exact h.inj _ _ _ y x);exact⟨a,A,by rw[Ur (Ux b)];exact l,by rw[Ur (Ux i)];exact n,v⟩;obtain⟨B,D,E,m,o,H⟩:=h.vt d R' y z;by_cases b:d=r;subst b;rw[l]at m;cases m;exact⟨c',e,f,by simp[j.1],o,by omega⟩;exact⟨B,D,E,by rw[Ur (Ux b)];exact m,o,H⟩
def bw.farLoad{P fs}(h:bw S Pr π w W){a A}(x:aS π a A){v t}(b:w.farLoad (ah P fs) a false=.ok (v,t)):∃T,W.cell? A=none/\W.farLoad P A false=.ok (v,T)/\aA π v v/\∀X∈T,∃r,π r X.block:=by
 have g:=x;cases x with
 | @mk r s o p x=>
  obtain⟨ob,z,i,j,k⟩:=h.obj _ _ x;unfold World.farLoad World.cell? at*;simp only[i]at b;simp only[j];cases k with
  | @view c f u d=>simp only[]at b⊢;cases e:w.viewLoad (ah P fs) c u ⟨r,o,p⟩ false with|error _=>rw[e]at b;cases b|ok y=>obtain⟨B,C⟩:=y;rw[e]at b;cases b;obtain⟨T,l,m,n⟩:=A9 h.obj d g u e;rw[l];exact⟨T,trivial,rfl,m,λX q=>by cases d with|mk d=>exact⟨_,by rw[n X q];exact d⟩⟩
  |_=>cases b
def bw.farStore{P fs}(h:bw S Pr π w W){a A}(x:aS π a A){v V}(Z:aA π v V){w' t}(d:w.farStore (ah P fs) a v false=.ok (w',t)):∃D T,W.cell? A=none/\W.farStore P A V false=.ok (D,T)/\bw S Pr π w' D/\Chg Pr π W D π/\∀X∈T,(∃r,π r X.block)/\¬Pr X.block:=by
 have hx:=x;cases x with
 | @mk r s o p x=>
  obtain⟨ob,OB,h1,h2,h3⟩:=h.obj _ _ x;unfold World.farStore World.cell? at*;simp only[h1]at d;simp only[h2];cases h3 with
  | @view j N u O=>simp only[]at d⊢;cases E:w.viewStore (ah P fs) j u ⟨r,o,p⟩ v false with|error _=>rw[E]at d;cases d|ok y=>rw[E]at d;cases d;obtain⟨c,e,f,C,F,c',C',T,Q,rfl,H,n,q5,q6,q7,q8,q9,I,k⟩:=yP h.obj O hx u Z E;cases O with| @mk b B o' p' i=>(simp only[]at Q H n k⊢;rw[Q];have R:∀X∈T,¬Pr B:=λX z hp=>by obtain⟨cc,ee,ff,U,g2,g3⟩:=h.vt _ _ i hp;rw[H]at U;cases U;exact q9 (Xq z) ⟨g2,g3⟩);refine⟨_,T,trivial,rfl,h.setCells i H n q6 q7 q8,⟨rfl,rfl,rfl,by simp,λb l hh=>Ur ?_,λJ l Y e0 K g=>?_,λJ Y e0 K g=>?_,λ_ _ h=>.inl h,λ_ p q=>absurd q (by simp;omega),λ_ _ h=>h⟩,λX z=>by rw[k X z];exact⟨⟨_,i⟩,R X z⟩⟩;rintro rfl;exact hh ⟨_,i⟩;by_cases m:J=B;subst m;(have L:T=[]:=by cases M:T with|nil=>rfl|cons X T'=>exact absurd l (R X (by rw[M];exact .head _)));rw[I L];rw[n]at g;cases g;exact⟨F,by simp[(h.lt i).2]⟩;exact⟨K,by rw[Ur (Ux m)];exact g⟩;by_cases m:J=B;subst m;rw[n]at g;cases g;exact⟨C',F,by simp[(h.lt i).2],.refl _⟩;exact⟨Y,K,by rw[Ur (Ux m)];exact g,.refl _⟩
  |_=>cases d
def pR(w τ d a n):(av w τ d).freeze a n=av (w.freeze a n) τ d:=by unfold World.freeze av;split<;>rfl
def Dp(π:Ren G)(w:World):Prop:=∀(r R:Nat) (o:Option (List Deferred)),π r R->w.heap[r]? =some (Obj.deferred o)->o=none\/o=some []
def bw.dp(h:bw S Pr π w W){w'}(k:nW w w'):Dp π w':=by intro r R o a b;obtain⟨x,X,c,_,d⟩:=h.obj r R a;have:=k _ _ c;rw[b]at this;cases this;cases d;exact .inr rfl;exact .inl rfl
def Dp.mono{a}(l:Ren.le π a){w}(h:Dp a w):Dp π w:=λr R o b c=>h r R o (l _ _ b) c
def dM(S:Kn)(Pr:Nat->Prop)(P:Program)(fs:Array Func){j k}(Q:Ren G->j->k->Prop)(π:Ren G)(s:Sem j)(s':Sem k)(w W:World)(es l:Array Event)(d:Nat):Prop:=
 ∃L:List (Question->Nat),(∀g∈L,S.fS g)/\((∀τ,Fits τ d L->∃h w' f,s.runT (ah P fs) (av w τ d) es=(.halt h w',f)/\gH h/\Dp π w')\/
  ∃a w' f b i ev c,(∀τ,Fits τ d L->s.runT (ah P fs) (av w τ d) es=(.ok a (av w' τ (d+L.length)),f))/\s'.runT P W l=(.ok b i,l++ev)/\Q c a b/\bw S Pr c w' i/\Chg Pr π W i c/\∀e∈ev,lu Pr c e)
def ia{τ d l m}(h:Fits τ d (l++m)):Fits τ d l/\Fits τ (d+l.length) m:=by refine⟨λi g hi=>h i g ?_,λi g hi=>?_⟩;have:=(Vl.1 hi).1;rw[Wa this];exact hi;have:=h (l.length+i) g (by rw[Xw (by omega)];simpa using hi);rw[show d+l.length+i=d+(l.length+i) by omega];exact this
def ic{a L:List (Question->Nat)}(b:∀g∈a,S.fS g)(c:∀g∈L,S.fS g):∀g∈a++L,S.fS g:=λg d=>(Vx.1 d).elim (b g) (c g)
def dM.lift{P:Program}{fs:Array Func}{u v:Type}{Q:Ren G->u->v->Prop}{π f:Ren G}{s k:Sem u}{s' K:Sem v}{w j W W₁:World}{es i n ev₀:Array Event}{d:Nat}(c:List (Question->Nat)) (h:dM S Pr P fs Q f k K j W₁ i (n++ev₀) (d+c.length)) (y:∀τ,Fits τ d c->s.runT (ah P fs) (av w τ d) es=k.runT (ah P fs) (av j τ (d+c.length)) i) (D:s'.runT P W n=K.runT P W₁ (n++ev₀)) (z:Chg Pr π W W₁ f) (E:∀e∈ev₀,lu Pr f e) (A:∀g∈c,S.fS g:=by simp):dM S Pr P fs Q π s s' w W es n d:=by obtain⟨L,B,h|⟨a,w',l,b,F,ev,o,p,q,r,H,C,I⟩⟩:=h;refine⟨c++L,ic A B,.inl λτ m=>?_⟩;have:=ia m;rw[y τ this.1];obtain⟨x,w',l,p,q,r⟩:=h τ this.2;exact⟨x,w',l,p,q,r.mono z.le⟩;refine⟨c++L,ic A B,.inr ⟨a,w',l,b,F,ev₀++ev,o,λτ m=>?_,?_,r,H,z.trans C,λe t=>?_⟩⟩;have:=ia m;rw[y τ this.1,p τ this.2,Uw,Wb];rw[D,q,Vo];obtain x|x:=Vf.1 t;exact(E e x).mono C.le;exact I e x
def dM.none{P fs b c Q}{π:Ren G}{s:Sem b}{s':Sem c}{w W es e d} (f:bw S Pr π w W) (h:∀τ,∃x w' a,s.runT (ah P fs) (av w τ d) es=(.halt x w',a)/\gH x/\nW w w'):dM S Pr P fs Q π s s' w W es e d:=⟨[],by simp,.inl λτ _=>by obtain⟨x,w',a,g,i,j⟩:=h τ;exact⟨x,w',a,g,i,f.dp j⟩⟩
def bw.Dx{P fs}(h:bw S Pr π w W){a A}(x:aS π a A){e m}(b:w.farLoad (ah P fs) a m=.error e):gH e:=by cases x with| @mk r s o p x=>obtain⟨ob,f,c,g,d⟩:=h.obj _ _ x;unfold World.farLoad World.noCell at b;simp only[c]at b;cases d with|view=>simp only[]at b;split at b;cases b;cases b;exact True.intro|_=>cases b;exact True.intro
def bw.Bm{P fs}(h:bw S Pr π w W){a A}(x:aS π a A){v e m}(b:w.farStore (ah P fs) a v m=.error e):gH e:=by cases x with| @mk r s o p x=>obtain⟨ob,f,c,g,d⟩:=h.obj _ _ x;unfold World.farStore World.noCell at b;simp only[c]at b;cases d with|view=>simp only[]at b;split at b;cases b;cases b;exact True.intro|_=>cases b;exact True.intro
def Chg.heap{W₁}(h:W₁.heap=W.heap)(e:W₁.os=W.os)(f:W₁.tape=W.tape)(g:W₁.output=W.output):Chg Pr π W W₁ π:=by refine⟨e,f,g,by rw[h];exact Ue _,λ_ _ _=>by rw[h],λ_ _ _ _ F d=>⟨F,by rw[h];exact d⟩,λ_ c _ F d=>⟨c,F,by rw[h];exact d,.refl _⟩,λ_ _ h=>.inl h,λ_ a b=>absurd b (by rw[h];omega),λ_ _ h=>h⟩
def bw.heap{a W₁}(h:bw S Pr π w W)(e:a.heap=w.heap)(E:W₁.heap=W.heap):bw S Pr π a W₁:=⟨by rw[e,E];exact h.obj,by rw[e];exact h.vt,by rw[E];exact h.wI,by rw[e];exact h.gw,by rw[E];exact h.gW,by rw[e];exact h.w0⟩
def iR(P:Program){d:Type}(a:Addr)(v:Value)(k:Sem d)(w:World)(es:Array Event)(e:∀c,v≠ .agg c)(f:∀c,v≠ .tuple c):(Sem.store .plain a v k).runT P w es=match w.cell? a with
  |some _=>if w.frozen? a then(.halt (.unsupported (.unsafePointer "a write to bytes that a string shares")) w,es)else k.runT P (w.setCell a v) (es.push ⟨.cell a,true,false⟩)
  |none=>match w.farStore P a v false with
   | .ok (w,b)=>k.runT P w (es++b.toArray.map (⟨.cell ·,true,false⟩))
   | .error h=>(.halt h w,es):=by
 cases v<;>first|rfl|exact absurd rfl (e _)|exact absurd rfl (f _)
def SR.run{fs P α β Q}{s:Sem α}{s':Sem β}(h:SR S (ah P fs) P Q π s s'):∀(w W) (es j) (d),bw S Pr π w W->dM S Pr P fs Q π s s' w W es j d:=by
 induction h with
 | @pure π a b q=>intro w W es j d g;exact⟨[],by simp,.inr ⟨a,w,es,b,W,#[],π,λτ _=>rfl,by simp[Sem.runT],q,g,Chg.refl _ _ _,by simp⟩⟩
 | @load π a A k K x _ i=>
  intro w W es j d g;cases Z:w.cell? a with
  |none=>
   cases D:w.farLoad (ah P fs) a false with
   |error e=>(refine .none g λτ=>⟨e,av w τ d,es,?_,g.Dx x D,.refl _⟩);simp only[Sem.runT];rw[show(av w τ d).cell? a=none from Z,show(av w τ d).farLoad (ah P fs) a (Mode.plain==Mode.atomic)=.error e from D]
   |ok y=>obtain⟨v,t⟩:=y;obtain⟨T,E,J,I,g4⟩:=g.farLoad x D;refine dM.lift [] (i v v I w W (es++t.toArray.map (⟨.cell ·,false,false⟩)) (j++T.toArray.map (⟨.cell ·,false,false⟩)) d g) ?_ ?_ (Chg.refl _ _ _) ?_;intro τ _;simp only[Sem.runT];rw[show(av w τ d).cell? a=none from Z,show(av w τ d).farLoad (ah P fs) a (Mode.plain==Mode.atomic)=.ok (v,t)from D];rfl;simp only[Sem.runT,E];rw[show(Mode.plain==Mode.atomic)=false from rfl,J];intro e z;obtain⟨X,hX,rfl⟩:=W7.1 z;obtain⟨r,hr⟩:=g4 X (by simpa using hX);exact⟨rfl,⟨r,hr⟩,by simp⟩
  |some v=>obtain⟨V,hV,an⟩:=g.cell x Z;refine dM.lift (ev₀:=#[⟨.cell A,false,false⟩]) [] (i v V an w W (es.push ⟨.cell a,false,Mode.plain==Mode.atomic⟩) _ d g) ?_ ?_ (Chg.refl _ _ _) ?_;intro τ _;simp only[Sem.runT];rw[show(av w τ d).cell? a=some v from Z];rfl;simp only[Sem.runT,hV];rw[show(Mode.plain==Mode.atomic)=false from rfl,Wq];intro e z;simp at z;subst z;cases x with| @mk r s o p x=>exact⟨rfl,⟨r,x⟩,by simp⟩
 | @store π a A v V k K x Z _ i=>
  intro w W es j d g;by_cases l:(∀c,v≠ .agg c)/\(∀c,v≠ .tuple c);case neg=>(refine .none g λτ=>⟨.stuck "store: not the value of one cell",av w τ d,es,?_,True.intro,.refl _⟩);cases v<;>first|rfl|exact absurd ⟨by simp,by simp⟩ l
  have L:=Z.Pc l;cases hc:w.cell? a with
  |none=>
   cases D:w.farStore (ah P fs) a v false with
   |error e=>(refine .none g λτ=>⟨e,av w τ d,es,?_,g.Bm x D,.refl _⟩);rw[iR _ _ _ _ _ _ l.1 l.2,show(av w τ d).cell? a=none from hc,gq,D];rfl
   |ok y=>obtain⟨w1,t⟩:=y;obtain⟨W1,T,E,J,I,g4,g5⟩:=g.farStore x Z D;refine dM.lift [] (i w1 W1 (es++t.toArray.map (⟨.cell ·,true,false⟩)) (j++T.toArray.map (⟨.cell ·,true,false⟩)) d I) ?_ ?_ g4 ?_;intro τ _;rw[iR _ _ _ _ _ _ l.1 l.2,show(av w τ d).cell? a=none from hc,gq,D];rfl;rw[iR _ _ _ _ _ _ L.1 L.2,E,J];intro e z;obtain⟨X,hX,rfl⟩:=W7.1 z;obtain⟨⟨r,hr⟩,hp⟩:=g5 X (by simpa using hX);exact⟨rfl,⟨r,hr⟩,λ_=>hp⟩
  |some aa=>obtain⟨ax,af,_⟩:=g.cell x hc;by_cases M:w.frozen? a=true;(refine .none g λτ=>⟨.unsupported (.unsafePointer "a write to bytes that a string shares"),av w τ d,es,?_,True.intro,.refl _⟩);rw[iR _ _ _ _ _ _ l.1 l.2,show(av w τ d).cell? a=some aa from hc];simp only[];rw[Ud (show(av w τ d).frozen? a=true from M)];have ao:¬W.frozen? A=true:=λh=>M (g.frozen x h);(have N:¬Pr A.block:=by intro hp;cases x with| @mk r s o p x=>obtain⟨c,e,f,E,J,I⟩:=g.vt _ _ x hp;apply M;have g4:=hc;simp only[World.cell?,World.frozen?,E]at g4⊢;cases p with|some p=>simp at g4|none=>simp only[Option.isSome_none,Uz,Uy]at g4;have:=(Uk.1 g4).1;simp only[Un,Uu];omega);refine dM.lift (ev₀:=#[⟨.cell A,true,false⟩]) [] (i (w.setCell a v) (W.setCell A V) (es.push ⟨.cell a,true,false⟩) _ d (g.setCell x Z)) ?_ ?_ ?_ ?_;intro τ _;rw[iR _ _ _ _ _ _ l.1 l.2,show(av w τ d).cell? a=some aa from hc];simp only[];rw[Uc (show ¬(av w τ d).frozen? a=true from M)];rfl;rw[iR _ _ _ _ _ _ L.1 L.2,af];simp only[];rw[Uc ao,Wq];refine⟨rfl,rfl,rfl,by rw[fJ];exact Ue _,λb U hh=>dS _ _ _ _ ?_,λb U c e F B=>⟨F,?_⟩,λb c e F B=>hZ B,λ_ _ h=>.inl h,λ_ p q=>absurd q (by rw[fJ];omega),λ_ _ h=>h⟩;rintro rfl;(cases x with| @mk r s o p x=>exact hh ⟨r,x⟩);rw[dS _ _ _ _ (by rintro rfl;exact N U)];exact B;intro e z;simp at z;subst z;cases x with| @mk r s o p x=>exact⟨rfl,⟨r,x⟩,λ_=>N⟩
 | @new π o O k K ho _ i=>(intro w W es j d g;refine dM.lift (ev₀:=#[]) [] (i g.ext w.heap.size W.heap.size (λ_ _ x=>.inl x) (.inr ⟨rfl,rfl⟩) {w with heap:=w.heap.push o} {W with heap:=W.heap.push O} es _ d (g.new ho)) (λ_ _=>rfl) (by simp[Sem.runT]) ?_ (by simp);have ab:∀(b:Nat) o,W.heap[b]? =some o->(W.heap.push O)[b]? =some o:=λb o h=>by have:=(Uk.1 h).1;rw[U6];rw[Uc (by omega)];exact h);refine⟨rfl,rfl,rfl,by simp,λb U _=>by simp only[U6];rw[Uc (by omega)],λb U c e F B=>⟨F,ab _ _ B⟩,λb c e F B=>⟨c,F,ab _ _ B,.refl _⟩,?_,?_,λ_ _ h=>.inl h⟩;rintro r R (x|⟨_,rfl⟩);exact .inl x;exact .inr (Ue _);intro R p q;simp at q;exact⟨w.heap.size,.inr ⟨rfl,by omega⟩⟩
 | @shape π r R k K x _ i=>intro w W es j d g;refine dM.lift (ev₀:=#[]) [] (i (w.shape? r) w W es _ d g) (λ_ _=>rfl) ?_ (Chg.refl _ _ _) (by simp);simp only[Sem.runT];rw[g.shape x,W8]
 | @freeze π a A n k K x _ i=>intro w W es j d g;refine dM.lift (ev₀:=#[]) [] (i _ _ es _ d (g.freeze x n)) ?_ (by simp[Sem.runT]) ?_ (by simp);intro τ _;simp only[Sem.runT];rw[pR];rfl;(have D:∀(w:World) a,(w.freeze a n).os=w.os/\(w.freeze a n).tape=w.tape/\(w.freeze a n).output=w.output:=by intro w a;unfold World.freeze;split<;>exact⟨rfl,rfl,rfl⟩);refine⟨(D W A).1,(D W A).2.1,(D W A).2.2,by rw[jx];exact Ue _,λb U hh=>gM _ _ _ _ ?_,λb _ c e F B=>?_,λb c e F B=>wS B,λ_ _ h=>.inl h,λ_ p q=>absurd q (by rw[jx];omega),λ_ _ h=>h⟩;rintro rfl;(cases x with| @mk r s o p x=>exact hh ⟨r,x⟩);by_cases hn:n=0;subst hn;exact⟨F,by simpa[World.freeze]using B⟩;by_cases U:b=A.block;subst U;exact⟨_,mE W A n hn B⟩;exact⟨F,by rw[gM _ _ _ _ U];exact B⟩
 | @frozen π a A k K x _ i=>intro w W es j d g;exact dM.lift (ev₀:=#[]) [] (i _ _ (g.frozen x) w W es _ d g) (λ_ _=>rfl) (by simp[Sem.runT]) (Chg.refl _ _ _) (by simp)
 | @getObj π r R k K x _ i=>intro w W es j d g;obtain⟨o,O,E,J,I⟩:=g.obj _ _ x;by_cases u:∃c e f,o=.cells c e f;obtain⟨c,e,f,rfl⟩:=u;(refine .none g λτ=>⟨.stuck "getObj: a row of cells",av w τ d,es,?_,True.intro,.refl _⟩);simp only[Sem.runT,show(av w τ d).heap[r]? =some (.cells c e f)from E];(have ag:∀c e f,o≠ .cells c e f:=λc e f h=>u ⟨c,e,f,h⟩;have hch:O.isChan=false:=by cases I<;>rfl);(have ar:∀c e f,O≠ .cells c e f:=by rintro c e f rfl;cases I;exact ag _ _ _ rfl);refine dM.lift (ev₀:=#[⟨.obj R,false,false⟩]) [] (i o O I w W (es.push ⟨.obj r,false,o.isChan⟩) _ d g) ?_ ?_ (Chg.refl _ _ _) ?_;intro τ _;(cases o<;>simp only[Sem.runT,show(av w τ d).heap[r]? =_ from E]<;>first|rfl|exact absurd rfl (ag _ _ _));(have:(Sem.getObj R K).runT P W j=(K O).runT P W (j.push ⟨.obj R,false,O.isChan⟩):=by cases O<;>simp only[Sem.runT,J]<;>exact absurd rfl (ar _ _ _));rw[this,hch,Wq];intro e z;simp at z;subst z;exact⟨rfl,⟨r,x⟩,by simp⟩
 | @setObj π r R o O k K x ag ho _ i=>
  intro w W es j d g;obtain⟨H,ad,E,J,I⟩:=g.obj _ _ x;by_cases u:∃c e f,H=.cells c e f;obtain⟨c,e,f,rfl⟩:=u;refine .none g λτ=>⟨.stuck "setObj: a row of cells",av w τ d,es,?_,True.intro,.refl _⟩
  simp only[Sem.runT,show(av w τ d).heap[r]? =some (.cells c e f)from E];have m:∀c e f,H≠ .cells c e f:=λc e f h=>u ⟨c,e,f,h⟩;have hch:O.isChan=false:=by cases ho<;>rfl
  have C:∀c e f,ad≠ .cells c e f:=by rintro c e f rfl;cases I;exact m _ _ _ rfl
  have N:¬Pr R:=λhp=>by obtain⟨c,e,f,q1,_⟩:=g.vt _ _ x hp;rw[E]at q1;exact m _ _ _ (UA q1)
  refine dM.lift (ev₀:=#[⟨.obj R,true,false⟩]) [] (i {w with heap:=w.heap.setIfInBounds r o} {W with heap:=W.heap.setIfInBounds R O} (es.push ⟨.obj r,true,o.isChan⟩) _ d
   (g.setObj x ho (λc e f h=>m c e f (UA (E.symm.trans h))))) ?_ ?_ ?_ ?_
  intro τ _;cases H<;>simp only[Sem.runT,show(av w τ d).heap[r]? =_ from E]<;>first|rfl|exact absurd rfl (m _ _ _)
  have:(Sem.setObj R O K).runT P W j=K.runT P {W with heap:=W.heap.setIfInBounds R O} (j.push ⟨.obj R,true,O.isChan⟩):=by cases ad<;>simp only[Sem.runT,J]<;>exact absurd rfl (C _ _ _)
  rw[this,hch,Wq];have l:∀(b:Nat) c e F,W.heap[b]? =some (Obj.cells c e F)->(W.heap.setIfInBounds R O)[b]? =some (Obj.cells c e F):=λb c e F B=>by rw[Ur];exact B;rintro rfl;rw[J]at B;exact C _ _ _ (UA B)
  refine⟨rfl,rfl,rfl,by simp,λb U hh=>Ur ?_,λb _ c e F B=>⟨F,l _ _ _ _ B⟩,λb c e F B=>⟨c,F,l _ _ _ _ B,.refl _⟩,λ_ _ h=>.inl h,λ_ p q=>absurd q (by simp;omega),λ_ _ h=>h⟩;rintro rfl;exact hh ⟨r,x⟩;intro e z;simp at z;subst z;exact⟨rfl,⟨r,x⟩,λ_=>N⟩
 | @choose π q k K fq _ i=>intro w W es j d g;by_cases Y:q.forced=true;refine dM.lift (ev₀:=#[]) [] (i 0 w W es _ d g) ?_ ?_ (Chg.refl _ _ _) (by simp);intro τ _;simp only[Sem.runT];rw[Ud Y];rfl;simp only[Sem.runT];rw[Ud Y,W8];refine dM.lift (ev₀:=#[]) [only q (W.tape W.drawn q)] (i (q.cut (W.tape W.drawn q)) w {W with drawn:=W.drawn+1} es _ (d+1) (g.heap rfl rfl)) ?_ ?_ (Chg.heap rfl rfl rfl rfl) (by simp) (by simpa using zE fq _);intro τ ak;simp only[Sem.runT];rw[Uc Y,show(av w τ d).tape (av w τ d).drawn q=W.tape W.drawn q from(congrFun ak.head q).trans (tt _ _)];rfl;simp only[Sem.runT];rw[Uc Y,W8]
 | @program π k K _ i=>intro w W es j d g;exact dM.lift (ev₀:=#[]) [] (i w W es _ d g) (λ_ _=>rfl) (by simp[Sem.runT]) (Chg.refl _ _ _) (by simp)
 | @kF π k s' _ i=>intro w W es j d g;exact dM.lift (ev₀:=#[]) [] (i w W es _ d g) (λ_ _=>rfl) (by simp) (Chg.refl _ _ _) (by simp)
 | @extern π f k K _ i=>intro w W es j d g;refine dM.lift (ev₀:=#[⟨.mark (.extern f),false,true⟩]) [] (i w W (es.push ⟨.mark (.extern f),false,true⟩) _ d g) (λ_ _=>rfl) (by simp[Sem.runT,Wq]) (Chg.refl _ _ _) ?_;intro e z;simp at z;subst z;trivial
 | @noRoom π k K _ i=>intro w W es j d g;refine dM.lift (ev₀:=#[⟨.mark .noRoom,false,true⟩]) [] (i w W (es.push ⟨.mark .noRoom,false,true⟩) _ d g) (λ_ _=>rfl) (by simp[Sem.runT,Wq]) (Chg.refl _ _ _) ?_;intro e z;simp at z;subst z;trivial
 | @m6 π q k s' n t fq e _ i=>intro w W es j d g;by_cases Y:q.forced=true;rw[Ud Y]at e;subst e;refine dM.lift (ev₀:=#[]) [] (i w W es _ d g) ?_ (by simp) (Chg.refl _ _ _) (by simp);intro τ _;simp only[Sem.runT];rw[Ud Y];rfl;rw[Uc Y]at e;subst e;refine dM.lift (ev₀:=#[]) [only q t] (i w W es _ (d+1) g) ?_ (by simp) (Chg.refl _ _ _) (by simp) (by simpa using zE fq _);intro τ ak;simp only[Sem.runT];rw[Uc Y,show(av w τ d).tape (av w τ d).drawn q=t from(congrFun ak.head q).trans (tt _ _)];rfl
 | @tu π s r K _ i=>intro w W es j d g;exact i (W.shape? r) w W es j d g
 | @tv π k s' _ i=>intro w W es j d g;obtain⟨c,e,f,h0⟩:=g.w0;refine dM.lift (ev₀:=#[]) [] (i (e,c.size) w W es _ d g) (λτ _=>?_) (by simp) (Chg.refl _ _ _) (by simp);simp only[Sem.runT];rw[show(av w τ d).shape? 0=some (e,c.size) by simp only[World.shape?,av,h0]];rfl
 | @pk π s a K _ i=>intro w W es j d g;exact i (W.frozen? a) w W es j d g
 |never n=>intro w W es j d g;exact .none g λτ=>n _ _ _
end Go.Tm

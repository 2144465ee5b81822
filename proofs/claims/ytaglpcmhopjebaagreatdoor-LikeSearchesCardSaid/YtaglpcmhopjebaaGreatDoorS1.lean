import Derived.Laws.Sem
import Derived.Test.YtaglpcmhopjebaaGreatDoorS0
set_option linter.all false
set_option maxRecDepth 100000
set_option maxHeartbeats 20000000
namespace Go.Tm
variable {G:Nat} {S:Kn} {Pr:Nat->Prop} {π:Ren G} {w W:World}
def bq.fn(_h:bq S Pr π w W):∀r R R',π r R->π r R'->R=R':=π.fn
def bq.inj(_h:bq S Pr π w W):∀r r' R,π r R->π r' R->r=r':=π.inj
def bq.lt(h:bq S Pr π w W){r R}(x:π r R):r<w.heap.size/\R<W.heap.size:=by obtain⟨o,O,a,b,_⟩:=h.obj r R x;exact⟨(TC.1 a).1,(TC.1 b).1⟩
def bq.cell(h:bq S Pr π w W){a A}(x:aR π a A){v}(b:w.cell? a=some v):∃V,W.cell? A=some V/\az π v V:=by
 cases x with
 | @mk r s o p x=>
  obtain⟨ob,l,g,i,j⟩:=h.obj _ _ x;simp only[World.cell?,g]at b;cases j with
  | @cells c C e f F k m=>simp only[World.cell?,i];cases p with|some p=>simp at b|none=>simp only[Option.isSome_none,TS,TP]at b⊢;have d:=k.get o;rw[b]at d;revert d;generalize C[o]? =X;intro d;cases d with|some r=>exact⟨_,rfl,r⟩
  |_=>simp at b
def bq.frozen(h:bq S Pr π w W){a A}(x:aR π a A):W.frozen? A=true->w.frozen? a=true:=by cases x with| @mk r s o p x=>obtain⟨ob,j,b,d,g⟩:=h.obj _ _ x;simp only[World.frozen?,b,d];cases g with| @cells c C e f F k i=>obtain rfl|⟨a1,l,m⟩:=i;exact id;simp only[TH,TQ];omega|_=>exact id
def bq.shape(h:bq S Pr π w W){r R}(x:π r R):W.shape? R=w.shape? r:=by obtain⟨ob,f,a,b,c⟩:=h.obj _ _ x;simp only[World.shape?,a,b];cases c with|cells e d g=>simp[d.1]|_=>rfl
def eO{b:Type}(a:Array b)(i j f):(a.modify i f)[j]? =if i=j then a[j]?.map f else a[j]? :=Uo
def dQ(w:World)(a v b)(c:b≠a.block):(w.setCell a v).heap[b]? =w.heap[b]? :=by simp only[World.setCell,eO];rw[Tu (λh=>c h.symm)]
def fT(w:World)(a v):(w.setCell a v).heap.size=w.heap.size:=by simp[World.setCell]
def gZ{W:World}{a v}{b:Nat}{c e F}(h:W.heap[b]? =some (.cells c e F)):∃c' F',(W.setCell a v).heap[b]? =some (.cells c' e F')/\Fle F F':=by simp only[World.setCell,eO];split;rw[h];exact⟨_,F,rfl,.refl _⟩;exact⟨c,F,h,.refl _⟩
def bq.setCell(h:bq S Pr π w W){a A}(x:aR π a A){v V}(u:az π v V):bq S Pr π (w.setCell a v) (W.setCell A V):=by
 cases x with
 | @mk r s o p x=>
  refine⟨λg R' y=>?_,λg R' y z=>?_,λR z=>by rw[fT];exact h.vX R z,by rw[fT];exact h.gw,by rw[fT];exact h.gW,by obtain⟨c,e,f,B⟩:=h.w0;obtain⟨c',D,d,_⟩:=gZ (a:=⟨r,o,p⟩) (v:=v) B;exact⟨c',e,D,d⟩⟩;obtain⟨ob,E,d,i,k⟩:=h.obj g R' y;by_cases e:g=r;subst e
  have j:=h.fn _ _ _ y x;subst j;simp only[World.setCell,eO,TK,d,i,Ud];refine⟨_,_,rfl,rfl,?_⟩;cases k with
  | @cells c C e f F l m=>simp only[];cases p with|some p=>exact .cells e (by simpa using l) (by simpa using m)|none=>exact .cells e (by simpa using l.set o u) (by simpa using m)
  |map n h=>exact .map n h
  |stringIter=>exact .stringIter _ _
  |fE=>exact .fE _ _ _
  |mapIter a b c h=>exact .mapIter a b c h
  |loop h=>exact .loop h
  |deferred=>exact .deferred
  |eK=>exact .eK
  |number b h=>exact .number b h
  |view t h=>exact .view t h
  have j:R'≠s:=λj=>e (by subst j;exact h.inj _ _ _ y x);exact⟨ob,E,by rw[dQ _ _ _ _ e];exact d,by rw[dQ _ _ _ _ j];exact i,k⟩;obtain⟨c,e,f,d,i⟩:=h.ve g R' y z;by_cases q:g=r;subst q;refine⟨if p.isSome then c else c.setIfInBounds o v,e,f,?_,?_⟩;simp only[World.setCell,eO,TK,d,Ud];split<;>simpa using i;exact⟨c,e,f,by rw[dQ _ _ _ _ q];exact d,i⟩
def gO(w:World)(a n b)(c:b≠a.block):(w.freeze a n).heap[b]? =w.heap[b]? :=by simp only[World.freeze];split;rfl;simp only[eO];rw[Tu (λh=>c h.symm)]
def jy(w:World)(a n):(w.freeze a n).heap.size=w.heap.size:=by simp only[World.freeze];split<;>simp
def mD(w:World)(a n)(b:n≠0){c e f}(h:w.heap[a.block]? =some (.cells c e f)):(w.freeze a n).heap[a.block]? =some (.cells c e (grow f a.off n)):=by simp only[World.freeze,Tu b,eO,TK,h,Ud];rfl
def bE(w:World)(a n){o:Obj}(h:w.heap[a.block]? =some o)(b:∀c e f,o≠ .cells c e f):(w.freeze a n).heap[a.block]? =some o:=by simp only[World.freeze];split;exact h;simp only[eO,TK,h,Ud];cases o<;>first|rfl|exact absurd rfl (b _ _ _)
def zI{f m}(b:f.1=0)(c:m<f.2)(a n):(grow f a n).1=0/\m<(grow f a n).2/\f.2<=(grow f a n).2/\a+n<=(grow f a n).2:=by (unfold grow;have:(f.1==f.2)=false:=by simp;omega);rw[this];simp only[TS,TP];omega
def OL{F k}(a n)(h:F.2<=k)(b:a+n<=k):(grow F a n).2<=k:=by unfold grow;split<;>simp only[]<;>omega
def wI{W:World}{a}{n b:Nat}{c e F}(h:W.heap[b]? =some (.cells c e F)):∃c' F',(W.freeze a n).heap[b]? =some (.cells c' e F')/\Fle F F':=by by_cases d:n=0;subst d;exact⟨c,F,by simpa[World.freeze]using h,.refl _⟩;by_cases f:b=a.block;subst f;exact⟨c,_,mD W a n d h,LD _ _ _ d⟩;exact⟨c,F,by rw[gO _ _ _ _ f];exact h,.refl _⟩
def bq.freeze(h:bq S Pr π w W){a A}(x:aR π a A)(n):bq S Pr π (w.freeze a n) (W.freeze A n):=by by_cases m:n=0;subst m;simpa[World.freeze]using h;cases x with| @mk r s o p x=>refine⟨λd R' y=>?_,λd R' y z=>?_,λR z=>by rw[jy];exact h.vX R z,by rw[jy];exact h.gw,by rw[jy];exact h.gW,by obtain⟨c,e,f,B⟩:=h.w0;obtain⟨c',D,g,_⟩:=wI (a:=⟨r,o,p⟩) (n:=n) B;exact⟨c',e,D,g⟩⟩;obtain⟨ob,E,g,i,k⟩:=h.obj d R' y;by_cases e:d=r;subst e;(have l:=h.fn _ _ _ y x;subst l;cases k with| @cells c C e f F H I=>refine⟨_,_,mD w ⟨d,o,p⟩ n m g,mD W ⟨R',o,p⟩ n m i,.cells e H ?_⟩;obtain rfl|⟨a1,J,K⟩:=I;exact .inl rfl;obtain⟨q,u,L,M⟩:=zI a1 J o n;exact .inr ⟨q,u,OL o n (Tx K L) M⟩|map N j=>exact⟨_,_,bE w ⟨d,o,p⟩ n g (by simp),bE W ⟨R',o,p⟩ n i (by simp),.map N j⟩|stringIter=>exact⟨_,_,bE w ⟨d,o,p⟩ n g (by simp),bE W ⟨R',o,p⟩ n i (by simp),.stringIter _ _⟩|fE=>exact⟨_,_,bE w ⟨d,o,p⟩ n g (by simp),bE W ⟨R',o,p⟩ n i (by simp),.fE _ _ _⟩|mapIter a b c j=>exact⟨_,_,bE w ⟨d,o,p⟩ n g (by simp),bE W ⟨R',o,p⟩ n i (by simp),.mapIter a b c j⟩|loop j=>exact⟨_,_,bE w ⟨d,o,p⟩ n g (by simp),bE W ⟨R',o,p⟩ n i (by simp),.loop j⟩|deferred=>exact⟨_,_,bE w ⟨d,o,p⟩ n g (by simp),bE W ⟨R',o,p⟩ n i (by simp),.deferred⟩|eK=>exact⟨_,_,bE w ⟨d,o,p⟩ n g (by simp),bE W ⟨R',o,p⟩ n i (by simp),.eK⟩|number b j=>exact⟨_,_,bE w ⟨d,o,p⟩ n g (by simp),bE W ⟨R',o,p⟩ n i (by simp),.number b j⟩|view t j=>exact⟨_,_,bE w ⟨d,o,p⟩ n g (by simp),bE W ⟨R',o,p⟩ n i (by simp),.view t j⟩);have l:R'≠s:=λl=>e (by subst l;exact h.inj _ _ _ y x);exact⟨ob,E,by rw[gO _ _ _ _ e];exact g,by rw[gO _ _ _ _ l];exact i,k⟩;obtain⟨c,e,f,g,i,k⟩:=h.ve d R' y z;by_cases v:d=r;subst v;obtain⟨q,u,_⟩:=zI i k o n;exact⟨c,e,_,mD w ⟨d,o,p⟩ n m g,q,u⟩;exact⟨c,e,f,by rw[gO _ _ _ _ v];exact g,i,k⟩
def bq.ext(h:bq S Pr π w W):Ren G where
 rel:=λr R=>π r R\/(r=w.heap.size/\R=W.heap.size)
 fn:=by
  rintro r R R' (x|⟨e1,a⟩) (y|⟨b,c⟩)
  .exact h.fn _ _ _ x y
  .have:=(h.lt x).1;omega
  .have:=(h.lt y).1;omega
  .omega
 inj:=by
  rintro r d R (x|⟨e1,a⟩) (y|⟨b,c⟩)
  .exact h.inj _ _ _ x y
  .have:=(h.lt x).2;omega
  .have:=(h.lt y).2;omega
  .omega
 dB:=by
  rintro r R (x|⟨rfl,rfl⟩)
  .exact π.dB _ _ x
  .have:=h.gw;have:=h.gW;omega
def bq.new(h:bq S Pr π w W){o O}(i:fR S π o O):bq S Pr h.ext {w with heap:=w.heap.push o} {W with heap:=W.heap.push O}:=by have l:Ren.le π h.ext:=λ_ _ x=>.inl x;refine⟨?_,?_,λR z=>by simp;have:=h.vX R z;omega,by simp;have:=h.gw;omega,by simp;have:=h.gW;omega,by obtain⟨c,e,f,g⟩:=h.w0;have:=(TC.1 g).1;exact⟨c,e,f,by simp only[Un];rw[Tu (by omega)];exact g⟩⟩;rintro r R (x|⟨rfl,rfl⟩);obtain⟨a,A,b,d,j⟩:=h.obj r R x;have:=h.lt x;exact⟨a,A,by simp only[Un];rw[Tu (by omega)];exact b,by simp only[Un];rw[Tu (by omega)];exact d,j.mono l⟩;exact⟨o,O,by simp,by simp,i.mono l⟩;rintro r R (x|⟨e1,k⟩) z;obtain⟨c,e,f,b,d⟩:=h.ve r R x z;have:=h.lt x;exact⟨c,e,f,by simp only[Un];rw[Tu (by omega)];exact b,d⟩;have:=h.vX R z;omega
def bq.setObj(h:bq S Pr π w W){r R}(x:π r R){o O}(n:fR S π o O)(b:∀c e f,w.heap[r]? ≠some (.cells c e f)):bq S Pr π {w with heap:=w.heap.setIfInBounds r o} {W with heap:=W.heap.setIfInBounds R O}:=by have k:=h.lt x;refine⟨λd R' y=>?_,λd R' y z=>?_,λR z=>by simpa using h.vX R z,by simpa using h.gw,by simpa using h.gW,by obtain⟨p,e0,q,l⟩:=h.w0;refine⟨p,e0,q,?_⟩;rw[TJ (λe=>by subst e;exact b _ _ _ l)];exact l⟩;by_cases e:d=r;subst e;have g:=h.fn _ _ _ y x;subst g;exact⟨o,O,by simp[k.1],by simp[k.2],n⟩;obtain⟨a,A,i,j,s⟩:=h.obj d R' y;have g:R'≠R:=λg=>e (by subst g;exact h.inj _ _ _ y x);exact⟨a,A,by rw[TJ (TO e)];exact i,by rw[TJ (TO g)];exact j,s⟩;obtain⟨c,e,f,i,j⟩:=h.ve d R' y z;by_cases m:d=r;subst m;exact absurd i (b _ _ _);exact⟨c,e,f,by rw[TJ (TO m)];exact i,j⟩
def az.OM{v V}(h:az π v V)(b:(∀c,v≠ .agg c)/\(∀c,v≠ .tuple c)):(∀c,V≠ .agg c)/\(∀c,V≠ .tuple c):=by cases h with|mv V a=>exact absurd rfl (b.2 _)|_=>simp_all
def bq.setCells(h:bq S Pr π w W){r R}(x:π r R){c c' C k e f F}(l:w.heap[r]? =some (.cells c e f))(n:W.heap[R]? =some (.cells C e F)) (p:VsR π c' k) (I:c'.size=c.size) (q:Jg c'.size f F):bq S Pr π {w with heap:=w.heap.setIfInBounds r (.cells c' e f)} {W with heap:=W.heap.setIfInBounds R (.cells k e F)}:=by have j:=h.lt x;refine⟨λd R' y=>?_,λd R' y z=>?_,λR z=>by simpa using h.vX R z,by simpa using h.gw,by simpa using h.gW,by obtain⟨s,e0,t,u⟩:=h.w0;by_cases g:r=0;subst g;exact⟨c',e,f,by simp[j.1]⟩;exact⟨s,e0,t,by rw[TJ g];exact u⟩⟩;by_cases b:d=r;subst b;have i:=h.fn _ _ _ y x;subst i;exact⟨.cells c' e f,.cells k e F,by simp[j.1],by simp[j.2],.cells e p q⟩;obtain⟨a,A,l,n,v⟩:=h.obj d R' y;have i:R'≠R:=λi=>b (by subst i;exact h.inj _ _ _ y x);exact⟨a,A,by rw[TJ (TO b)];exact l,by rw[TJ (TO i)];exact n,v⟩;obtain⟨B,D,E,m,o,H⟩:=h.ve d R' y z;by_cases b:d=r;subst b;rw[l]at m;cases m;exact⟨c',e,f,by simp[j.1],o,by omega⟩;exact⟨B,D,E,by rw[TJ (TO b)];exact m,o,H⟩
def bq.farLoad{P fs}(h:bq S Pr π w W){a A}(x:aR π a A){v t}(b:w.farLoad (ai P fs) a false=.ok (v,t)):∃T,W.cell? A=none/\W.farLoad P A false=.ok (v,T)/\az π v v/\∀X∈T,∃r,π r X.block:=by
 have g:=x;cases x with
 | @mk r s o p x=>
  obtain⟨ob,z,i,j,k⟩:=h.obj _ _ x;unfold World.farLoad World.cell? at*;simp only[i]at b;simp only[j];cases k with
  | @view c f u d=>simp only[]at b⊢;cases e:w.viewLoad (ai P fs) c u ⟨r,o,p⟩ false with|error _=>rw[e]at b;cases b|ok y=>obtain⟨B,C⟩:=y;rw[e]at b;cases b;obtain⟨T,l,m,n⟩:=A2 h.obj d g u e;rw[l];exact⟨T,trivial,rfl,m,λX q=>by cases d with|mk d=>exact⟨_,by rw[n X q];exact d⟩⟩
  |_=>cases b
def bq.farStore{P fs}(h:bq S Pr π w W){a A}(x:aR π a A){v V}(Z:az π v V){w' t}(d:w.farStore (ai P fs) a v false=.ok (w',t)):∃D T,W.cell? A=none/\W.farStore P A V false=.ok (D,T)/\bq S Pr π w' D/\Chg Pr π W D π/\∀X∈T,(∃r,π r X.block)/\¬Pr X.block:=by
 have hx:=x;cases x with
 | @mk r s o p x=>
  obtain⟨ob,OB,h1,h2,h3⟩:=h.obj _ _ x;unfold World.farStore World.cell? at*;simp only[h1]at d;simp only[h2];cases h3 with
  | @view j N u O=>simp only[]at d⊢;cases E:w.viewStore (ai P fs) j u ⟨r,o,p⟩ v false with|error _=>rw[E]at d;cases d|ok y=>rw[E]at d;cases d;obtain⟨c,e,f,C,F,c',C',T,Q,rfl,H,n,q5,q6,q7,q8,q9,I,k⟩:=yD h.obj O hx u Z E;cases O with| @mk b B o' p' i=>(simp only[]at Q H n k⊢;rw[Q];have R:∀X∈T,¬Pr B:=λX z hp=>by obtain⟨cc,ee,ff,U,g2,g3⟩:=h.ve _ _ i hp;rw[H]at U;cases U;exact q9 (WA z) ⟨g2,g3⟩);refine⟨_,T,trivial,rfl,h.setCells i H n q6 q7 q8,⟨rfl,rfl,rfl,by simp,λb l hh=>TJ ?_,λJ l Y e0 K g=>?_,λJ Y e0 K g=>?_,λ_ _ h=>.inl h,λ_ p q=>absurd q (by simp;omega),λ_ _ h=>h⟩,λX z=>by rw[k X z];exact⟨⟨_,i⟩,R X z⟩⟩;rintro rfl;exact hh ⟨_,i⟩;by_cases m:J=B;subst m;(have L:T=[]:=by cases M:T with|nil=>rfl|cons X T'=>exact absurd l (R X (by rw[M];exact .head _)));rw[I L];rw[n]at g;cases g;exact⟨F,by simp[(h.lt i).2]⟩;exact⟨K,by rw[TJ (TO m)];exact g⟩;by_cases m:J=B;subst m;rw[n]at g;cases g;exact⟨C',F,by simp[(h.lt i).2],.refl _⟩;exact⟨Y,K,by rw[TJ (TO m)];exact g,.refl _⟩
  |_=>cases d
def pW(w τ d a n):(av w τ d).freeze a n=av (w.freeze a n) τ d:=by unfold World.freeze av;split<;>rfl
def Dp(π:Ren G)(w:World):Prop:=∀(r R:Nat) (o:Option (List Deferred)),π r R->w.heap[r]? =some (Obj.deferred o)->o=none\/o=some []
def bq.dp(h:bq S Pr π w W){w'}(k:oa w w'):Dp π w':=by intro r R o a b;obtain⟨x,X,c,_,d⟩:=h.obj r R a;have:=k _ _ c;rw[b]at this;cases this;cases d;exact .inr rfl;exact .inl rfl
def Dp.mono{a}(l:Ren.le π a){w}(h:Dp a w):Dp π w:=λr R o b c=>h r R o (l _ _ b) c
def dI(S:Kn)(Pr:Nat->Prop)(P:Program)(fs:Array Func){j k}(Q:Ren G->j->k->Prop)(π:Ren G)(s:Sem j)(s':Sem k)(w W:World)(es l:Array Event)(d:Nat):Prop:=
 ∃L:List (Question->Nat),(∀g∈L,S.gi g)/\((∀τ,Fits τ d L->∃h w' f,s.runT (ai P fs) (av w τ d) es=(.halt h w',f)/\gI h/\Dp π w')\/
  ∃a w' f b i ev c,(∀τ,Fits τ d L->s.runT (ai P fs) (av w τ d) es=(.ok a (av w' τ (d+L.length)),f))/\s'.runT P W l=(.ok b i,l++ev)/\Q c a b/\bq S Pr c w' i/\Chg Pr π W i c/\∀e∈ev,lx Pr c e)
def hU{τ d l m}(h:Fits τ d (l++m)):Fits τ d l/\Fits τ (d+l.length) m:=by refine⟨λi g a=>h i g ?_,λi g a=>?_⟩;have:=(UO.1 a).1;rw[Vl this];exact a;have:=h (l.length+i) g (by rw[WG (by omega)];simpa using a);rw[show d+l.length+i=d+(l.length+i) by omega];exact this
def hZ{a L:List (Question->Nat)}(b:∀g∈a,S.gi g)(c:∀g∈L,S.gi g):∀g∈a++L,S.gi g:=λg d=>(UU.1 d).elim (b g) (c g)
def dI.lift{P:Program}{fs:Array Func}{u v:Type}{Q:Ren G->u->v->Prop}{π f:Ren G}{s k:Sem u}{s' K:Sem v}{w j W Y1:World}{es i n ev0:Array Event}{d:Nat}(c:List (Question->Nat)) (h:dI S Pr P fs Q f k K j Y1 i (n++ev0) (d+c.length)) (y:∀τ,Fits τ d c->s.runT (ai P fs) (av w τ d) es=k.runT (ai P fs) (av j τ (d+c.length)) i) (D:s'.runT P W n=K.runT P Y1 (n++ev0)) (z:Chg Pr π W Y1 f) (E:∀e∈ev0,lx Pr f e) (A:∀g∈c,S.gi g:=by simp):dI S Pr P fs Q π s s' w W es n d:=by obtain⟨L,B,h|⟨a,w',l,b,F,ev,o,p,q,r,H,C,I⟩⟩:=h;refine⟨c++L,hZ A B,.inl λτ m=>?_⟩;have:=hU m;rw[y τ this.1];obtain⟨x,w',l,p,q,r⟩:=h τ this.2;exact⟨x,w',l,p,q,r.mono z.le⟩;refine⟨c++L,hZ A B,.inr ⟨a,w',l,b,F,ev0++ev,o,λτ m=>?_,?_,r,H,z.trans C,λe t=>?_⟩⟩;have:=hU m;rw[y τ this.1,p τ this.2,TR,Vm];rw[D,q,UA];obtain x|x:=Us.1 t;exact(E e x).mono C.le;exact I e x
def dI.none{P fs b c Q}{π:Ren G}{s:Sem b}{s':Sem c}{w W es e d} (f:bq S Pr π w W) (h:∀τ,∃x w' a,s.runT (ai P fs) (av w τ d) es=(.halt x w',a)/\gI x/\oa w w'):dI S Pr P fs Q π s s' w W es e d:=⟨[],by simp,.inl λτ _=>by obtain⟨x,w',a,g,i,j⟩:=h τ;exact⟨x,w',a,g,i,f.dp j⟩⟩
def bq.Dh{P fs}(h:bq S Pr π w W){a A}(x:aR π a A){e m}(b:w.farLoad (ai P fs) a m=.error e):gI e:=by cases x with| @mk r s o p x=>obtain⟨ob,f,c,g,d⟩:=h.obj _ _ x;unfold World.farLoad World.noCell at b;simp only[c]at b;cases d with|view=>simp only[]at b;split at b;cases b;cases b;exact True.intro|_=>cases b;exact True.intro
def bq.Be{P fs}(h:bq S Pr π w W){a A}(x:aR π a A){v e m}(b:w.farStore (ai P fs) a v m=.error e):gI e:=by cases x with| @mk r s o p x=>obtain⟨ob,f,c,g,d⟩:=h.obj _ _ x;unfold World.farStore World.noCell at b;simp only[c]at b;cases d with|view=>simp only[]at b;split at b;cases b;cases b;exact True.intro|_=>cases b;exact True.intro
def Chg.heap{Y1}(h:Y1.heap=W.heap)(e:Y1.os=W.os)(f:Y1.tape=W.tape)(g:Y1.output=W.output):Chg Pr π W Y1 π:=by refine⟨e,f,g,by rw[h];exact Tw _,λ_ _ _=>by rw[h],λ_ _ _ _ F d=>⟨F,by rw[h];exact d⟩,λ_ c _ F d=>⟨c,F,by rw[h];exact d,.refl _⟩,λ_ _ h=>.inl h,λ_ a b=>absurd b (by rw[h];omega),λ_ _ h=>h⟩
def bq.heap{a Y1}(h:bq S Pr π w W)(e:a.heap=w.heap)(E:Y1.heap=W.heap):bq S Pr π a Y1:=⟨by rw[e,E];exact h.obj,by rw[e];exact h.ve,by rw[E];exact h.vX,by rw[e];exact h.gw,by rw[E];exact h.gW,by rw[e];exact h.w0⟩
def iS(P:Program){d:Type}(a:Addr)(v:Value)(k:Sem d)(w:World)(es:Array Event)(e:∀c,v≠ .agg c)(f:∀c,v≠ .tuple c):(Sem.store .plain a v k).runT P w es=match w.cell? a with
  |some _=>if w.frozen? a then(.halt (.unsupported (.unsafePointer "a write to bytes that a string shares")) w,es)else k.runT P (w.setCell a v) (es.push ⟨.cell a,true,false⟩)
  |none=>match w.farStore P a v false with
   | .ok (w,b)=>k.runT P w (es++b.toArray.map (⟨.cell ·,true,false⟩))
   | .error h=>(.halt h w,es):=by
 cases v<;>first|rfl|exact absurd rfl (e _)|exact absurd rfl (f _)
def SR.run{fs P α β Q}{s:Sem α}{s':Sem β}(h:SR S (ai P fs) P Q π s s'):∀(w W) (es j) (d),bq S Pr π w W->dI S Pr P fs Q π s s' w W es j d:=by
 induction h with
 | @pure π a b q=>intro w W es j d g;exact⟨[],by simp,.inr ⟨a,w,es,b,W,#[],π,λτ _=>rfl,by simp[Sem.runT],q,g,Chg.refl _ _ _,by simp⟩⟩
 | @load π a A k K x _ i=>
  intro w W es j d g;cases Z:w.cell? a with
  |none=>
   cases D:w.farLoad (ai P fs) a false with
   |error e=>(refine .none g λτ=>⟨e,av w τ d,es,?_,g.Dh x D,.refl _⟩);simp only[Sem.runT];rw[show(av w τ d).cell? a=none from Z,show(av w τ d).farLoad (ai P fs) a (Mode.plain==Mode.atomic)=.error e from D]
   |ok y=>obtain⟨v,t⟩:=y;obtain⟨T,E,J,I,g4⟩:=g.farLoad x D;refine dI.lift [] (i v v I w W (es++t.toArray.map (⟨.cell ·,false,false⟩)) (j++T.toArray.map (⟨.cell ·,false,false⟩)) d g) ?_ ?_ (Chg.refl _ _ _) ?_;intro τ _;simp only[Sem.runT];rw[show(av w τ d).cell? a=none from Z,show(av w τ d).farLoad (ai P fs) a (Mode.plain==Mode.atomic)=.ok (v,t)from D];rfl;simp only[Sem.runT,E];rw[show(Mode.plain==Mode.atomic)=false from rfl,J];intro e z;obtain⟨X,hX,rfl⟩:=Wi.1 z;obtain⟨r,hr⟩:=g4 X (by simpa using hX);exact⟨rfl,⟨r,hr⟩,by simp⟩
  |some v=>obtain⟨V,hV,ak⟩:=g.cell x Z;refine dI.lift (ev0:=#[⟨.cell A,false,false⟩]) [] (i v V ak w W (es.push ⟨.cell a,false,Mode.plain==Mode.atomic⟩) _ d g) ?_ ?_ (Chg.refl _ _ _) ?_;intro τ _;simp only[Sem.runT];rw[show(av w τ d).cell? a=some v from Z];rfl;simp only[Sem.runT,hV];rw[show(Mode.plain==Mode.atomic)=false from rfl,Vx];intro e z;simp at z;subst z;cases x with| @mk r s o p x=>exact⟨rfl,⟨r,x⟩,by simp⟩
 | @store π a A v V k K x Z _ i=>
  intro w W es j d g;by_cases l:(∀c,v≠ .agg c)/\(∀c,v≠ .tuple c);case neg=>(refine .none g λτ=>⟨.stuck "store: not the value of one cell",av w τ d,es,?_,True.intro,.refl _⟩);cases v<;>first|rfl|exact absurd ⟨by simp,by simp⟩ l
  have L:=Z.OM l;cases hc:w.cell? a with
  |none=>
   cases D:w.farStore (ai P fs) a v false with
   |error e=>(refine .none g λτ=>⟨e,av w τ d,es,?_,g.Be x D,.refl _⟩);rw[iS _ _ _ _ _ _ l.1 l.2,show(av w τ d).cell? a=none from hc,gy,D];rfl
   |ok y=>obtain⟨w1,t⟩:=y;obtain⟨W1,T,E,J,I,g4,g5⟩:=g.farStore x Z D;refine dI.lift [] (i w1 W1 (es++t.toArray.map (⟨.cell ·,true,false⟩)) (j++T.toArray.map (⟨.cell ·,true,false⟩)) d I) ?_ ?_ g4 ?_;intro τ _;rw[iS _ _ _ _ _ _ l.1 l.2,show(av w τ d).cell? a=none from hc,gy,D];rfl;rw[iS _ _ _ _ _ _ L.1 L.2,E,J];intro e z;obtain⟨X,hX,rfl⟩:=Wi.1 z;obtain⟨⟨r,hr⟩,hp⟩:=g5 X (by simpa using hX);exact⟨rfl,⟨r,hr⟩,λ_=>hp⟩
  |some aa=>obtain⟨ar,af,_⟩:=g.cell x hc;by_cases M:w.frozen? a=true;(refine .none g λτ=>⟨.unsupported (.unsafePointer "a write to bytes that a string shares"),av w τ d,es,?_,True.intro,.refl _⟩);rw[iS _ _ _ _ _ _ l.1 l.2,show(av w τ d).cell? a=some aa from hc];simp only[];rw[Tv (show(av w τ d).frozen? a=true from M)];have an:¬W.frozen? A=true:=λh=>M (g.frozen x h);(have N:¬Pr A.block:=by intro hp;cases x with| @mk r s o p x=>obtain⟨c,e,f,E,J,I⟩:=g.ve _ _ x hp;apply M;have g4:=hc;simp only[World.cell?,World.frozen?,E]at g4⊢;cases p with|some p=>simp at g4|none=>simp only[Option.isSome_none,TS,TP]at g4;have:=(TC.1 g4).1;simp only[TH,TQ];omega);refine dI.lift (ev0:=#[⟨.cell A,true,false⟩]) [] (i (w.setCell a v) (W.setCell A V) (es.push ⟨.cell a,true,false⟩) _ d (g.setCell x Z)) ?_ ?_ ?_ ?_;intro τ _;rw[iS _ _ _ _ _ _ l.1 l.2,show(av w τ d).cell? a=some aa from hc];simp only[];rw[Tu (show ¬(av w τ d).frozen? a=true from M)];rfl;rw[iS _ _ _ _ _ _ L.1 L.2,af];simp only[];rw[Tu an,Vx];refine⟨rfl,rfl,rfl,by rw[fT];exact Tw _,λb U hh=>dQ _ _ _ _ ?_,λb U c e F B=>⟨F,?_⟩,λb c e F B=>gZ B,λ_ _ h=>.inl h,λ_ p q=>absurd q (by rw[fT];omega),λ_ _ h=>h⟩;rintro rfl;(cases x with| @mk r s o p x=>exact hh ⟨r,x⟩);rw[dQ _ _ _ _ (by rintro rfl;exact N U)];exact B;intro e z;simp at z;subst z;cases x with| @mk r s o p x=>exact⟨rfl,⟨r,x⟩,λ_=>N⟩
 | @new π o O k K ho _ i=>(intro w W es j d g;refine dI.lift (ev0:=#[]) [] (i g.ext w.heap.size W.heap.size (λ_ _ x=>.inl x) (.inr ⟨rfl,rfl⟩) {w with heap:=w.heap.push o} {W with heap:=W.heap.push O} es _ d (g.new ho)) (λ_ _=>rfl) (by simp[Sem.runT]) ?_ (by simp);have ab:∀(b:Nat) o,W.heap[b]? =some o->(W.heap.push O)[b]? =some o:=λb o h=>by have:=(TC.1 h).1;rw[Un];rw[Tu (by omega)];exact h);refine⟨rfl,rfl,rfl,by simp,λb U _=>by simp only[Un];rw[Tu (by omega)],λb U c e F B=>⟨F,ab _ _ B⟩,λb c e F B=>⟨c,F,ab _ _ B,.refl _⟩,?_,?_,λ_ _ h=>.inl h⟩;rintro r R (x|⟨_,rfl⟩);exact .inl x;exact .inr (Tw _);intro R p q;simp at q;exact⟨w.heap.size,.inr ⟨rfl,by omega⟩⟩
 | @shape π r R k K x _ i=>intro w W es j d g;refine dI.lift (ev0:=#[]) [] (i (w.shape? r) w W es _ d g) (λ_ _=>rfl) ?_ (Chg.refl _ _ _) (by simp);simp only[Sem.runT];rw[g.shape x,Wj]
 | @freeze π a A n k K x _ i=>intro w W es j d g;refine dI.lift (ev0:=#[]) [] (i _ _ es _ d (g.freeze x n)) ?_ (by simp[Sem.runT]) ?_ (by simp);intro τ _;simp only[Sem.runT];rw[pW];rfl;(have D:∀(w:World) a,(w.freeze a n).os=w.os/\(w.freeze a n).tape=w.tape/\(w.freeze a n).output=w.output:=by intro w a;unfold World.freeze;split<;>exact⟨rfl,rfl,rfl⟩);refine⟨(D W A).1,(D W A).2.1,(D W A).2.2,by rw[jy];exact Tw _,λb U hh=>gO _ _ _ _ ?_,λb _ c e F B=>?_,λb c e F B=>wI B,λ_ _ h=>.inl h,λ_ p q=>absurd q (by rw[jy];omega),λ_ _ h=>h⟩;rintro rfl;(cases x with| @mk r s o p x=>exact hh ⟨r,x⟩);by_cases hn:n=0;subst hn;exact⟨F,by simpa[World.freeze]using B⟩;by_cases U:b=A.block;subst U;exact⟨_,mD W A n hn B⟩;exact⟨F,by rw[gO _ _ _ _ U];exact B⟩
 | @frozen π a A k K x _ i=>intro w W es j d g;exact dI.lift (ev0:=#[]) [] (i _ _ (g.frozen x) w W es _ d g) (λ_ _=>rfl) (by simp[Sem.runT]) (Chg.refl _ _ _) (by simp)
 | @getObj π r R k K x _ i=>intro w W es j d g;obtain⟨o,O,E,J,I⟩:=g.obj _ _ x;by_cases u:∃c e f,o=.cells c e f;obtain⟨c,e,f,rfl⟩:=u;(refine .none g λτ=>⟨.stuck "getObj: a row of cells",av w τ d,es,?_,True.intro,.refl _⟩);simp only[Sem.runT,show(av w τ d).heap[r]? =some (.cells c e f)from E];(have ag:∀c e f,o≠ .cells c e f:=λc e f h=>u ⟨c,e,f,h⟩;have hch:O.isChan=false:=by cases I<;>rfl);(have ao:∀c e f,O≠ .cells c e f:=by rintro c e f rfl;cases I;exact ag _ _ _ rfl);refine dI.lift (ev0:=#[⟨.obj R,false,false⟩]) [] (i o O I w W (es.push ⟨.obj r,false,o.isChan⟩) _ d g) ?_ ?_ (Chg.refl _ _ _) ?_;intro τ _;(cases o<;>simp only[Sem.runT,show(av w τ d).heap[r]? =_ from E]<;>first|rfl|exact absurd rfl (ag _ _ _));(have:(Sem.getObj R K).runT P W j=(K O).runT P W (j.push ⟨.obj R,false,O.isChan⟩):=by cases O<;>simp only[Sem.runT,J]<;>exact absurd rfl (ao _ _ _));rw[this,hch,Vx];intro e z;simp at z;subst z;exact⟨rfl,⟨r,x⟩,by simp⟩
 | @setObj π r R o O k K x ag ho _ i=>
  intro w W es j d g;obtain⟨H,ad,E,J,I⟩:=g.obj _ _ x;by_cases u:∃c e f,H=.cells c e f;obtain⟨c,e,f,rfl⟩:=u;refine .none g λτ=>⟨.stuck "setObj: a row of cells",av w τ d,es,?_,True.intro,.refl _⟩
  simp only[Sem.runT,show(av w τ d).heap[r]? =some (.cells c e f)from E];have m:∀c e f,H≠ .cells c e f:=λc e f h=>u ⟨c,e,f,h⟩;have hch:O.isChan=false:=by cases ho<;>rfl
  have C:∀c e f,ad≠ .cells c e f:=by rintro c e f rfl;cases I;exact m _ _ _ rfl
  have N:¬Pr R:=λhp=>by obtain⟨c,e,f,q1,_⟩:=g.ve _ _ x hp;rw[E]at q1;exact m _ _ _ (TY q1)
  refine dI.lift (ev0:=#[⟨.obj R,true,false⟩]) [] (i {w with heap:=w.heap.setIfInBounds r o} {W with heap:=W.heap.setIfInBounds R O} (es.push ⟨.obj r,true,o.isChan⟩) _ d
   (g.setObj x ho (λc e f h=>m c e f (TY (E.symm.trans h))))) ?_ ?_ ?_ ?_
  intro τ _;cases H<;>simp only[Sem.runT,show(av w τ d).heap[r]? =_ from E]<;>first|rfl|exact absurd rfl (m _ _ _)
  have:(Sem.setObj R O K).runT P W j=K.runT P {W with heap:=W.heap.setIfInBounds R O} (j.push ⟨.obj R,true,O.isChan⟩):=by cases ad<;>simp only[Sem.runT,J]<;>exact absurd rfl (C _ _ _)
  rw[this,hch,Vx];have l:∀(b:Nat) c e F,W.heap[b]? =some (Obj.cells c e F)->(W.heap.setIfInBounds R O)[b]? =some (Obj.cells c e F):=λb c e F B=>by rw[TJ];exact B;rintro rfl;rw[J]at B;exact C _ _ _ (TY B)
  refine⟨rfl,rfl,rfl,by simp,λb U hh=>TJ ?_,λb _ c e F B=>⟨F,l _ _ _ _ B⟩,λb c e F B=>⟨c,F,l _ _ _ _ B,.refl _⟩,λ_ _ h=>.inl h,λ_ p q=>absurd q (by simp;omega),λ_ _ h=>h⟩;rintro rfl;exact hh ⟨r,x⟩;intro e z;simp at z;subst z;exact⟨rfl,⟨r,x⟩,λ_=>N⟩
 | @choose π q k K fq _ i=>intro w W es j d g;by_cases Y:q.forced=true;refine dI.lift (ev0:=#[]) [] (i 0 w W es _ d g) ?_ ?_ (Chg.refl _ _ _) (by simp);intro τ _;simp only[Sem.runT];rw[Tv Y];rfl;simp only[Sem.runT];rw[Tv Y,Wj];refine dI.lift (ev0:=#[]) [only q (W.tape W.drawn q)] (i (q.cut (W.tape W.drawn q)) w {W with drawn:=W.drawn+1} es _ (d+1) (g.heap rfl rfl)) ?_ ?_ (Chg.heap rfl rfl rfl rfl) (by simp) (by simpa using zt fq _);intro τ ah;simp only[Sem.runT];rw[Tu Y,show(av w τ d).tape (av w τ d).drawn q=W.tape W.drawn q from(congrFun ah.head q).trans (tj _ _)];rfl;simp only[Sem.runT];rw[Tu Y,Wj]
 | @program π k K _ i=>intro w W es j d g;exact dI.lift (ev0:=#[]) [] (i w W es _ d g) (λ_ _=>rfl) (by simp[Sem.runT]) (Chg.refl _ _ _) (by simp)
 | @kH π k s' _ i=>intro w W es j d g;exact dI.lift (ev0:=#[]) [] (i w W es _ d g) (λ_ _=>rfl) (by simp) (Chg.refl _ _ _) (by simp)
 | @extern π f k K _ i=>intro w W es j d g;refine dI.lift (ev0:=#[⟨.mark (.extern f),false,true⟩]) [] (i w W (es.push ⟨.mark (.extern f),false,true⟩) _ d g) (λ_ _=>rfl) (by simp[Sem.runT,Vx]) (Chg.refl _ _ _) ?_;intro e z;simp at z;subst z;trivial
 | @noRoom π k K _ i=>intro w W es j d g;refine dI.lift (ev0:=#[⟨.mark .noRoom,false,true⟩]) [] (i w W (es.push ⟨.mark .noRoom,false,true⟩) _ d g) (λ_ _=>rfl) (by simp[Sem.runT,Vx]) (Chg.refl _ _ _) ?_;intro e z;simp at z;subst z;trivial
 | @mW π q k s' n t fq e _ i=>intro w W es j d g;by_cases Y:q.forced=true;rw[Tv Y]at e;subst e;refine dI.lift (ev0:=#[]) [] (i w W es _ d g) ?_ (by simp) (Chg.refl _ _ _) (by simp);intro τ _;simp only[Sem.runT];rw[Tv Y];rfl;rw[Tu Y]at e;subst e;refine dI.lift (ev0:=#[]) [only q t] (i w W es _ (d+1) g) ?_ (by simp) (Chg.refl _ _ _) (by simp) (by simpa using zt fq _);intro τ ah;simp only[Sem.runT];rw[Tu Y,show(av w τ d).tape (av w τ d).drawn q=t from(congrFun ah.head q).trans (tj _ _)];rfl
 | @tk π s r K _ i=>intro w W es j d g;exact i (W.shape? r) w W es j d g
 | @tl π k s' _ i=>intro w W es j d g;obtain⟨c,e,f,h0⟩:=g.w0;refine dI.lift (ev0:=#[]) [] (i (e,c.size) w W es _ d g) (λτ _=>?_) (by simp) (Chg.refl _ _ _) (by simp);simp only[Sem.runT];rw[show(av w τ d).shape? 0=some (e,c.size) by simp only[World.shape?,av,h0]];rfl
 | @px π s a K _ i=>intro w W es j d g;exact i (W.frozen? a) w W es j d g
 |never n=>intro w W es j d g;exact .none g λτ=>n _ _ _
end Go.Tm
namespace Go.Tm
def Plain(v:Value):Prop:=∀(G:Nat) (π:Ren G),az π v v
def dD(P:Program):Prop:=∀t i z,P.info? t=some i->i.zero=some z->Plain z
abbrev VQ{G}:Ren G->Value->Value->Prop:=λπ v V=>az π v V
abbrev EqQ{G}{c:Type}:Ren G->c->c->Prop:=λ_ a b=>a=b
abbrev AQ{G}:Ren G->Addr->Addr->Prop:=λπ a A=>aR π a A
abbrev VsQ{G}:Ren G->Array Value->Array Value->Prop:=λπ a A=>VsR π a A
section
variable {S:Kn} {P:Program} {fs:Array Func} {π:Ren P.globals.size}
def aq{a b Q h}{s:Sem b}:(SR S (ai P fs) P) Q π (stuck h:Sem a) s:=.never (.halt _)
def aC{a b:Type}{Q:Ren P.globals.size->a->b->Prop}{h:Unsupported}{s:Sem b}(c:gI (.unsupported h):=by exact True.intro):(SR S (ai P fs) P) Q π (unsupported h:Sem a) s:=.never (.halt _ c)
def aj{c d Q}{a:c}{b:d}(h:Q π a b):(SR S (ai P fs) P) Q π (pure a) (pure b):=.pure h
def wJ{a}{s:Sem a}(h:cN s:=by repeat' (first|with_reducible exact cN.unsupported _ (by with_unfolding_all exact True.intro)|with_reducible first
 |exact cN.stuck _|exact cN.pure _|exact cN.program|exact cN.choose _|exact cN.shape _|exact cN.frozen _|exact cN.mark _|exact cN.newObj _|exact cN.sys _|assumption
 |refine cN.ite ?_ ?_|refine cN.bind ?_ λ_=>?_|dsimp only|split)):cN s:=h
def yM(t):cN (typeInfo t):=by unfold typeInfo;exact wJ
def dg(t):cN (underlying t):=by unfold underlying;exact wJ
def Di(t):cN (elemOf t):=by unfold elemOf;refine cN.bind (dg t) λ_=>?_;exact wJ
def Dj(t v):cN (newVar t v):=by unfold newVar newRow;exact wJ
def rH(t):cN (typeStr t):=by unfold typeStr;refine cN.bind (yM t) λ_=>?_;exact wJ
def pX{a}(v):dP (goPanic v:Sem a):=.halt _
def aF{a}(e):dP (runtimePanic e:Sem a):=by
 unfold runtimePanic;refine eL _ _ (.inr ⟨.program,λp=>?_⟩);cases e<;>simp only[]<;>first
  |exact pX _
  |exact eL _ _ (.inr ⟨Di _,λ_=>eL _ _ (.inr ⟨Dj _ _,λ_=>pX _⟩)⟩)
def rI{a}(k x y c):dP (boundsPanic k x y c:Sem a):=by unfold boundsPanic;simp only[];split<;>refine eL _ _ (.inr ⟨?_,λ_=>aF _⟩);exact cN.bind (.choose _) λ_=>.pure _;exact .pure _
def dh{a b Q e}{s:Sem b}:(SR S (ai P fs) P) Q π (runtimePanic e:Sem a) s:=.never (aF e)
def dX{a b Q k x y c}{s:Sem b}:(SR S (ai P fs) P) Q π (boundsPanic k x y c:Sem a) s:=.never (rI k x y c)
def bY:(SR S (ai P fs) P) (λ_ a b=>ai P fs=a/\P=b) π program program:=.program (.pure ⟨rfl,rfl⟩)
def eE(q:Question)(a:IA q=false:=by with_unfolding_all rfl):(SR S (ai P fs) P) EqQ π (choose q) (choose q):=.choose (λf b h=>absurd h (LC a f b)) λ_=>.pure rfl
def qR(n):(SR S (ai P fs) P) (λ_ _ _=>True) π (askRoom n) (askRoom n):=by unfold askRoom;split;exact .noRoom (.pure trivial);exact .pure trivial
def dx(t):(SR S (ai P fs) P) (λ_ a b=>a=b/\P.info? t=some b) π (typeInfo t) (typeInfo t):=by unfold typeInfo;refine bY.bind ?_;rintro c l _ _ ⟨rfl,rfl⟩;rw[Jh];cases h:P.info? t with|none=>exact aq|some i=>exact aj ⟨rfl,rfl⟩
def aA(t):(SR S (ai P fs) P) (λ_ a b=>a=b/\P.underlying t=some b) π (underlying t) (underlying t):=by unfold underlying;refine bY.bind ?_;rintro c l _ _ ⟨rfl,rfl⟩;rw[jL];cases h:P.underlying t with|none=>exact aq|some i=>exact aj ⟨rfl,rfl⟩
def bH(t):(SR S (ai P fs) P) EqQ π (sizeOf t) (sizeOf t):=by unfold sizeOf;refine(dx t).bind ?_;rintro a l _ _ ⟨rfl,_⟩;exact aj rfl
def Dk(t):(SR S (ai P fs) P) EqQ π (isAgg t) (isAgg t):=by unfold isAgg;refine(aA t).bind ?_;rintro b l a _ ⟨rfl,_⟩;split<;>exact aj rfl
def Js(t):(SR S (ai P fs) P) EqQ π (elemOf t) (elemOf t):=by unfold elemOf;refine(aA t).bind ?_;rintro b l a _ ⟨rfl,_⟩;split;exact aj rfl;exact aq
def er(c:dD P)(t):(SR S (ai P fs) P) (λ_ a b=>a=b/\Plain a) π (zeroValue t) (zeroValue t):=by unfold zeroValue;refine(dx t).bind ?_;rintro d l i _ ⟨rfl,h⟩;cases e:i.zero with|none=>exact aC|some z=>exact aj ⟨rfl,c t i z h e⟩
def rJ{a A}(h:aR π a A):(SR S (ai P fs) P) VQ π (load a) (load A):=.load h λ_ _ b=>.pure b
def LU{a A v V}(h:aR π a A)(b:az π v V):(SR S (ai P fs) P) EqQ π (store a v) (store A V):=.store h b (.pure rfl)
def ia{o O}(h:fR S π o O):(SR S (ai P fs) P) (λa r R=>a r R) π (newObj o) (newObj O):=.new h λ_ _ _ _ x=>.pure x
def cj{r b}(h:π r b):(SR S (ai P fs) P) (λa o O=>fR S a o O) π (getObj r) (getObj b):=.getObj h λ_ _ c=>.pure c
def eF{r a o O}(h:π r a)(b:∀c e f,o≠ .cells c e f)(d:fR S π o O):(SR S (ai P fs) P) EqQ π (setObj r o) (setObj a O):=.setObj h b d (.pure rfl)
def aR.add{G}{ρ:Ren G}{a A}(h:aR ρ a A)(n):aR ρ (a.add n) (A.add n):=by cases h with|mk h=>unfold Addr.add;split;exact .mk h;exact .mk h
def tE(n):∀{π:Ren P.globals.size} {a A} {acc b} (i),aR π a A->VsR π acc b->(SR S (ai P fs) P) VsQ π (loadCellsFrom a i n acc) (loadCellsFrom A i n b):=by induction n with|zero=>exactλi h c=>aj c|succ n e=>intro π a A acc b i h c;unfold loadCellsFrom;refine(rJ (h.add i)).bind ?_;intro f l v V d;exact e (i+1) (h.mono l) ((VsR.mono l c).push d)
def j9{a A}(h:aR π a A)(n):(SR S (ai P fs) P) VsQ π (loadCells a n) (loadCells A n):=tE n 0 h aY.empty
def lT{c}:∀{π:Ren P.globals.size} {d} {a A} (i),aR π a A->bj (az π) c d->(SR S (ai P fs) P) EqQ π (storeCells a c i) (storeCells A d i):=by induction c with|nil=>intro π d a A i h b;cases b;exact aj rfl|cons v c f=>intro π d a A i h b;cases b with|cons b e=>unfold storeCells;refine(LU (h.add i) b).bind ?_;intro g l _ _ _;exact f (i+1) (h.mono l) (e.mono λ_ _ x=>x.mono l)
def az.cells{G}{ρ:Ren G}{v V}(h:az ρ v V):VsR ρ v.cells V.cells:=by
 cases h with
 |agg s h=>exact⟨s,h⟩
 |mv V a=>(have e:V.cells=#[V]:=by cases V<;>first|rfl|cases a);rw[e];exact aY.push aY.empty (.mv V a)
 |_=>exact⟨rfl,λi x y b c=>by
  simp only[Value.cells]at b c;obtain _|i:=i
  .simp at b c;subst b c;first|exact .Jf _ _ _|exact .qJ _|(constructor<;>assumption)
  .simp at b⟩
def wK{a A}(t)(h:aR π a A):(SR S (ai P fs) P) VQ π (loadVar t a) (loadVar t A):=by unfold loadVar;refine(Dk t).bind ?_;rintro d l b _ rfl;split;refine(bH t).bind ?_;rintro c e n _ rfl;refine(j9 ((h.mono l).mono e) n).bind ?_;intro f i j k g;exact aj (az.FG g);exact rJ (h.mono l)
def Dl{a A v V}(t)(h:aR π a A)(b:az π v V):(SR S (ai P fs) P) EqQ π (storeVar t a v) (storeVar t A V):=by unfold storeVar;refine(bH t).bind ?_;rintro c l n _ rfl;rw[b.cells.1];split;exact aq;exact lT 0 (h.mono l) (b.mono l).cells.toList
def iT{c C}(e)(h:VsR π c C):(SR S (ai P fs) P) AQ π (newRow e c) (newRow e C):=by unfold newRow;refine(ia (.cells e h (.inl rfl))).bind ?_;intro a l r d b;exact aj (.mk b)
def zJ{v V}(t)(h:az π v V):(SR S (ai P fs) P) AQ π (newVar t v) (newVar t V):=iT t h.cells
def kM{v V}(h:az π v V):(SR S (ai P fs) P) EqQ π (asIntOf v) (asIntOf V):=by cases h<;>first|exact aj rfl|exact aq|exact aC
def jA{v V}(h:az π v V):(SR S (ai P fs) P) EqQ π (asInt v) (asInt V):=by unfold asInt;refine(kM h).bind ?_;rintro a l _ _ rfl;exact aj rfl
def zK{v V}(h:az π v V):(SR S (ai P fs) P) EqQ π (asBool v) (asBool V):=by cases h<;>first|exact aj rfl|exact aq
def LV{v V}(h:az π v V):(SR S (ai P fs) P) VsQ π (asAgg v) (asAgg V):=by cases h with|agg s h=>exact aj ⟨s,h⟩|_=>exact aq
def zL{v V}(h:az π v V):(SR S (ai P fs) P) AQ π (asAddr v) (asAddr V):=by cases h with|ptr h=>exact aj h|Je=>exact .never (by unfold asAddr;exact aF _)|_=>exact aq
def jB{v V}(h:az π v V):(SR S (ai P fs) P) AQ π (Instr.sureAddr v) (Instr.sureAddr V):=by cases h with|ptr h=>exact aj h|_=>exact aq
def gz{c C}(t a)(h:VsR π c C):(SR S (ai P fs) P) VQ π (part t c a) (part t C a):=by unfold part;refine(Dk t).bind ?_;rintro g l b _ rfl;have e:=VsR.mono l h;split;refine(bH t).bind ?_;rintro f i n _ rfl;exact aj (az.FG ((VsR.mono i e).extract _ _));have d:=e.get a;revert d;generalize c[a]? =u;generalize C[a]? =v;intro d;cases d with|none=>exact aq|some r=>exact aj r
def fe{r a}(h:π r a):(SR S (ai P fs) P) EqQ π (shape r) (shape a):=.shape h λs=>.pure rfl
abbrev VwR{G}(π:Ren G):Addr×TypeId->Addr×TypeId->Prop:=λx y=>aR π x.1 y.1/\x.2=y.2
def py{r d}(h:π r d):(SR S (ai P fs) P) (λc a b=>dM (VwR c) a b) π (viewAt r) (viewAt d):=by unfold viewAt;refine(fe h).bind ?_;rintro c l a _ rfl;split;exact aj .none;refine(cj (l _ _ h)).bind ?_;intro e g o O f;cases f<;>first|exact aj .none|exact aj (.some ⟨by assumption,rfl⟩)
def lB{c d Q}{a:Option c}{b:Option d}(h:dM Q a b):a.isSome=b.isSome:=by cases h<;>rfl
def tF{a A}(h:aR π a A):(SR S (ai P fs) P) EqQ π (noView a) (noView A):=by cases h with|mk h=>unfold noView;refine(py h).bind ?_;intro c l x y b;rw[lB b];split;exact aC;exact aj rfl
def iU{a A}(h:aR π a A):(SR S (ai P fs) P) EqQ π (byteOf a) (byteOf A):=by (unfold byteOf;have e1:a.spot=A.spot/\a.off=A.off:=by cases h;exact⟨rfl,rfl⟩);rw[e1.1,e1.2];cases A.spot with|some s=>exact aj rfl|none=>simp only[];refine bY.bind ?_;rintro b l _ _ ⟨rfl,rfl⟩;refine(tF (h.mono l)).bind ?_;intro c d _ _ _;cases h with|mk h=>refine(fe (d _ _ (l _ _ h))).bind ?_;rintro f g sh _ rfl;cases sh with|none=>exact aq|some es=>obtain⟨e,n⟩:=es;simp only[show(ai P fs).cellsOf e=P.cellsOf e from rfl,show(ai P fs).bytesOf e=P.bytesOf e from rfl,show(ai P fs).depth=P.depth from rfl,gu];split;exact aj rfl;split;exact aj rfl;exact aq
def Jt{a A}(h:aR π a A)(c b):(SR S (ai P fs) P) AQ π (partAt a c b) (partAt A c b):=by unfold partAt;refine(iU h).bind ?_;rintro e l n _ rfl;cases h with|mk h=>refine(iU (.mk (l _ _ h))).bind ?_;rintro f d m _ rfl;simp only[];split;exact aj (.mk (d _ _ (l _ _ h)));exact aj (.mk (d _ _ (l _ _ h)))
def yN{a A}(h:aR π a A)(f):(SR S (ai P fs) P) AQ π (fieldPlace a f) (fieldPlace A f):=by unfold fieldPlace;refine(bH f.type).bind ?_;rintro b l n _ rfl;split;exact Jt (h.mono l) _ _;exact aj ((h.mono l).add _)
def lU{x X}(h:az π x X)(y c):(SR S (ai P fs) P) EqQ π (Instr.sliceBound x y c) (Instr.sliceBound X y c):=by unfold Instr.sliceBound;refine(kM h).bind ?_;rintro a l ⟨k,i⟩ _ rfl;simp only[];split;exact aj rfl;exact dX
def fF(b len cap){p q r s mx e}(t:dM (az π) p q)(u:dM (az π) r s)(i:dM (az π) mx e):(SR S (ai P fs) P) EqQ π (Instr.sliceBounds b len cap p r mx) (Instr.sliceBounds b len cap q s e):=by
 unfold Instr.sliceBounds;have e3:e.isSome=mx.isSome:=by cases i<;>rfl
 simp only[e3];have w:∀{c:Type} (o O:Option Value),dM (az π) o O->∀(f g:Value->Sem c) (x y:Sem c) (a:Ren P.globals.size) (Q:Ren P.globals.size->c->c->Prop),Ren.le π a->(∀v V,az a v V->(SR S (ai P fs) P) Q a (f v) (g V))->(SR S (ai P fs) P) Q a x y->
  (SR S (ai P fs) P) Q a (match o with|some v=>f v|none=>x) (match O with|some v=>g v|none=>y):=by
  intro c o O h f g x y a Q l z A;cases h with
  |none=>exact A
  |some h=>exact z _ _ (h.mono l)
 refine w mx e i _ _ _ _ π EqQ (Ren.le_refl _) (λv V B=>?_) ?_;all_goals
  refine SR.bind (R1:=EqQ) (by first|exact lU B _ _|exact aj rfl) ?_;rintro a l m _ rfl;have j:=t.mono λ_ _ x=>x.mono l;have k:=u.mono λ_ _ x=>x.mono l;have n:=i.mono λ_ _ x=>x.mono l;cases k<;>cases n<;>simp only[];all_goals
   refine SR.bind (R1:=EqQ) (by first|exact lU (by assumption) _ _|exact aj rfl|exact aq) ?_;rintro C D h _ rfl;have d:=j.mono λ_ _ x=>x.mono D;cases d<;>simp only[];all_goals
    refine SR.bind (R1:=EqQ) (by first|exact lU (by assumption) _ _|exact aj rfl) ?_;rintro E F G _ rfl;exact aj rfl
def kN{x X}(h:az π x X)(c):(SR S (ai P fs) P) (λ_ a b=>a=b/\a=0) π (Instr.sliceBound x 0 c) (Instr.sliceBound X 0 c):=by unfold Instr.sliceBound;refine(kM h).bind ?_;rintro d l ⟨k,i⟩ _ rfl;simp only[];split;exact aj ⟨rfl,by omega⟩;exact dX
def vq(b){g i j k mx d}(o:dM (az π) g i)(p:dM (az π) j k)(n:dM (az π) mx d):(SR S (ai P fs) P) (λ_ a b=>a=b/\a=(0,0,0)) π (Instr.sliceBounds b 0 0 g j mx) (Instr.sliceBounds b 0 0 i k d):=by
 unfold Instr.sliceBounds;have e3:d.isSome=mx.isSome:=by cases n<;>rfl
 simp only[e3];cases n<;>simp only[];all_goals
  refine SR.bind (R1:=λ_ a b=>a=b/\a=0) (by first|exact kN (by assumption) _|exact aj ⟨rfl,rfl⟩) ?_;rintro q l m _ ⟨rfl,rfl⟩;have e:=o.mono λ_ _ x=>x.mono l;have f:=p.mono λ_ _ x=>x.mono l;cases f<;>simp only[];all_goals
   refine SR.bind (R1:=λ_ a b=>a=b/\a=0) (by first|exact kN (by assumption) _|exact aj ⟨rfl,rfl⟩|exact aq) ?_;rintro r s h _ ⟨rfl,rfl⟩;have c:=e.mono λ_ _ x=>x.mono s;cases c<;>simp only[];all_goals
    refine SR.bind (R1:=λ_ a b=>a=b/\a=0) (by first|exact kN (by assumption) _|exact aj ⟨rfl,rfl⟩) ?_;rintro t u v _ ⟨rfl,rfl⟩;exact aj ⟨rfl,rfl⟩
def LW{x X}(t)(m:az π x X){s u v w mx p}(f:dM (az π) s u)(g:dM (az π) v w)(h:dM (az π) mx p):(SR S (ai P fs) P) VQ π (Instr.slice t x s v mx) (Instr.slice t X u w p):=by
 unfold Instr.slice;refine(aA t).bind ?_;rintro B l d _ ⟨rfl,_⟩;have m:=m.mono l;have f:=f.mono λ_ _ x=>x.mono l;have g:=g.mono λ_ _ x=>x.mono l;have h:=h.mono λ_ _ x=>x.mono l;have e3:p.isSome=mx.isSome:=by cases h<;>rfl
 cases d with
 |string=>(cases m<;>simp only[]<;>try exact aq);rw[e3];split;exact .never (eL _ _ (.inl (.halt _)));refine(fF false _ _ f g dM.none).bind ?_;rintro i e ⟨a,b,c⟩ _ rfl;exact aj (.string _)
 |slice elem=>(cases m<;>simp only[]<;>try exact aq);rename_i len cap;refine(fF true _ _ f g h).bind ?_;rintro i e ⟨a,b,c⟩ _ rfl;refine(bH elem).bind ?_;rintro j o n _ rfl;refine aj ?_;simp only[Option.map_none,ite_self];exact .iM _ _;rename_i a A len cap k;refine(fF true _ _ f g h).bind ?_;rintro i e ⟨y,b,c⟩ _ rfl;refine(bH elem).bind ?_;rintro j o n _ rfl;refine aj ?_;simp only[Ud];split;exact .slice _ _ ((k.mono e).mono o);exact .slice _ _ (((k.mono e).mono o).add _);refine(vq true f g h).bind ?_;rintro i e ⟨y,b,c⟩ _ ⟨rfl,e0⟩;cases e0;refine(bH elem).bind ?_;rintro j o n _ rfl;exact aj (.qJ _)
 |pointer q=>(simp only[];refine(zL m).bind ?_;intro z r a A k;refine(aA q).bind ?_;rintro i e d _ ⟨rfl,C⟩;clear C;have f:=f.mono λ_ _ x=>(x.mono r).mono e;have g:=g.mono λ_ _ x=>(x.mono r).mono e;have h:=h.mono λ_ _ x=>(x.mono r).mono e;cases d<;>simp only[]<;>try exact aq);rename_i n elem;refine(fF false _ _ f g h).bind ?_;rintro j o ⟨y,b,c⟩ _ rfl;refine(bH elem).bind ?_;rintro D E n _ rfl;refine aj ?_;have k:=((k.mono e).mono o).mono E;simp only[];split;exact .slice _ _ k;exact .slice _ _ (k.add _)
 |_=>cases m<;>exact aq
def F4{x X}(t)(h:az π x X){k m o p q r}(e:dM (az π) k m)(f:dM (az π) o p)(g:dM (az π) q r):(SR S (ai P fs) P) VQ π (Instr.sliceAt t x k o q) (Instr.sliceAt t X m p r):=by (unfold Instr.sliceAt;refine(aA t).bind ?_;rintro u l d _ ⟨rfl,v⟩;clear v;have h:=h.mono l;have e:=e.mono λ_ _ x=>x.mono l;have f:=f.mono λ_ _ x=>x.mono l;have g:=g.mono λ_ _ x=>x.mono l;cases d<;>simp only[]<;>try exact LW t h e f g);(rename_i n elem;refine(jB h).bind ?_;intro s j a A i;have e:=e.mono λ_ _ x=>(x.mono j));(have f:=f.mono λ_ _ x=>(x.mono j));(have g:=g.mono λ_ _ x=>(x.mono j));refine(fF false _ _ e f g).bind ?_;rintro w y ⟨C,b,c⟩ _ rfl;refine(bH elem).bind ?_;rintro z B n _ rfl;refine aj ?_;have i:=(i.mono y).mono B;simp only[];split;exact .slice _ _ i;exact .slice _ _ (i.add _)
def kv(t:TypeId)(k:IntKind)(i:Int)(base:Option Addr)(len:Nat)(elem:TypeId):Sem Value:=do
 let b:=len<=1&&(match <-underlying t with| .array .. =>true|_=>false)
 match base with
 |some a=>
  if 0<=i/\i<len then pure (.pointer (some (a.add (i.toNat*(<-sizeOf elem)))))
  else if b then unsupported (.noEntry "op/indexAddr.an index out of range at an array of length 0 or 1 (ledger 616)")
  else boundsPanic k i len .index
 |none=>boundsPanic k i 0 .index
def nh(t k i){a A}(len elem)(b:dM (aR π) a A):(SR S (ai P fs) P) VQ π (kv t k i a len elem) (kv t k i A len elem):=by unfold kv;refine(aA t).bind ?_;rintro c d d' _ ⟨rfl,_⟩;cases b with|none=>exact dX|some b=>simp only[];split;refine(bH elem).bind ?_;rintro e f n _ rfl;exact aj (.ptr (((b.mono d).mono f).add _));split<;>split<;>first|exact aC|exact dX
def yO(t k i){a A:Addr}(elem):(SR S (ai P fs) P) VQ π (kv t k i (some a) 0 elem) (kv t k i (some A) 0 elem):=by unfold kv;refine(aA t).bind ?_;rintro b c d' _ ⟨rfl,_⟩;simp only[];rw[Tu (by omega)];split<;>first|exact aC|exact dX
def F5{x X i I}(t)(b:az π x X)(j:az π i I):(SR S (ai P fs) P) VQ π (Instr.indexAt t x i) (Instr.indexAt t X I):=by
 unfold Instr.indexAt;refine(kM j).bind ?_;rintro m l ⟨k,i⟩ _ rfl;refine(aA t).bind ?_;rintro n o d _ ⟨rfl,p⟩;clear p;have b:=(b.mono l).mono o;have g:∀{q r:Type} (f:q->Sem r) (h:String),dP (stuck h>>= f):=λf h=>eL _ _ (.inl (.halt _));cases d with
 |array len elem=>refine(jB b).bind ?_;intro s u a A e;exact nh t k i len elem (.some e)
 |slice elem=>cases b with|iM len c=>exact nh t k i len elem .none|slice len c e=>exact nh t k i len elem (.some e)|qJ A=>exact yO t k i elem|_=>exact .never (g _ _)
 |_=>exact .never (g _ _)
def LX{x X i I}(t)(a:az π x X)(b:az π i I):(SR S (ai P fs) P) VQ π (Instr.index t x i) (Instr.index t X I):=by
 unfold Instr.index;refine(kM b).bind ?_;rintro c l ⟨k,i⟩ _ rfl;refine(aA t).bind ?_;rintro e f d _ ⟨rfl,m⟩;have a:=(a.mono l).mono f;cases d with
 |array len elem=>(cases a<;>simp only[]<;>try exact aq);rename_i s h;split;refine(bH elem).bind ?_;rintro g j n _ rfl;exact gz elem _ (VsR.mono j ⟨s,h⟩);exact dX
 |string=>(cases a<;>simp only[]<;>try exact aq);split;exact aj (.int _ _);exact dX
 |_=>cases a<;>exact aq
def LY{x X}(t f)(b:az π x X):(SR S (ai P fs) P) VQ π (Instr.field t x f) (Instr.field t X f):=by (unfold Instr.field;refine(aA t).bind ?_;rintro e g d _ ⟨rfl,j⟩;cases d<;>simp only[]<;>try exact aq);rename_i a;split;refine(LV (b.mono g)).bind ?_;intro h k c C i;exact gz _ _ i;exact aq
def F6{x X}(i)(b:az π x X):(SR S (ai P fs) P) VQ π (Instr.extract x i) (Instr.extract X i):=by
 unfold Instr.extract;cases b with
 | @tuple c C s h=>(simp only[];have a:=(aY.get ⟨s,h⟩ i:dM (az π) c[i]? C[i]?));revert a;generalize c[i]? =u;generalize C[i]? =v;intro a;cases a with|none=>exact aq|some r=>exact aj r
 |_=>exact aq
end
section
variable {S:Kn} {P:Program} {fs:Array Func} {G:Nat} {π:Ren P.globals.size} {ρ:Ren G}
def aB{a b s}{f:a->Sem b}(h:dP s):dP (s>>= f):=eL _ _ (.inl h)
def bF{b c s}{f:b->Sem c}(d:cN s)(h:∀a,dP (f a)):dP (s>>= f):=eL _ _ (.inr ⟨d,h⟩)
def dz{a}(h):dP (stuck h:Sem a):=.halt _
def bJ{a:Type}(h:Unsupported)(b:gI (.unsupported h):=by exact True.intro):dP (unsupported h:Sem a):=.halt _ b
def F7{x X}(s f)(e:az π x X):(SR S (ai P fs) P) VQ π (Instr.fieldAt s x f) (Instr.fieldAt s X f):=by (unfold Instr.fieldAt;refine(aA s).bind ?_;rintro g h d _ ⟨rfl,n⟩;cases d<;>simp only[]<;>try exact aq);rename_i c;cases o:c[f]? with|none=>exact aq|some i=>simp only[];refine(jB (e.mono h)).bind ?_;intro j p a A k;exact(yN k i).bind λl q b B m=>aj (.ptr m)
def qS(b):Plain (.bool b):=λ_ _=>.bool b
def yP:Plain (default:Value):=λ_ π=>by show az π (Value.bool default) (Value.bool default);exact .bool _
def bh(c:Array Value):Prop:=∀(i:Nat) v,c[i]? =some v->Plain v
def bh.refl{c}(h:bh c)(ρ:Ren G):VsR ρ c c:=⟨rfl,λi x y a b=>by rw[a]at b;cases b;exact h i x a _ ρ⟩
def Plain.cells{v}(h:Plain v):bh v.cells:=λi x a G π=>((h G π).cells).2 i x x a a
def bh.getD{c}(h:bh c)(i:Nat):Plain c[i]! :=by rw[getElem!_def];cases e:c[i]? with|none=>exact yP|some v=>exact h i v e
def bh.spread{c}(h:bh c)(n m):bh ((Array.range n).map λi=>c[i%m]!):=by intro i v a;rw[T3]at a;cases e:(Array.range n)[i]? with|none=>rw[e]at a;simp at a|some k=>rw[e]at a;simp at a;subst a;exact h.getD _
def bh.empty:bh #[]:=λi v h=>by simp at h
def LZ(c:dD P)(t):(SR S (ai P fs) P) VQ π (Instr.alloc t true (.tuple #[])) (Instr.alloc t true (.tuple #[])):=by unfold Instr.alloc;refine(er c t).bind ?_;rintro b l z _ ⟨rfl,d⟩;simp only[];refine(zJ t (d _ b)).bind ?_;rintro e g a A f;exact aj (.ptr f)
def Qh{v V}(t)(h:az π v V):(SR S (ai P fs) P) VQ π (Instr.box t v) (Instr.box t V):=by unfold Instr.box;refine(zJ t h).bind ?_;rintro b d a A c;exact aj (.ptr c)
abbrev lC{G}(π:Ren G):Nat×Value->Nat×Value->Prop:=λa b=>a.1=b.1/\az π a.2 b.2
def Ju{l L:List (Value×Nat)}(h:bj (λa b=>az ρ a.1 b.1/\a.2=b.2) l L):∀{c C:Array Value} (d:Nat),VsR ρ c C->VsR ρ (l.foldl (λcs (c,j)=>cs.setIfInBounds (d+j) c) c) (L.foldl (λcs (c,j)=>cs.setIfInBounds (d+j) c) C):=by induction h with|nil=>exactλ_ h=>h| @cons x y l m e _ f=>intro c C d g;obtain⟨v,j⟩:=x;obtain⟨V,J⟩:=y;obtain⟨i,rfl⟩:=e;exact f d (g.set _ i)
def F8{l L}(h:bj (az ρ) l L):∀n,bj (λa b=>az ρ a.1 b.1/\a.2=b.2) (l.zipIdx n) (L.zipIdx n):=by induction h with|nil=>exactλ_=>.nil|cons c _ d=>exactλn=>by simp only[List.zipIdx_cons];exact .cons ⟨c,rfl⟩ (d _)
def wL(a){l L}(h:bj (lC ρ) l L):∀{c C},VsR ρ c C->dM (VsR ρ) (Instr.fill a c l) (Instr.fill a C L):=by induction h with|nil=>exactλh=>.some h| @cons x y l m b _ k=>intro c C f;obtain⟨i,v⟩:=x;obtain⟨j,V⟩:=y;obtain⟨g,d⟩:=b;simp only[]at g d;subst g;unfold Instr.fill;cases a i with|none=>exact .none|some os=>obtain⟨e,size⟩:=os;simp only[];rw[<-d.cells.1,<-f.1];split;exact .none;refine k ?_;rw[<-VL,<-VL,Array.toList_zipIdx,Array.toList_zipIdx];exact Ju (F8 d.cells.toList 0) e f
def wM(a:List Field):(SR S (ai P fs) P) EqQ π (a.mapM λf=>do pure (f.offset,<-sizeOf f.type)) (a.mapM λf=>do pure (f.offset,<-sizeOf f.type)):=by induction a generalizing π with|nil=>exact aj rfl|cons f l c=>simp only[List.mapM_cons];refine SR.bind (R1:=EqQ) ((bH f.type).bind ?_) ?_;rintro b l n _ rfl;exact aj rfl;rintro b e x _ rfl;refine c.bind ?_;rintro d g y _ rfl;exact aj rfl
def L0{i j d e Q}{Q':Ren P.globals.size->d->e->Prop}{s t}{f:i->d}{g:j->e}(h:(SR S (ai P fs) P) Q π s t)(k:∀c a b,Q c a b->Q' c (f a) (g b)):(SR S (ai P fs) P) Q' π (Functor.map f s) (Functor.map g t):=by rw[map_eq_pure_bind,map_eq_pure_bind];exact h.bind λc l a b q=>aj (k _ _ _ q)
def L1(p:dD P)(t){g PS}(h:aY (lC π) g PS):(SR S (ai P fs) P) VQ π (Instr.build t g) (Instr.build t PS):=by (unfold Instr.build;refine(er p t).bind ?_;rintro q l z _ ⟨rfl,m⟩;refine(aA t).bind ?_;rintro f s d _ ⟨rfl,_⟩;have h:aY (lC f) g PS:=(h.mono λ_ _ x=>⟨x.1,(x.2.mono l).mono s⟩));(have o:=h.toList;cases d<;>simp only[]<;>try exact aq);rename_i n elem _;refine(bH _).bind ?_;rintro a j size _ rfl;have:=wL (λi=>some (i*size,size)) (o.mono λ_ _ (x:lC f _ _)=>(⟨x.1,x.2.mono j⟩:lC a _ _)) (m _ a).cells;revert this;(generalize Instr.fill _ _ _=u;generalize Instr.fill _ _ _=v;intro k;cases k with|none=>exact aq|some r=>exact aj (az.FG r));rename_i b _;refine SR.bind (R1:=EqQ) ?_ ?_;obtain⟨w⟩:=b;(rw[List.mapM_toArray];exact L0 (wM w) λ_ _ _ e=>by rw[show _=_ from e]);rintro a j c _ rfl;have:=wL (c[·]?) (o.mono λ_ _ (x:lC f _ _)=>(⟨x.1,x.2.mono j⟩:lC a _ _)) (m _ a).cells;revert this;generalize Instr.fill _ _ _=u;generalize Instr.fill _ _ _=v;intro k;cases k with|none=>exact aq|some r=>exact aj (az.FG r)
def yQ(k:dD P)(t n){f PS}(h:aY (lC π) f PS):(SR S (ai P fs) P) VQ π (Instr.buildSlice t n f) (Instr.buildSlice t n PS):=by
 unfold Instr.buildSlice;refine(aA t).bind ?_;rintro c l d _ ⟨rfl,_⟩;have h:aY (lC c) f PS:=(h.mono λ_ _ x=>⟨x.1,(x.2.mono l)⟩)
 have m:=h.toList;cases d<;>simp only[]<;>try exact aq
 rename_i elem _;refine(bH _).bind ?_;rintro e o size _ rfl;split;exact .never (aB (bJ _))
 have key:∀(b:Ren P.globals.size),Ren.le e b->∀zero:Array Value,bh zero->(SR S (ai P fs) P) VQ b
  (do let some cells:=Instr.fill (λi=>some (i*size,size)) ((Array.range (n*size)).map (zero[· %zero.size]!)) f.toList|stuck "buildSlice: a part of the wrong size"
      pure (.slice (some (<-newRow elem cells)) n n))
  (do let some cells:=Instr.fill (λi=>some (i*size,size)) ((Array.range (n*size)).map (zero[· %zero.size]!)) PS.toList|stuck "buildSlice: a part of the wrong size"
      pure (.slice (some (<-newRow elem cells)) n n)):=by
  intro b g zero j;have:=wL (λi=>some (i*size,size)) (m.mono λ_ _ (x:lC c _ _)=>(⟨x.1,(x.2.mono o).mono g⟩:lC b _ _)) ((j.spread (n*size) zero.size).refl b)
  revert this
  generalize Instr.fill _ _ _=u;generalize Instr.fill _ _ _=v;intro p;cases p with
  |none=>exact aq
  |some r=>refine(iT elem r).bind ?_;rintro q w a A s;exact aj (.slice _ _ s)
 split;exact key e (Ren.le_refl _) #[] .empty;refine(er k elem).bind ?_;rintro b g z _ ⟨rfl,j⟩;exact key b g _ j.cells
def Dm{fn a f F c C}(h:FnR π fn a)(b:VsR π f F)(d:VsR π c C):(SR S (ai P fs) P) VQ π (Instr.makeFunc fn f c) (Instr.makeFunc a F C):=aj (.func h b.1 b.2 d.1 d.2)
def F9(t){r R}(h:dM (az π) r R):(SR S (ai P fs) P) VQ π (Instr.makeMap t r) (Instr.makeMap t R):=by (unfold Instr.makeMap;have fin:∀b:Ren P.globals.size,(SR S (ai P fs) P) VQ b (do pure (.map (some (<-newObj (.map #[] 0)))):Sem Value) (do pure (.map (some (<-newObj (.map #[] 0))))):=λb=>by refine(ia (.map 0 .empty)).bind ?_;rintro c j a A e;exact aj (.map e));cases h with|none=>exact fin _|some h=>(simp only[];refine(aA t).bind ?_;rintro f g d _ ⟨rfl,_⟩;cases d<;>simp only[]<;>try exact aq);refine(jA (h.mono g)).bind ?_;rintro i k _ _ _;exact fin _
def tG{v V}(t)(h:az π v V):(SR S (ai P fs) P) VQ π (Instr.makeInterface t v) (Instr.makeInterface t V):=by unfold Instr.makeInterface;refine(aA t).bind ?_;rintro a b d _ ⟨rfl,_⟩;cases d<;>first|exact aq|exact aj (.iface t (h.mono b))
def Bf(k:dD P)(t){a A b B}(f:az π a A)(m:az π b B):(SR S (ai P fs) P) VQ π (Instr.makeSlice t a b) (Instr.makeSlice t A B):=by
 unfold Instr.makeSlice;refine(aA t).bind ?_;rintro o j d _ ⟨rfl,_⟩;cases d<;>simp only[]<;>try exact aq
 rename_i elem _;refine(jA (f.mono j)).bind ?_;rintro p q len _ rfl;refine(jA ((m.mono j).mono q)).bind ?_;rintro r x cap _ rfl;refine(dx elem).bind ?_;rintro g s i _ ⟨rfl,_⟩;have fin:∀(c:Ren P.globals.size) (n l:Nat) (zero:Array Value),bh zero->(SR S (ai P fs) P) VQ c (do let a <-newRow elem ((Array.range n).map (zero[· %zero.size]!));pure (.slice (some a) l (IntKind.i64.wrap cap).toNat):Sem Value)
  (do let a <-newRow elem ((Array.range n).map (zero[· %zero.size]!));pure (.slice (some a) l (IntKind.i64.wrap cap).toNat)):=by
  intro c n l zero h;refine(iT elem ((h.spread n zero.size).refl c)).bind ?_;rintro g s a A f;exact aj (.slice _ _ f)
 have e:∀(c:Ren P.globals.size),(SR S (ai P fs) P) VQ c (do
  askRoom ((IntKind.i64.wrap cap).toNat*i.bytes)
  let n:=(IntKind.i64.wrap cap).toNat*(<-sizeOf elem);let zero <-if n=0 then pure #[]else do pure (<-zeroValue elem).cells
  let a <-newRow elem ((Array.range n).map (zero[· %zero.size]!))
  pure (.slice (some a) (IntKind.i64.wrap len).toNat (IntKind.i64.wrap cap).toNat):Sem Value) (do
  askRoom ((IntKind.i64.wrap cap).toNat*i.bytes)
  let n:=(IntKind.i64.wrap cap).toNat*(<-sizeOf elem);let zero <-if n=0 then pure #[]else do pure (<-zeroValue elem).cells
  let a <-newRow elem ((Array.range n).map (zero[· %zero.size]!))
  pure (.slice (some a) (IntKind.i64.wrap len).toNat (IntKind.i64.wrap cap).toNat)):=by
  intro c;refine(qR _).bind ?_;rintro u y _ _ _;refine(bH elem).bind ?_;rintro v C D _ rfl;simp only[];split
  .exact fin _ _ _ #[] .empty
  .refine(er k elem).bind ?_
   rintro w E z _ ⟨rfl,h⟩;exact fin _ _ _ _ h.cells
 split;split;exact .never (aB (aF _));split;exact .never (aB (aF _));exact .never (bF (.choose _) λa=>aB (aF _));exact e _
def Calm(s:Sem Value):Prop:=dP s\/∃v,Plain v/\s=pure v
def Calm.sr{s}(h:Calm s):(SR S (ai P fs) P) VQ π s s:=by obtain h|⟨v,a,rfl⟩:=h;exact .never h;exact aj (a _ π)
def Calm.int(k n):Calm (pure (.int k n)):=.inr ⟨_,λ_ _=>.int k n,rfl⟩
def Calm.bool(b):Calm (pure (.bool b)):=.inr ⟨_,λ_ _=>.bool b,rfl⟩
def Calm.string(s):Calm (pure (.string s)):=.inr ⟨_,λ_ _=>.string s,rfl⟩
def Calm.stuck(s):Calm (stuck s):=.inl (.halt _)
def Calm.unsupported(s:Unsupported)(a:gI (.unsupported s):=by exact True.intro):Calm (unsupported s):=.inl (.halt _ a)
def pY(a k x y):Calm (Op.intArith a k x y):=by cases a<;>first|exact .int _ _|exact .stuck _
def Dn(a x y):Calm (Op.intCmp a x y):=by cases a<;>first|exact .bool _|exact .stuck _
def Dq(a k x y):Calm (Op.intDiv a k x y):=by unfold Op.intDiv;split;exact .inl (aF _);cases a<;>first|exact .int _ _|exact .stuck _
def rM(a k x y):Calm (Op.intBits a k x y):=by unfold Op.intBits;cases a<;>first|exact .int _ _|exact .stuck _
def wN(a k x b y):Calm (Op.shift a k x b y):=by unfold Op.shift;split;exact .inl (aF _);cases a<;>first|exact .int _ _|exact .stuck _
def pZ(a x y):Calm (Op.stringOp a x y):=by unfold Op.stringOp;cases a<;>simp only[]<;>first|exact .bool _|exact .stuck _|(split<;>first|exact .string _|exact .unsupported _)
def L3{x X}(a)(h:az π x X):(SR S (ai P fs) P) VQ π (Op.unary a x) (Op.unary a X):=by
 cases h<;>cases a<;>first
  |exact aq
  |exact aC
  |exact(pY _ _ _ _).sr
  |exact(rM _ _ _ _).sr
  |exact aj (az.int _ _)
  |exact aj (.bool _)
  |exact aj (.float _ _)
  |exact aj (.complex _ _ _)
def L4{d σ τ:Type}{T:Ren P.globals.size->σ->τ->Prop}(mono:∀π c a b,Ren.le π c->T π a b->T c a b)(l:List d)(f:d->σ->Sem (ForInStep σ))(g:d->τ->Sem (ForInStep τ)) (h:∀(π:Ren P.globals.size) a s t,T π s t->(SR S (ai P fs) P) (λc x y=>(∃u v,x=.yield u/\y=.yield v/\T c u v)\/(∃u v,x=.done u/\y=.done v/\T c u v)) π (f a s) (g a t)):∀(π:Ren P.globals.size) (s:σ) (t:τ),T π s t->(SR S (ai P fs) P) T π (forIn l s f) (forIn l t g):=by induction l with|nil=>intro π s t e;simp only[List.forIn_nil];exact aj e|cons a l j=>intro π s t e;simp only[WH];refine(h π a s t e).bind ?_;rintro c k x y (⟨u,v,rfl,rfl,i⟩|⟨u,v,rfl,rfl,i⟩);exact j c u v i;exact aj i
def pA{a A}(h:aR π a A):(SR S (ai P fs) P) (λ_ b B=>B=true->b=true) π (frozen a) (frozen A):=.frozen h λ_ _ x=>.pure x
def rN{a A}(h:aR π a A):(SR S (ai P fs) P) (λ_ b B=>B=true->b=true) π (stringish a) (stringish A):=by unfold stringish;cases h with| @mk r s o p h=>(have key:∀c,Ren.le π c->(SR S (ai P fs) P) (λ_ b B=>B=true->b=true) c (do match <-shape r with|some (_,n)=>frozen {block:=r,off:=n}|none=>pure false:Sem Bool) (do match <-shape s with|some (_,n)=>frozen {block:=s,off:=n}|none=>pure false):=by intro c l;refine(fe (l _ _ h)).bind ?_;rintro e f x _ rfl;split;exact pA (.mk (f _ _ (l _ _ h)));exact aj (by simp));refine(pA (.mk h)).bind ?_;intro c l b B g;have d:=key c l;cases b<;>cases B<;>simp only[TS,TP,TK];exact d;simp at g;refine .tk λx=>?_;(cases x with|none=>exact aj (by simp)|some y=>exact .px λz=>aj (by simp));exact aj (by simp)
def wO{r s:Nat}(h:π r s):(SR S (ai P fs) P) EqQ π (do pure ((<-shape r) matches some (_,0)):Sem Bool) (do pure ((<-shape s) matches some (_,0))):=by refine(fe h).bind ?_;rintro a b x _ rfl;exact aj rfl
def Dr{a A b B}(d:aR π a A)(e:aR π b B):(SR S (ai P fs) P) (λ_ m M=>M=true->m=true) π (mayBeOne a b) (mayBeOne A B):=by unfold mayBeOne;refine(rN d).bind ?_;intro g c i j k;refine(rN (e.mono c)).bind ?_;intro l f sb n hsb;refine SR.bind (R1:=EqQ) ?_ ?_;(cases d with|mk h=>exact wO (f _ _ (c _ _ h)));rintro o p r _ rfl;refine SR.bind (R1:=EqQ) ?_ ?_;(cases e with|mk h=>exact wO (p _ _ (f _ _ (c _ _ h))));rintro q s t _ rfl;refine aj ?_;cases i<;>cases j<;>cases sb<;>cases n<;>simp_all
def aR.eq{a A b B}(d:aR ρ a A)(f:aR ρ b B):(a.block==b.block)=(A.block==B.block)/\(a==b)=(A==B):=by cases d with| @mk r s o p h=>cases f with| @mk g s' o' i c=>(have e:r=g↔s=s':=⟨λe=>by subst e;exact ρ.fn _ _ _ h c,λe=>by subst e;exact ρ.inj _ _ _ h c⟩);constructor;rw[UE];simp[e];rw[UE];simp[e]
def uy{a A b B}(c:aR π a A)(d:aR π b B):(SR S (ai P fs) P) EqQ π (sameAddr a b) (sameAddr A B):=by
 unfold sameAddr;rw[(c.eq d).1,(c.eq d).2];split;exact aj rfl;refine(pA c).bind ?_;intro o g p v i;refine(pA (d.mono g)).bind ?_;intro q k fb w hfb;by_cases e:(p&&fb)=true;rw[Tv e];exact .never (aB (bJ _))
 rw[Tu e,Tu (by simp only[TH]at e⊢;exactλh=>e ⟨i h.1,hfb h.2⟩)];have c:=(c.mono g).mono k;have d:=(d.mono g).mono k;refine(tF c).bind ?_;intro r j _ _ _;refine(tF (d.mono j)).bind ?_;intro s l _ _ _;refine(Dr ((c.mono j).mono l) ((d.mono j).mono l)).bind ?_;intro t x m M y;cases m with
 |false=>(have:M=false:=by cases M<;>simp_all);subst this;exact aj rfl
 |true=>cases M with|true=>refine(eE _).bind ?_;rintro u z n _ rfl;exact aj rfl|false=>refine .mW 0 (n:=0) (λf C h=>by cases h) ?_ ?_;rfl;exact aj rfl
def wP{a A b B}(c:dM (aR π) a A)(d:dM (aR π) b B):(SR S (ai P fs) P) EqQ π (samePointer a b) (samePointer A B):=by cases c<;>cases d<;>first|exact aj rfl|exact uy (by assumption) (by assumption)
end
end Go.Tm

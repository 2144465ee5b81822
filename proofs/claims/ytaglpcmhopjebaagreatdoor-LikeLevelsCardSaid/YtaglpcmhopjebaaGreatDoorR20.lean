import Derived.OwnWalk
import Derived.Deep.OwnRows
import Derived.BigRegion
import Derived.StillTail
import Derived.Maps.AppendAt
import Derived.Deep.AppendLies
import Derived.RegionTactic
import Derived.Deep.CutRange
import Derived.Test.YtaglpcmhopjebaaGreatDoorR19
set_option linter.all false
set_option maxRecDepth 100000
set_option maxHeartbeats 20000000
namespace Go.Proofs
open Go.Tm Go.RowKit
variable {fs:Array Func} (L:bP fs)
def QZ:((Tryz.prog).info? 3).map (λi=>(i.zero,i.size,i.bytes))=some (some (.int .i64 0),1,8):=by kernel_rfl
def Hi(fs):((Qs fs).info? 3).map (λi=>(i.zero,i.size,i.bytes))=some (some (.int .i64 0),1,8):=QZ
def er{base e b n:Nat}{w:World}{v xs}(h:w.ownsRow base e b v n xs):∀k,v.ownBlock=some k->base<=k:=by intro k a;obtain⟨rfl,_⟩|⟨g,cap,c,rfl,d,_⟩:=h.2;cases a;cases a;exact d
def Cn{d:Type}{base e b:Nat}{w:World}{v:Value}{l:List d}{xs:List Value}{E:(Nat->Prop)->World->Nat->Nat->d->Prop}(h:w.ownsRow base e b v l.length xs) (f:∀g:Nat,(∀i,i<l.length*b->w.cell? ⟨g,i,none⟩=xs[i]?)->∀k (c:k<l.length),E (λ_=>True) w g (k*b) l[k]):aD (λ_=>True) b E w v l:=by have j:=h;obtain⟨rfl,m⟩|⟨g,cap,n,rfl,s,o,p,q,t,u⟩:=h.2;exact⟨none,0,by rw[m],by omega,by omega,.inl rfl,λk c=>by omega⟩;refine⟨_,_,rfl,p,q,.inr ?_,?_⟩;intro a e;cases e;exact⟨rfl,trivial,_,_,_,o⟩;intro k c;refine⟨g,0,rfl,?_⟩;rw[SF];exact f g (λi r=>j.cellAt i r) k c
def vq{base w v l}(h:w.ownsRow base 3 1 v l.length (l.map (Value.int .i64))):aD (λ_=>True) 1 df w v l:=Cn h λg a k b=>by show w.cell? ⟨g,k*1,none⟩=_;rw[a _ (by omega)];simp[b]
def KP{K:Nat->Prop}{v0 v1:Value}{l m:List Int}(w:World)(F:aD K 1 df w v0 l)(E:aD K 1 df w v1 m)(P:l.length<=40):Calls (Qs fs) 141 #[v0,v1] w λe w'=>∃v,e=.returned v/\w'.ownsRow w.heap.size 3 1 v (bt l m).length ((bt l m).map (Value.int .i64))/\Below w.heap.size w w':=by
 have QG:=QG L;obtain⟨G,H,A,B,C⟩:=info_parts (Hi fs);have D:=E;obtain⟨Q,c,rfl,I,R,_,f⟩:=F;obtain⟨J,c1,rfl,_⟩:=E;go_enter (n141 L),Tryz.ntmps141;go_wp2;go_loopw [5,6] (λo i wr=>∃j:Nat,j<=l.length/\i=.int .i64 j/\wr.ownsRow w.heap.size 3 1 o (bt (l.take j) m).length ((bt (l.take j) m).map (Value.int .i64))/\Below w.heap.size w wr) (λo i _=>l.length-(intOf i).toNat);case atStart=>exact⟨0,SE _,rfl,World.ownsRow_nil _ _ _ _,Below.refl _ _⟩
 case round=>
  obtain⟨j,S,rfl,d,a⟩:=hrel;obtain n|hge:=Sr j l.length
  ·obtain⟨b,M,rfl,t⟩:=f j n
   rw[Tu]at t;have g:=ae.below a;have N:=g.cell t;have y:=KM L l[j] wr (D.stays g (λb T o x e h=>by subst e;exact df.carry (Carry.keep g) b b o x rfl h));have O:(bt (l.take j) m).length<=j:=Sq (TF _ _) (by rw[TH];omega);cases z:m.contains l[j]with
   |true=>rw[z]at y;clear f t g D;go_wp2_with (first|(go_at_call 167;refine y.mono ?_;rintro e w3 ⟨rfl,rfl⟩));(have k:bt (l.take (j+1)) m=bt (l.take j) m:=by unfold bt;rw[nD _ _ _ n,z];simp);exact⟨⟨j+1,by omega,by go_num,by rw[k];exact d,a⟩,by simp[intOf];omega⟩
   |false=>rw[z]at y;clear f t g D;go_wp2_with (first|(go_at_call 167;refine y.mono ?_;rintro e w3 ⟨rfl,rfl⟩)|(at_builtin;refine wpList_append_own _ rfl _ _ 36 rfl w.heap.size 3 G (.int .i64 0) 1 8 Tryz.underlying36 H A B C rfl (by decide) _ _ _ rfl (d.alloc _) ⟨_,0,none⟩ 1 1 [.int .i64 l[j]] rfl rfl ?c1 ?c2 ?c3 ?c4 ?c5 ?_));(case c1=>intro i u p;match i,p with|0,p=>simp at p;subst p;simp[Addr.add]);(case c2=>intro u p;simp at p;subst p;rfl);(case c3=>unfold maxLen;omega);(case c4=>omega);(case c5=>have:=a.size;simp;omega);(intro U w4 q r _;have k:bt (l.take (j+1)) m=bt (l.take j) m++[l[j]]:=by unfold bt;rw[nD _ _ _ n,z];simp);have s:=(a.alloc a.size (.cells #[.int .i64 l[j]] 3)).grown r (by have:=a.size;simp;omega) (er d);go_wp2;exact⟨⟨j+1,by omega,by go_num,by rw[k,SQ,Up];exact q,s⟩,by simp[intOf];omega⟩
  go_wp2;go_ret;rw[Va hge]at d;exact⟨_,rfl,d,a⟩
def ni(x y:List Int)(k:Nat):Nat:=((List.range k).map λ(n:Nat)=>min (aL x n) (aL y n)).sum
def vt(x y k):ni x y (k+1)=ni x y k+min (aL x k) (aL y k):=by unfold ni;rw[UQ,Up,List.sum_append];simp
def Co(x y k):ni x y k<=k*x.length:=by induction k with|zero=>simp[ni]|succ k a=>rw[vt,Nat.succ_mul];have:aL x k<=x.length:=TF _ _;omega
def tM(a b)(c:a≠[])(d:b≠[]):bS a b=(100*(2*(a.length-(bt a b).length)+ni (bt a b) (bt b a) 10:Nat):Int)/(a.length+b.length:Nat):=by unfold bS;rw[Sm (by simp[c,d])];rfl
def qI(a b)(h:a=[]\/b=[]):bS a b=0:=by unfold bS;rw[Sn (by rcases h with rfl|rfl<;>simp)]
def IE{K:Nat->Prop}{v0 v1:Value}{l m:List Int}(w:World)(Q:aD K 1 df w v0 l)(R:aD K 1 df w v1 m)(I:l.length<=40)(hm:m.length<=40)(A:∀x∈l,0<=x/\x<=999)(B:∀x∈m,0<=x/\x<=999):Calls (Qs fs) 119 #[v0,v1] w λe w'=>e=.returned (.int .i64 (bS l m))/\Below w.heap.size w w':=by
 have QA:=QA L;have QB:=QB L;have G:=λJ f v=>KP L (K:=K) (v0:=v0) (v1:=v1) (l:=l) (m:=m) J f v I;have H:=λJ f v=>KP L (K:=K) (v0:=v1) (v1:=v0) (l:=m) (m:=l) J f v hm;have M:=Q;have N:=R;obtain⟨ao,c,rfl,aa,hc,_,j⟩:=Q;obtain⟨ab,O,rfl,S,ad,_,g⟩:=R;clear j g;obtain n|hlp:=Ty l.length
 ·have n:=T3.1 n;subst n;clear G H;go_enter (n119 L),Tryz.ntmps119;go_wp2_with fail;go_ret;exact⟨by rw[qI _ _ (.inl rfl)];rfl,Below.refl _ _⟩
 obtain p|hmp:=Ty m.length
 ·have p:=T3.1 p;subst p;clear G H;go_enter (n119 L),Tryz.ntmps119;go_wp2_with fail;all_goals
   go_ret;exact⟨by rw[qI _ _ (.inr rfl)];rfl,Below.refl _ _⟩
 have T:Hid _:=tM l m (TO.1 hlp) (TO.1 hmp);have U:∀x∈bt l m,0<=x/\x<=999:=λx f=>A x (Uy.1 f).1;have V:∀x∈bt m l,0<=x/\x<=999:=λx f=>B x (Uy.1 f).1;have q:(bt l m).length<=l.length:=TF _ _;have af:¬l=[]:=TO.1 hlp;have ag:((l.length:Int)==0)=false:=by rw[SY];omega
 have ak:¬m=[]:=TO.1 hmp;have an:((m.length:Int)==0)=false:=by rw[SY];omega
 clear A B;have O:=G w M N;go_enter (n119 L),Tryz.ntmps119;go_wp2_with (first|(go_at_call 141;refine O.mono ?_;clear O G;rintro e w2 ⟨x,rfl,f,a⟩;have W:=H w2 (N.stays (ae.below a) (λb X o x e h=>by subst e;exact df.carry (Carry.keep (ae.below a)) b b o x rfl h)) (M.stays (ae.below a) (λb X o x e h=>by subst e;exact df.carry (Carry.keep (ae.below a)) b b o x rfl h)))|(go_at_call 141;refine W.mono ?_;clear W H;rintro e w3 ⟨y,rfl,v,r⟩));have P:=ae.below r;have C:=(vq f).stays P (λb X o x e h=>by subst e;exact df.carry (Carry.keep P) b b o x rfl h);have D:=vq v;have B3:=a.trans (r.mono a.size);clear f v a r M N P;obtain⟨xs,t⟩:=ex (bt l m);obtain⟨z,u⟩:=ex (bt m l);rw[<-t,<-u]at T;rw[<-t]at C U q;rw[<-u]at D V;clear t u;obtain⟨ax,cx,rfl,_⟩:=id C;obtain⟨ay,cy,rfl,_⟩:=id D
 go_loop [7,8] (λs i=>∃k:Nat,k<=10/\i=.int .i64 k/\s=.int .i64 (ni xs z k)) (λs i=>10-(intOf i).toNat)
 case atStart=>exact⟨0,by omega,rfl,rfl⟩
 case round=>
  obtain⟨k,hk,rfl,rfl⟩:=hrel;have E:=Co xs z k;have Y:ni xs z k<=400:=Sq E (Sq (Nat.mul_le_mul hk (Sq q I)) (by omega));obtain ar|hge:=Sr k 10
  ·have Z:=vo L (k:Int) w3 C U;have cY:=vo L (k:Int) w3 D V;have aM:aL xs k<=40:=Sq (TF _ _) (Sq q I);have d:=vt xs z k;have HS:Hid _:=d;clear d E C D;go_wp2_with (first|(go_at_call 142;refine Z.mono ?_;clear Z;rintro e w4 ⟨rfl,rfl⟩)|(go_at_call 142;refine cY.mono ?_;rintro e w4 ⟨rfl,rfl⟩));refine⟨⟨k+1,by omega,by go_num,?_⟩,by simp[intOf];omega⟩;rw[HS.out];refine Te (Value.int .i64) ?_;split<;>omega
  have F:k=10:=by omega
  subst F;clear C D;go_wp2;go_ret;have e1:(2*((l.length:Int)-xs.length)+ni xs z 10)=((2*(l.length-xs.length)+ni xs z 10:Nat):Int):=by omega
  have e2:((l.length:Int)+m.length)=((l.length+m.length:Nat):Int):=by omega
  refine⟨?_,B3⟩;rw[T.out,<-e1,<-e2];rfl
def eO(b):aS [] b=b.length:=OZ b
def gI(a):aS a []=a.length:=KL a
def lW(x y)(a b:Bs):aS (x::a) (y::b)=if x=y then aS a b else 1+min (aS a b) (min (aS a (y::b)) (aS (x::a) b)):=by rw[O0]
def sK:∀(n) (a b),a.length+b.length<=n->(∀x,aS a b<=aS (x::a) b+1/\aS (x::a) b<=aS a b+1)/\(∀y,aS a b<=aS a (y::b)+1/\aS a (y::b)<=aS a b+1):=by intro n;induction n with|zero=>intro a b h;have d:a=[]:=Tr (by omega);have e:b=[]:=Tr (by omega);subst d;subst e;simp[eO,gI]|succ n c=>intro a b h;constructor;intro x;(cases b with|nil=>rw[gI,gI];simp only[Ss];omega|cons y b=>simp only[Ss]at h;rw[lW];have f:=(c a b (by omega)).2 y;split;omega;constructor;(have g:aS a (y::b)<=aS (x::a) b+1+1:=by have:=(c a b (by omega)).1 x;omega);omega;omega);intro y;cases a with|nil=>rw[eO,eO];simp only[Ss];omega|cons x a=>simp only[Ss]at h;rw[lW];have f:=(c a b (by omega)).1 x;split;omega;constructor;have:=(c a b (by omega)).2 y;omega;omega
def KQ(x y)(a b:Bs):aS (x::a) (y::b)=min (aS a b+if x=y then 0 else 1) (min (aS a (y::b)+1) (aS (x::a) b+1)):=by have c:=(sK _ a b (Sp _)).1 x;have d:=(sK _ a b (Sp _)).2 y;rw[lW];split<;>omega
def mJ(a b):aS a b<=a.length+b.length:=by induction a with|nil=>rw[eO];simp|cons x a c=>have:=((sK _ a b (Sp _)).1 x).2;simp only[Ss];omega
def Pf:((Tryz.prog).info? 36).map (λi=>(i.zero,i.size,i.bytes))=some (some (.slice none 0 0),1,24):=by kernel_rfl
def nF(N n m p:Nat)(r:Nat):Value:=if p<=r then .slice (some ⟨N+1+(n-r),0,none⟩) (m+1) (m+1)else .slice none 0 0
def ya(a b:Bs)(r q:Nat)(k:Nat):Value:=if q<=k then .int .i64 (aS (a.drop r) (b.drop k))else .int .i64 0
structure Rows(w wr:World)(a b:Bs)(p:Nat):Prop where
 outer:wr.rowIs w.heap.size 36 (a.length+1) (nF w.heap.size a.length b.length p)
 rows:∀r,p<=r->r<=a.length->wr.rowIs (w.heap.size+1+(a.length-r)) 3 (b.length+1) (ya a b r 0)
 size:wr.heap.size=w.heap.size+1+(a.length+1-p)
 below:Below w.heap.size w wr
structure uB(w wr:World)(a b:Bs)(q p:Nat):Prop where
 outer:wr.rowIs w.heap.size 36 (a.length+1) (nF w.heap.size a.length b.length q)
 rows:∀r,q<r->r<=a.length->wr.rowIs (w.heap.size+1+(a.length-r)) 3 (b.length+1) (ya a b r 0)
 row:wr.rowIs (w.heap.size+1+(a.length-q)) 3 (b.length+1) (ya a b q p)
 size:wr.heap.size=w.heap.size+1+(a.length+1-q)
 below:Below w.heap.size w wr
def uB.NI{w wr a b q}(h:uB w wr a b q 0)(d:q<=a.length):Rows w wr a b q:=
 ⟨h.outer,λr e c=>by
  obtain h3|h3:=Sr q r
  ·exact h.rows r h3 c
  ·have:r=q:=by omega
   subst this;exact h.row,h.size,h.below⟩
def uB.step{w wr:World}{a b:Bs}{q p:Nat}(h:uB w wr a b q (p+1))(d:q<=a.length)(f:p<=b.length):uB w (wr.setCell ⟨w.heap.size+1+(a.length-q),p,none⟩ (.int .i64 (aS (a.drop q) (b.drop p)))) a b q p where
 outer:=h.outer.setOther (by simp only[];omega) _
 rows r h1 h2:=(h.rows r h1 h2).setOther (by simp only[];omega) _
 row:=(h.row.set p _).congr λi g=>by
  unfold ya;by_cases e:i=p
  ·rw[Sn e,Sn (by omega),e]
  ·rw[Sm e]
   by_cases c:p<=i
   ·rw[Sn (by omega),Sn c]
   ·rw[Sm (by omega),Sm c]
 size:=by simp[World.setCell,h.size]
 below:=h.below.setCell (by simp only[];omega) _
def uB.drewN{w wr a b q p}(h:uB w wr a b q p)(n):uB w (wr.drewN n) a b q p:=⟨h.outer,h.rows,h.row,h.size,Go.below_drewN h.below n⟩
def Rows.next{w wr a b q}(h:Rows w wr a b (q+1))(l:q<=a.length):uB w ((wr.alloc (.cells (madeCells #[.int .i64 0] (b.length+1)) 3)).setCell ⟨w.heap.size,q,none⟩ (.slice (some ⟨wr.heap.size,0,none⟩) (b.length+1) (b.length+1))) a b q (b.length+1):=by (have d:wr.heap.size=w.heap.size+1+(a.length-q):=by rw[h.size];omega);have c:=World.rowIs_made wr (.int .i64 0) (b.length+1) 3;rw[d]at c;refine⟨((h.outer.alloc _).set q _).congr λi g=>?_,λr j k=>((h.rows r j k).alloc _).setOther (by simp only[];omega) _,((c.setOther (by simp only[];omega) _).congr λi g=>?_),?_,(h.below.alloc (by omega) _).setCell (Sp _) _⟩;unfold nF;by_cases e:i=q;rw[Sn e,Sn (by omega),e,d];rw[Sm e];by_cases f:q<=i;rw[Sn (by omega),Sn f];rw[Sm (by omega),Sm f];unfold ya;rw[Sm (by omega)];simp[World.setCell,d];omega
def Cq(a b:ByteArray)(w:World)(ha:a.size<=1000)(hb:b.size<=1000):Calls (Qs fs) 88 #[.string a,.string b] w λe w'=>e=.returned (.slice (some ⟨w.heap.size,0,none⟩) (a.size+1) (a.size+1))/\Rows w w' a.data.toList b.data.toList 0:=by
 have E:=run_make_row' (P:=Qs fs) 142 36 (.slice none 0 0) 24 Tryz.underlying142 Pf rfl .i64 .i64 (a.size+1) (by omega) (by omega);have F:=run_make_row' (P:=Qs fs) 36 3 (.int .i64 0) 8 Tryz.underlying36 (Hi fs) rfl .i64 .i64 (b.size+1) (by omega) (by omega);rw[show((a.size+1:Nat):Int)=(a.size:Int)+1 by omega]at E;rw[show((b.size+1:Nat):Int)=(b.size:Int)+1 by omega]at F;have Q:=Lib.size_eq a;have R:=Lib.size_eq b;obtain⟨A,n⟩:=ex (a.data.toList);obtain⟨B,s⟩:=ex (b.data.toList);rw[<-n]at Q;rw[<-s]at R;rw[<-n,<-s];have d:Hid (a.size=A.length/\b.size=B.length):=⟨Q,R⟩
 have HG:Hid ((∀q (h:q<a.size),A.drop q=a[q]::A.drop (q+1))/\(∀q (h:q<b.size),B.drop q=b[q]::B.drop (q+1))):=⟨λq h=>by rw[n];exact drop_cons a q h,λq h=>by rw[s];exact drop_cons b q h⟩
 clear Q R n s;go_enter (n88 L),Tryz.ntmps88;go_wp2;go_loopw [6] (λi wr=>∃(p:Nat) (j:Int),p<=a.size+1/\j=(p:Int)-1/\i=.int .i64 j/\Rows w wr A B p) (λi _=>(intOf i+1).toNat);case atStart=>refine⟨a.size+1,_,Sp _,rfl,by go_num,?_⟩;have h:=World.rowIs_made w (.slice none 0 0) (a.size+1) 36;rw[d.out.1]at h⊢;refine⟨h.congr λi hi=>?_,λr h1 h2=>by omega,by simp,(aH w _)⟩;unfold nF;rw[Sm (by omega)]
 case round=>
  obtain⟨p,G,hp,k,rfl,D⟩:=hrel;obtain rfl|hpos:=Ty p
  ·(obtain rfl:G= -1:=by omega);clear k;have HR:Hid _:=D;clear D;go_wp2;go_ret;exact⟨rfl,HR.out⟩
  obtain⟨q,rfl⟩:∃q,p=q+1:=⟨p-1,by omega⟩
  obtain rfl:G=(q:Int):=by omega
  clear k;have H:∀o,(wr.alloc o).cell? ⟨w.heap.size,q,none⟩=some (.slice none 0 0):=λo=>by rw[(D.outer.alloc o).cell (by have:=d.out.1;omega)];unfold nF;rw[Sm (by omega)]
  have I:∀o,(wr.alloc o).frozen? ⟨w.heap.size,q,none⟩=false:=λo=>(D.outer.alloc o).frozen q;have f:=D.next (by have:=d.out.1;omega);rw[<-d.out.2]at f;have O:Hid _:=f;clear f D;go_wp2;clear H I;go_loopw [7] (λi wi=>∃(z:Nat) (j:Int),z<=b.size+1/\j=(z:Int)-1/\i=.int .i64 j/\uB w wi A B q z) (λi _=>(intOf i+1).toNat);case atStart=>exact⟨b.size+1,_,Sp _,rfl,by go_num,O.out⟩
  case round=>
   clear O;obtain⟨z,G,ag,k,rfl,f⟩:=hrel;obtain rfl|hpos2:=Ty z
   ·(obtain rfl:G= -1:=by omega);clear k;have O:Hid _:=f;clear f;go_wp2;refine⟨⟨q,_,by omega,rfl,by go_num,O.out.NI (by have:=d.out.1;omega)⟩,by simp[intOf]⟩
   (obtain⟨c,rfl⟩:∃c,z=c+1:=⟨z-1,by omega⟩);(obtain rfl:G=(c:Int):=by omega);(clear k;have t:q<=A.length:=by have:=d.out.1;omega);(have u:c<=B.length:=by have:=d.out.2;omega);(have S:wr.cell? ⟨w.heap.size,q,none⟩=some (.slice (some ⟨w.heap.size+1+(A.length-q),0,none⟩) (b.size+1) (b.size+1)):=by rw[f.outer.cell (by omega)];unfold nF;rw[Sn (Sp _),d.out.2]);(have J:wr.cell? ⟨w.heap.size+1+(A.length-q),c,none⟩=some (.int .i64 0):=by rw[f.row.cell (by omega)];unfold ya;rw[Sm (by omega)]);have T:=f.row.frozen c;have l:=f.step t u;have HS:Hid _:=l;clear l;obtain⟨U,m⟩:=ex (w.heap.size+1+(A.length-q));rw[<-m]at S J T HS;obtain hqa|hqa:=Sr q a.size
   ·obtain hcb|hcb:=Sr c b.size
    ·(have V:wr.cell? ⟨w.heap.size,q+1,none⟩=some (.slice (some ⟨w.heap.size+1+(A.length-(q+1)),0,none⟩) (b.size+1) (b.size+1)):=by rw[f.outer.cell (by have:=d.out.1;omega)];unfold nF;rw[Sn (by omega),d.out.2]);(have C:=f.rows (q+1) (by omega) (by have:=d.out.1;omega);have e11:wr.cell? ⟨w.heap.size+1+(A.length-(q+1)),c+1,none⟩=some (.int .i64 (aS (A.drop (q+1)) (B.drop (c+1)))):=by rw[C.cell (by have:=d.out.2;omega)];unfold ya;rw[Sn (SE _)]);(have e10:wr.cell? ⟨w.heap.size+1+(A.length-(q+1)),c,none⟩=some (.int .i64 (aS (A.drop (q+1)) (B.drop c))):=by rw[C.cell (by have:=d.out.2;omega)];unfold ya;rw[Sn (SE _)]);(have W:wr.cell? ⟨U,c+1,none⟩=some (.int .i64 (aS (A.drop q) (B.drop (c+1)))):=by rw[m,f.row.cell (by have:=d.out.2;omega)];unfold ya;rw[Sn (Sp _)]);(obtain⟨ak,x⟩:=ex (w.heap.size+1+(A.length-(q+1)));rw[<-x]at V e11 e10;have y:aS (A.drop q) (B.drop c)=min (aS (A.drop (q+1)) (B.drop (c+1))+if a[q]=b[c]then 0 else 1) (min (aS (A.drop (q+1)) (B.drop c)+1) (aS (A.drop q) (B.drop (c+1))+1)):=by have g1:=HG.out.1 q hqa;have g2:=HG.out.2 c hcb;rw[g1,g2,KQ]);(have X:aS (A.drop (q+1)) (B.drop (c+1))<=2000:=Sq (mJ _ _) (by rw[SK,SK];have:=d.out;omega);have Y:aS (A.drop (q+1)) (B.drop c)<=2000:=Sq (mJ _ _) (by rw[SK,SK];have:=d.out;omega);have Z:aS (A.drop q) (B.drop (c+1))<=2000:=Sq (mJ _ _) (by rw[SK,SK];have:=d.out;omega);rw[y]at HS;obtain⟨an,K⟩:=ex (aS (A.drop (q+1)) (B.drop (c+1)));obtain⟨ao,M⟩:=ex (aS (A.drop (q+1)) (B.drop c));obtain⟨ar,N⟩:=ex (aS (A.drop q) (B.drop (c+1)));rw[<-K]at e11 X HS;rw[<-M]at e10 Y HS;rw[<-N]at W Z HS;have ax:((q:Int)==a.size)=false:=by rw[SY];omega);(have ay:((c:Int)==b.size)=false:=by rw[SY];omega);(have af:¬(q:Int)=a.size:=by omega);clear f m x y t u C K M N;by_cases g:a[q]=b[c]
     ·rw[Sn g]at HS;(have aa:((a[q].toNat:Int)!=(b[c].toNat:Int))=false:=by rw[g];simp);clear g;go_wp2;go_quiet (fail);go_wp2
      (go_region);go_wp2;refine⟨⟨c,_,by omega,rfl,by go_num,?_⟩,by simp[intOf]⟩;refine(Te (λv=>uB w ((wr.drewN _).setCell ⟨U,c,none⟩ (Value.int .i64 v)) A B q c) ?_).mp (HS.out.drewN (nq+1));split<;>split<;>omega
     rw[Sm g]at HS;(have aa:((a[q].toNat:Int)!=(b[c].toNat:Int))=true:=by rw[Ub];intro h;exact g (U8.1 (by omega)));clear g;go_wp2;go_quiet (fail);go_wp2
     (go_region);go_wp2;refine⟨⟨c,_,by omega,rfl,by go_num,?_⟩,by simp[intOf]⟩;refine(Te (λv=>uB w ((wr.drewN _).setCell ⟨U,c,none⟩ (Value.int .i64 v)) A B q c) ?_).mp (HS.out.drewN (nq+1));split<;>split<;>omega
    (have ab:c=b.size:=by omega);(have y:aS (A.drop q) (B.drop c)=a.size-q:=by rw[Tc (by have:=d.out.2;omega:B.length<=c),gI,SK,d.out.1]);rw[y,show((a.size-q:Nat):Int)=(a.size:Int)-q by omega]at HS;subst ab;clear f m y t u;go_wp2;refine⟨⟨b.size,_,by omega,rfl,by go_num,HS.out⟩,by simp[intOf]⟩
   (have ad:q=a.size:=by omega);(have y:aS (A.drop q) (B.drop c)=b.size-c:=by rw[Tc (by have:=d.out.1;omega:A.length<=q),eO,SK,d.out.2]);rw[y,show((b.size-c:Nat):Int)=(b.size:Int)-c by omega]at HS;subst ad;clear f m y t u;go_wp2;refine⟨⟨c,_,by omega,rfl,by go_num,HS.out⟩,by simp[intOf]⟩
def E8(a b:ByteArray)(w:World)(h:a.size<=1000)(j:b.size<=1000):Calls (Qs fs) 140 #[.string a,.string b] w λe w'=>e=.returned (.int .i64 (aS a.data.toList b.data.toList))/\Below w.heap.size w w':=by have e88:=e88 L;have d:=Cq L a b w h j;go_enter (n140 L),Tryz.ntmps140;go_wp2_with (first|(go_at_call 88;refine d.mono ?_;clear d;rintro e w2 ⟨rfl,c⟩;have f:=c.outer.cell (i:=0) (by omega);have g:=(c.rows 0 (Sp _) (SE _)).cell (i:=0) (by omega);simp only[nF,ya,SJ,Sp,Tk,Nat.sub_zero]at f g;rw[<-Lib.size_eq,<-Lib.size_eq]at f;rw[<-Lib.size_eq]at g;have k:Hid _:=c.below;clear c));go_ret;exact⟨rfl,k.out⟩
def yS(a b:ByteArray):dI a.data.toList b.data.toList=if a.size=0\/b.size=0 then 0 else(100*((max a.size b.size:Nat)-(aS a.data.toList b.data.toList:Int)))/(max a.size b.size:Nat):=by unfold dI;rw[<-Lib.size_eq,<-Lib.size_eq,fB,fB];by_cases c:a.size=0<;>by_cases d:b.size=0<;>simp[c,d]
def vu:∀(n) (a b),a.length+b.length<=n->aS a b<=max a.length b.length:=by intro n;induction n with|zero=>intro a b h;have c:a=[]:=Tr (by omega);have d:b=[]:=Tr (by omega);subst c;subst d;rw[eO];simp|succ n e=>intro a b h;cases a with|nil=>rw[eO];omega|cons x a=>cases b with|nil=>rw[gI];omega|cons y b=>simp only[Ss]at h⊢;have:=e a b (by omega);rw[lW];split<;>omega
def sL(a b:ByteArray)(w:World)(m:a.size<=1000)(n:b.size<=1000):Calls (Qs fs) 115 #[.string a,.string b] w λe w'=>e=.returned (.int .i64 (dI a.data.toList b.data.toList))/\Below w.heap.size w w':=by
 have Qz:=Qz L;have j:=λo=>E8 L a b o m n;have g:Hid _:=yS a b;have h:=vu _ a.data.toList b.data.toList (Sp _);rw[<-Lib.size_eq,<-Lib.size_eq]at h;obtain⟨d,l⟩:=ex (aS a.data.toList b.data.toList);rw[<-l]at j g h;clear l;obtain k|hpa:=Ty a.size
 ·have f:=g.out;rw[Sn (.inl k)]at f;have c:Hid _:=f;clear f g;go_enter (n115 L),Tryz.ntmps115;go_wp2_with fail;go_ret;exact⟨by rw[c.out];rfl,Below.refl _ _⟩
 obtain k|hpb:=Ty b.size
 ·have f:=g.out;rw[Sn (.inr k)]at f;have c:Hid _:=f;have p:((a.size:Int)==0)=false:=by rw[SY];omega
  clear f g;go_enter (n115 L),Tryz.ntmps115;go_wp2_with fail;all_goals
   go_ret;exact⟨by rw[c.out];rfl,Below.refl _ _⟩
 have f:=g.out;rw[Sm (by omega)]at f;have c:Hid _:=f;have p:((a.size:Int)==0)=false:=by rw[SY];omega
 have q:((b.size:Int)==0)=false:=by rw[SY];omega
 clear f g;go_enter (n115 L),Tryz.ntmps115;go_wp2_with (first|(go_at_call 140;refine(j _).mono ?_;clear j;rintro e w2 ⟨rfl,i⟩));go_ret;exact⟨by rw[c.out,show max a.size b.size=b.size by omega];rfl,i⟩;go_ret;exact⟨by rw[c.out,show max a.size b.size=a.size by omega];rfl,i⟩
end Go.Proofs
namespace Go.Proofs
open Go.Tm Go.RowKit
structure aj(w0 w1:World) where
 val:World
 st:ae w1 val
 be:Below w0.heap.size w0 val
def uU(w0 w1 w':World):Prop:=∃x:aj w0 w1,w'=x.val
def uU.st{w0 w1 w'}(h:uU w0 w1 w'):ae w1 w':=by obtain⟨x,rfl⟩:=h;exact x.st
def uU.be{w0 w1 w'}(h:uU w0 w1 w'):Below w0.heap.size w0 w':=by obtain⟨x,rfl⟩:=h;exact x.be
def aj.cell{w0 w1 b o v}(h:w1.cell? ⟨b,o,none⟩=some v)(x:aj w0 w1):x.val.cell? ⟨b,o,none⟩=some v:=x.st.cell h
def aj.calls{P f args w0 w1}{x:aj w0 w1}{v}(h:Calls P f args x.val λe w'=>e=.returned v/\Below x.val.heap.size x.val w'):Calls P f args x.val λe a=>e=.returned v/\∃y:aj w0 w1,a=y.val:=
 h.mono λe w' ⟨c,b⟩=>⟨c,⟨w',x.st.trans (ae.below b),x.be.trans (b.mono x.be.size)⟩,rfl⟩
def aj.same{P f args w0 w1}{x:aj w0 w1}{v}(h:Calls P f args x.val λe w'=>e=.returned v/\w'=x.val):Calls P f args x.val λe a=>e=.returned v/\∃y:aj w0 w1,a=y.val:=
 h.mono λe w' ⟨b,c⟩=>⟨b,x,c⟩
def aR{P b Q a w w0 w1 l}(c:P.follows .mixedOrders=true)(d:Region.lexB .any l.toArray=true)(e:ae w1 w)(f:Below w0.heap.size w0 w) (h:wpQuiet P l.toArray (λw'=>∃x:aj w0 w1,w'=x.val) (λg=>∀w',(∃x:aj w0 w1,w'=x.val)->Q .normal g w') l a):(Code.region b l.toArray true).wp P Q a w:=
 wp_region_quiet (C:=λw'=>∃x:aj w0 w1,w'=x.val) c d ⟨⟨w.drew,e,f.drew⟩,rfl⟩ (by simpa using h)
section
variable {P:Program} {md:Region.Mode} {ops:Array Oper} {C:World->Prop}
def nG(P:Program)(md:Region.Mode)(ops:Array Oper)(C:World->Prop)(n:Nat)(L:Array Bool->Act->Prop):Nat->Array Bool->Act->Prop
 |0,s,a=>L s a
 |f+1,s,a=>Region.ready md ops s≠[]/\∀i∈Region.ready md ops s,i<n/\qOp P ops C i (nG P md ops C n L f (s.setIfInBounds i true)) a
def nG.any{n g L Q}(d:∀s a w,C w->L s a->wpAny P md ops Q g s a w):∀(f) (s) (a) (w),C w->nG P md ops C n L f s a->wpAny P md ops Q (f+g) s a w:=by intro f;induction f with|zero=>intro s a w b h;rw[SF];exact d s a w b h|succ f e=>(intro s a w b h;have j:f+1+g=(f+g)+1:=by omega);rw[j];exact⟨λk=>absurd k h.1,λi l=>wpOp_of_qOp b (λm w' c o=>e _ m w' c o) (h.2 i l).2⟩
def nG.first{n i o v L}(B:ops[i]? =some o)(m:∀(j:Nat) (o) cs b,ops[j]? =some o->o.op≠ .select cs b) (I:Region.sinkB md ops n=true) (J:Region.chainB md ops n=true) (K:n<ops.size) (x:i<n) (q:∀s a,L s a->∀j∈Region.ready md ops s,n<=j):∀(f) (s) (a),HeadInv md ops n s->(∀j r,ops[j]? =some r->j≠i->s.getD j true=false->(∀e∈r.after,Region.binds md e=true->e.on≠i)->o.apart ops r=true)->i∈Region.ready md ops s->YieldsIn P ops C o v a->nG P md ops C n L f (s.setIfInBounds i true) (a.put o.dst v)->nG P md ops C n L (f+1) s a:=by intro f;induction f with|zero=>intro s a g d t A H;refine⟨Vz t,λj u=>?_⟩;have l:j<n:=Ve λh=>tail_waits I J K g _ i rfl x (mem_ready.1 t).1 j (by omega) u;refine⟨l,?_⟩;by_cases c:j=i;rw[c];exact A.qOp B H;have:=q _ _ H j (ready_mono u c);omega|succ f O=>intro s a g d t A H;refine⟨Vz t,λj u=>?_⟩;have l:j<n:=Ve λh=>tail_waits I J K g _ i rfl x (mem_ready.1 t).1 j (by omega) u;refine⟨l,?_⟩;by_cases c:j=i;rw[c];exact A.qOp B H;obtain⟨p,r,w,y⟩:=mem_ready.1 u;(have D:∀e∈r.after,Region.binds md e=true->e.on≠i:=λe Q R E=>by have M:=y e Q R;rw[E,getD_both (mem_ready.1 t).1]at M;cases M);have S:=qOp_put w (d j r w c p D) (λcs b=>m i o cs b B) (λcs b=>m j r cs b w) A (H.2 j (ready_mono u c)).2;refine qOp_mono (λT N=>O _ T (g.set u l) ?_ (ready_mono t (SN c)) N.1 ?_) S;intro k U V F G;refine d k U V F ?_;by_cases z:j=k;rw[<-z];exact p;rwa[getD_set_ne true z]at G;rw[Array.setIfInBounds_comm _ _ c];exact N.2
def nG.lex{n g f}(d:Region.noSelect ops=true)(r:Region.sinkB md ops n=true)(t:Region.chainB md ops n=true)(u:n<ops.size):∀(l) (k) (s) (a),(∀j,j<l.length->l[j]? =ops[k+j]?)->k+l.length=n->HeadInv md ops n s->Region.lexHead md ops g l.length k s=true->wpQuiet P ops C f l a->nG P md ops C n (λs' p=>Region.seqB md ops g n s'=true/\f p) l.length s a:=by
 intro l;induction l with
 |nil=>(intro k s a i m b c h;obtain rfl:k=n:=by simpa using m);exact⟨c,h⟩
 |cons o l w=>(intro k s a i m b c h;have e:ops[k]? =some o:=(i 0 (Uz _)).symm;rw[Ss]at m;rw[Ss,Region.lexHead,SG,SG]at c;have q:k∈Region.ready md ops s:=by simpa using c.1.1);(have x:qOp P ops C k (wpQuiet P ops C f l) a:=by unfold qOp;rw[e];exact h);obtain⟨v,y,z⟩:=yieldsIn_of_qOp e x;refine nG.first e (Region.noSelect_spec d) r t u (by omega) (λs' p A=>seqB_ready A.1) l.length s a b (Region.free_spec e c.1.2) q y ?_;refine w (k+1) _ _ (λj B=>?_) (by omega) (b.set q (by omega)) c.2 z;have:=i (j+1) (by rw[Ss];omega);rw[show k+(j+1)=k+1+j by omega]at this;exact this
end
def aW{P u Q a w w0 w1}{l:List Oper}(n)(v:P.follows .mixedOrders=true)(i:Region.lexTailB .any l.toArray n=true) (y:ae w1 w) (z:Below w0.heap.size w0 w) (h:wpQuiet P l.toArray (λw'=>∃x:aj w0 w1,w'=x.val) (λk=>∀w',(∃x:aj w0 w1,w'=x.val)->wpList P l.toArray Q (l.drop n) k w') (l.take n) a):(Code.region u l.toArray true).wp P Q a w:=by
 rw[Region.lexTailB]at i;simp only[SG,SP]at i;obtain⟨⟨⟨⟨c,o⟩,A⟩,B⟩,d⟩:=i;have D:n<l.length:=by simpa using o
 have b:(l.take n).length=n:=by rw[TH];omega
 have e:(l.drop n).length=l.toArray.size-n:=by simp
 have f:HeadInv .any l.toArray n (Array.replicate l.toArray.size false):=⟨by simp,λj G _ p=>(by rw[getD_replicate_false]at p;cases p),λt _ E=>getD_in (by simpa using E) (getD_replicate_false _ _)⟩
 refine wp_region_any v ?_;have H:=nG.lex (md:=.any) (g:=l.toArray.size-n) (C:=λw'=>∃x:aj w0 w1,w'=x.val) c A B o (l.take n) 0 _ a (λj q=>by
  have m:j<n:=by rw[b]at q;exact q
  simp[m]) (by rw[b];omega) f (by rw[b];exact d) h
 have R:=nG.any (Q:=Q) (g:=l.toArray.size-n) (λs k w' F r=>by have:=wpAny_of_seq (md:=.any) (Q':=Q) (l.drop n) n s k w' (λj=>by simp[Vf]) (by rw[e];exact r.1) (r.2 w' F);rwa[e]at this) _ _ _ _ ⟨⟨w.drew,y,z.drew⟩,rfl⟩ H;rw[b,show n+(l.toArray.size-n)=l.toArray.size by omega]at R;exact R
inductive Src(w:World)(size:Nat):Option Addr->Nat->List Value->Prop
 |nil:Src w size none 0 []
 |some (ad:Addr) (m:Nat) (news:List Value) (hl:news.length=m*size) (hc:∀j u,news[j]? =some u->w.cell? (ad.add j)=some u):Src w size (some ad) m news
section
variable {P:Program} (w:World) (base:Nat) (t ty e:TypeId) (i:TypeInfo) (z:Value) (size bytes:Nat) (ht:P.underlying t=some (.slice e)) (hi:P.info? e=some i) (hz:i.zero=some z) (hsize:i.size=size) (hby:i.bytes=bytes) (hzs:z.cells.size=size) (hsz:0<size) (v:Value) (n:Nat) (xs:List Value) (hown:w.ownsRow base e size v n xs) (A:Option Addr) (m c:Nat) (news:List Value) (hs:Src w size A m news) (h1:∀u∈news,u.oneCell'=true) (h63:n+m<=maxLen) (hbytes:(n+m)*bytes<=140737488355328) (hbase:base<=w.heap.size)
include ht hi hz hsize hby hzs hsz hown hs h1 h63 hbytes hbase
def vO:∃b w',(Builtin.append_ #[t,t] ty #[v,.slice A m c]).run P w=.ok b w'/\w'.ownsRow base e size b (n+m) (xs++news)/\w.grownBy w' v.ownBlock/\(b.ownBlock=v.ownBlock\/b.ownBlock=some w.heap.size):=by cases hs with|some ad m news f j=>obtain⟨b,w',h,k,l,_,p⟩:=run_append_own_at (P:=P) w base t ty e i z size bytes ht hi hz hsize hby hzs hsz v n xs hown ad m c news f j h1 h63 hbytes hbase;exact⟨b,w',h,k,l,p⟩|nil=>refine⟨v,w,?_,by rw[TK,TQ];exact hown,World.grownBy.refl w _,.inl rfl⟩;obtain⟨rfl,_⟩|⟨g,cap,q,rfl,_,_,d,_⟩:=hown.2;simp[Builtin.append_,run_underlying ht,sizeOf,typeInfo,hi,Builtin.lenOf,Builtin.firstCells];simp[Builtin.append_,run_underlying ht,sizeOf,typeInfo,hi,Builtin.lenOf,Builtin.firstCells,d,storeCells]
end
section
variable {P:Program} {w:World} {o:Oper} {a:Act} {K:Act->World->Prop} {Q:Exit->Act->World->Prop} (s x:Operand) (t:TypeId) (ho:o.op=.call {callee:=.builtin .append,args:=#[s,x],argTypes:=#[t,t]}) (base:Nat) (e:TypeId) (i:TypeInfo) (z:Value) (size bytes:Nat) (ht:P.underlying t=some (.slice e)) (hi:P.info? e=some i) (hz:i.zero=some z) (hsize:i.size=size) (hby:i.bytes=bytes) (hzs:z.cells.size=size) (hsz:0<size) (v:Value) (n:Nat) (xs:List Value) (hsv:a.eval s=v) (hown:w.ownsRow base e size v n xs) (A:Option Addr) (m c:Nat) (news:List Value) (hxv:a.eval x=.slice A m c) (hs:Src w size A m news) (h1:∀u∈news,u.oneCell'=true) (h63:n+m<=maxLen) (hbytes:(n+m)*bytes<=140737488355328) (hbase:base<=w.heap.size)
include ho ht hi hz hsize hby hzs hsz hown hs h1 h63 hbytes hbase hsv hxv
def pr(h:∀b w',w'.ownsRow base e size b (n+m) (xs++news)->w.grownBy w' v.ownBlock->(b.ownBlock=v.ownBlock\/b.ownBlock=some w.heap.size)->K (a.put o.dst b) w'):o.wp P a w K Q:=by obtain⟨b,w',d,f,g,j⟩:=vO (P:=P) w base t o.type e i z size bytes ht hi hz hsize hby hzs hsz v n xs hown A m c news hs h1 h63 hbytes hbase;unfold Oper.wp execOp;simp only[ho,resolve,invoke,builtin,Sem.run_bind,Sem.run_pure,Result.andThen_ok,List.map_toArray,VI,List.map_nil,hsv,hxv,d];exact h b w' f g j
def eX{ops:Array Oper}{rest:List Oper}(d:o.guard=none)(h:∀b w',w'.ownsRow base e size b (n+m) (xs++news)->w.grownBy w' v.ownBlock->(b.ownBlock=v.ownBlock\/b.ownBlock=some w.heap.size)->wpList P ops Q rest (a.put o.dst b) w'):wpList P ops Q (o::rest) a w:=wpList_plain d λ_ f=>pr s x t ho base e i z size bytes ht hi hz hsize hby hzs hsz v n xs hsv hown A m c news hxv hs h1 h63 hbytes hbase λb w' g j k=>f _ _ (h b w' g j k)
def bO{ops E}(d:o.guard=none)(h:∀b w',w'.ownsRow base e size b (n+m) (xs++news)->w.grownBy w' v.ownBlock->(b.ownBlock=v.ownBlock\/b.ownBlock=some w.heap.size)->K (a.put o.dst b) w'):if Region.wanted o (yielded ops a.tmps)=true then Oper.wp P o a w K Q else E:=by rw[Sn (by simp[Region.wanted,d])];exact pr s x t ho base e i z size bytes ht hi hz hsize hby hzs hsz v n xs hsv hown A m c news hxv hs h1 h63 hbytes hbase h
end
end Go.Proofs
namespace Go.Proofs
open Go.Tm Go.RowKit
variable {fs:Array Func} (L:bP fs)
def bc(K:Nat->Prop)(w:World)(mc:Array Value)(m:Mark):Prop:=∃a,mc=#[.string m.name,.string m.word,a,.int .i64 m.day,.bool m.known]/\aD K 1 df w a m.aP
structure OkM(m:Mark):Prop where
 word:m.word.size<=16
 fig:m.aP.length<=5
 code:∀x∈m.aP,0<=x/\x<=999
 day:0<=m.day/\m.day<=99999
def aD.ints{K w w'}(a:ae w w'){v l}(h:aD K 1 df w v l):aD K 1 df w' v l:=h.stays a λb c o x e h=>by subst e;exact df.carry (Carry.keep a) b b o x rfl h
def yT(t one two):bp t 0 one two=dI (aQ t.av one.word.data.toList) (aQ t.av two.word.data.toList):=rfl
def eT(t:Table)(one two:Bs)(k:Nat):Int:=(List.range k).foldl (λa k=>max a (dI (bH t k one) (bH t k two))) 0
def kv(t one two k):eT t one two (k+1)=max (eT t one two k) (dI (bH t k one) (bH t k two)):=by unfold eT;rw[UQ,Vd];rfl
def yU(t one two):bp t 1 one two=eT t one.word.data.toList two.word.data.toList t.aF.length:=rfl
def yV(t one two):bp t 2 one two=gp t (aQ t.av one.word.data.toList) (aQ t.av two.word.data.toList):=rfl
def yW(t one two):bp t 3 one two=dI (aQ t.av one.word.data.toList) (aQ t.av two.word.data.toList).reverse:=rfl
def yX(t one two):bp t 4 one two=o6 (aQ t.av one.word.data.toList) (aQ t.av two.word.data.toList):=rfl
def yY(t k one two)(h:k≠0/\k≠1/\k≠2/\k≠3/\k≠4):bp t k one two=bS one.aP two.aP:=by unfold bp;simp only[Sm h.1,Sm h.2.1,Sm h.2.2.1,Sm h.2.2.2.1,Sm h.2.2.2.2]
def sM{K:Nat->Prop}{v0 v1 v2:Value}{t:Table}{m1 m2:Array Value}{one two:Mark}(kd:Int)(w:World)(ht:IsTable K w v0 v1 v2 t)(u:OkT t)(h1:bc K w m1 one)(h2:bc K w m2 two)(o1:OkM one)(o2:OkM two):Calls (Qs fs) 70 #[.agg #[v0,v1,v2],.int .i64 kd,.agg m1,.agg m2] w λe w'=>e=.returned (.int .i64 (bp t kd one two))/\Below w.heap.size w w':=by
 have e54:=e54 L;have e65:=e65 L;have Qn:=Qn L;have Qo:=Qo L;have Qp:=Qp L;have Nv:=Nv L;have Qq:=Qq L;obtain⟨f1,rfl,r1⟩:=h1;obtain⟨f2,rfl,r2⟩:=h2;obtain⟨N,f⟩:=ex (w.alloc (.cells #[v0,v1,v2] 26));obtain⟨wb,g⟩:=ex (N.alloc (.cells #[.string one.name,.string one.word,f1,.int .i64 one.day,.bool one.known] 38));obtain⟨w1,j⟩:=ex (wb.alloc (.cells #[.string two.name,.string two.word,f2,.int .i64 two.day,.bool two.known] 38));have Sa:ae N w1:=by rw[j,g];exact(ae.alloc _ _).trans (ae.alloc _ _)
 have Sb:ae wb w1:=by rw[j];exact ae.alloc _ _
 have S1:ae w w1:=(by rw[f];exact ae.alloc _ _:ae w N).trans Sa;have B1:Below w.heap.size w w1:=by rw[j,g,f];exact(((Below.refl _ w).alloc (Sp _) _).alloc (by simp) _).alloc (by simp;omega) _
 have z:N.heap.size=w.heap.size+1:=by rw[f];simp
 have hsb:wb.heap.size=w.heap.size+1+1:=by rw[g,<-z];simp
 have ct:∀i v,(#[v0,v1,v2]:Array Value)[i]? =some v->w1.cell? ⟨w.heap.size,i,none⟩=some v:=λi v h=>Sa.cell (by rw[f];exact az w _ 26 i v h);have c1:∀i v,(#[.string one.name,.string one.word,f1,.int .i64 one.day,.bool one.known]:Array Value)[i]? =some v->w1.cell? ⟨w.heap.size+1,i,none⟩=some v:=λi v h=>Sb.cell (by rw[g,<-z];exact az N _ 38 i v h);have c2:∀i v,(#[.string two.name,.string two.word,f2,.int .i64 two.day,.bool two.known]:Array Value)[i]? =some v->w1.cell? ⟨w.heap.size+1+1,i,none⟩=some v:=λi v h=>by rw[j,<-hsb];exact az wb _ 38 i v h
 have t0:=ct 0 _ rfl;have t1:=ct 1 _ rfl;have t2:=ct 2 _ rfl;have a1:=c1 1 _ rfl;have a2:=c1 2 _ rfl;have b1:=c2 1 _ rfl;have b2:=c2 2 _ rfl;have hT:=ht.stays S1;have O:=r1.ints S1;have P:=r2.ints S1;go_enter (n70 L),Tryz.ntmps70;go_upto_region 1 with fail;rw[<-f,<-g,<-j];obtain⟨N0,h0⟩:=ex (w.heap.size);obtain⟨N1,h1⟩:=ex (w.heap.size+1);obtain⟨N2,h2⟩:=ex (w.heap.size+1+1);rw[<-h2]at b1 b2⊢;rw[<-h1]at a1 a2⊢;rw[<-h0]at t0 t1 t2⊢;have BW:Hid (Below w.heap.size w w1):=B1;clear f g j Sa Sb S1 B1 z hsb ct c1 c2 ht r1 r2 h0 h1 h2;have HT:Hid _:=hT;have Q:=cO u one.word.data.toList;have R:=cO u two.word.data.toList;rw[<-Lib.size_eq,<-cN]at Q R;obtain⟨z1,z2,z3,z4⟩:=o1;obtain⟨y1,y2,y3,y4⟩:=o2;have cB:∀(s:ByteArray),s.size<=16->∀x:aj w w1,Calls (Qs fs) 54 #[.agg #[v0,v1,v2],.string s] x.val λe w'=>e=.returned (.string (bs (aQ t.av s.data.toList)))/\∃y:aj w w1,w'=y.val:=λs hs x=>aj.calls (Cl L s x.val (hT.stays x.st) u (by omega));have J:=cB one.word z1;have M:=cB two.word y1;have C:=λx:aj w w1=>x.cell t0;have D:=λx:aj w w1=>x.cell t1;have E:=λx:aj w w1=>x.cell t2;have F:=λx:aj w w1=>x.cell a1;have a6:=λx:aj w w1=>x.cell a2;have G:=λx:aj w w1=>x.cell b1;have a7:=λx:aj w w1=>x.cell b2;refine aR (w0:=w) (w1:=w1) (by kernel_rfl) (by kernel_rfl) (ae.refl _) BW.out ?_;haveI H:Nonempty (aj w w1):=⟨⟨w1,ae.refl _,BW.out⟩⟩
 repeat (go_big_quiet_step (first|(go_at_call 54;exact J _)|(go_at_call 54;exact M _)))
 refine wpQuiet_nil ?_;rintro l ⟨⟨_,p,Bx⟩,rfl⟩;have r:=hT.stays p;have S:=O.ints p;have T:=P.ints p;have U:=p.cell t0;have V:=p.cell t1;have W:=p.cell t2;have X:=p.cell a1;have ba:=p.cell a2;have Y:=p.cell b1;have bb:=p.cell b2;clear J M cB C D E F a6 G a7 hT O P t0 t1 t2 a1 a2 b1 b2 HT H;obtain⟨A,hA⟩:=ex (bs (aQ t.av one.word.data.toList));obtain⟨B,hB⟩:=ex (bs (aQ t.av two.word.data.toList));have Z:A.data.toList=aQ t.av one.word.data.toList:=by rw[hA,dj]
 have aa:B.data.toList=aQ t.av two.word.data.toList:=by rw[hB,dj]
 rw[<-hA]at Q⊢;rw[<-hB]at R⊢;have b:Hid _:=(⟨Z,aa⟩:A.data.toList=aQ t.av one.word.data.toList/\B.data.toList=aQ t.av two.word.data.toList)
 clear hA hB Z aa;have q:Hid _:=Bx;by_cases k0:kd=0
 ·subst k0;have c:=sL L A B l (by omega) (by omega);go_wp2_with (first|(go_at_call 115;refine c.mono ?_;clear c;rintro e w2 ⟨rfl,d⟩));go_ret;exact⟨by rw[yT,<-b.out.1,<-b.out.2];rfl,q.out.trans (d.mono q.out.size)⟩
 have j0:(kd==0)=false:=by rw[SY];exact k0
 by_cases k2:kd=2
 ·subst k2;have c:=NH L A B l r u.Pe;go_wp2_with (first|(go_at_call 116;refine c.mono ?_;clear c;rintro e w2 ⟨rfl,d⟩));go_ret;exact⟨by rw[yV,<-b.out.1,<-b.out.2];rfl,q.out.trans (d.mono q.out.size)⟩
 have j2:(kd==2)=false:=by rw[SY];exact k2
 by_cases k3:kd=3
 ·subst k3;have c:=KN L B l (by omega);have c':=λwy=>sL L A (bs B.data.toList.reverse) wy (by omega) (by rw[cN,Vb,<-Lib.size_eq];omega);go_wp2_with (first|(go_at_call 117;refine c.mono ?_;clear c;rintro e w2 ⟨rfl,rfl⟩)|(go_at_call 115;refine(c' _).mono ?_;clear c';rintro e w2 ⟨rfl,d⟩));go_ret;exact⟨by rw[yW,<-b.out.1,<-b.out.2,dj];rfl,q.out.trans (d.mono q.out.size)⟩
 have j3:(kd==3)=false:=by rw[SY];exact k3
 by_cases k4:kd=4
 ·subst k4;have c:=QX L A B l (by omega) (by omega);go_wp2_with (first|(go_at_call 118;refine c.mono ?_;clear c;rintro e w2 ⟨rfl,rfl⟩));go_ret;exact⟨by rw[yX,<-b.out.1,<-b.out.2];rfl,q.out⟩
 have j4:(kd==4)=false:=by rw[SY];exact k4
 by_cases k1:kd=1
 ·subst k1;have HR:Hid ((l.cell? ⟨N0,0,none⟩=some v0/\l.cell? ⟨N0,2,none⟩=some v2)/\l.cell? ⟨N1,1,none⟩=some (.string one.word)/\l.cell? ⟨N2,1,none⟩=some (.string two.word)):=⟨⟨U,W⟩,X,Y⟩
  clear X Y;have n1:∀k,k<t.aF.length->∀s,(bH t k s).length<=3*s.length:=λk hk s=>lz u hk s;have ln:t.aF.length<=3:=u.vp;obtain⟨ao,c,rfl,bk,hc,a8,m⟩:=r.2.1;have HC:Hid _:=m;clear m a8;have HT:Hid _:=r;clear r S T W U;go_wp2;go_loopw [11,12] (λo i wr=>∃k:Nat,k<=t.aF.length/\i=.int .i64 k/\o=.int .i64 (eT t one.word.data.toList two.word.data.toList k)/\ae l wr/\Below w.heap.size w wr) (λo i _=>t.aF.length-(intOf i).toNat);case atStart=>exact⟨0,SE _,rfl,rfl,ae.refl _,q.out⟩
  case round=>
   (obtain⟨k,hk,rfl,rfl,a,n⟩:=hrel;have ab:=a.cell V;have HW:Hid _:=(⟨a,n⟩:ae l wr/\Below w.heap.size w wr));obtain I|hge:=Sr k t.aF.length
   ·have ad:=IsTable.stays a HT.out;have af:=a.cell HR.out.1.1;have ag:=a.cell HR.out.1.2;have ak:=a.cell HR.out.2.1;have an:=a.cell HR.out.2.2;clear a n V;have x1:=n1 k I one.word.data.toList;have x2:=n1 k I two.word.data.toList;rw[<-Lib.size_eq,<-cN]at x1 x2;have cS:∀(s:ByteArray),s.size<=16->∀x:aj w wr,Calls (Qs fs) 65 #[.agg #[v0,.slice ao t.aF.length c,v2],.int .i64 k,.string s] x.val λe w'=>e=.returned (.string (bs (bH t k s.data.toList)))/\∃y:aj w wr,w'=y.val:=λs hs x=>aj.calls (IC L k s x.val (ad.stays x.st) u (by omega) I);(have J:=cS one.word z1;have M:=cS two.word y1;have q3:∀x:aj w wr,Calls (Qs fs) 115 #[.string (bs (bH t k one.word.data.toList)),.string (bs (bH t k two.word.data.toList))] x.val λe w'=>e=.returned (.int .i64 (dI (bH t k one.word.data.toList) (bH t k two.word.data.toList)))/\∃y:aj w wr,w'=y.val:=λx=>by have h:=aj.calls (x:=x) (sL L (bs (bH t k one.word.data.toList)) (bs (bH t k two.word.data.toList)) x.val (by omega) (by omega));rw[dj,dj]at h;exact h);(obtain⟨sA,ar⟩:=ex (bs (bH t k one.word.data.toList));obtain⟨sB,ax⟩:=ex (bs (bH t k two.word.data.toList));obtain⟨lv,ay⟩:=ex (dI (bH t k one.word.data.toList) (bH t k two.word.data.toList));have aM:Hid _:=kv t one.word.data.toList two.word.data.toList k;rw[<-ar]at J q3;rw[<-ax]at M q3;rw[<-ay]at q3 aM;have C:=λx:aj w wr=>x.cell af;have D:=λx:aj w wr=>x.cell ab;have E:=λx:aj w wr=>x.cell ag;have F:=λx:aj w wr=>x.cell ak;have G:=λx:aj w wr=>x.cell an;clear cS ar ax ay x1 x2 n1 ad;go_wp2;clear af ab ag ak an;refine aR (w0:=w) (w1:=wr) (by kernel_rfl) (by kernel_rfl) (ae.refl _) HW.out.2 ?_;haveI H:Nonempty (aj w wr):=⟨⟨wr,ae.refl _,HW.out.2⟩⟩);(repeat (go_big_quiet_step (first|(go_at_call 65;exact J _)|(go_at_call 65;exact M _)|(go_at_call 115;exact q3 _))));(refine wpQuiet_nil ?_;rintro wz ⟨⟨_,Sz,Bz⟩,rfl⟩;have SB:Hid _:=(⟨Sz,Bz⟩:ae wr wz/\Below w.heap.size w wz));clear J M q3 C D E F G H Sz Bz;go_wp2;refine⟨⟨k+1,by omega,by go_num,by rw[aM.out];go_num,HW.out.1.trans SB.out.1,SB.out.2⟩,by simp[intOf];omega⟩
   clear a n;(go_wp2;obtain rfl:k=t.aF.length:=by omega);go_ret;exact⟨by rw[yU];rfl,HW.out.2⟩
 have j1:(kd==1)=false:=by rw[SY];exact k1
 have c:=IE L l S T (by omega) (by omega) z3 y3;go_wp2_with (first|(go_at_call 119;refine c.mono ?_;clear c;rintro e w2 ⟨rfl,d⟩));go_ret;exact⟨by rw[yY _ _ _ _ ⟨k0,k1,k2,k3,k4⟩];rfl,q.out.trans (d.mono q.out.size)⟩
end Go.Proofs

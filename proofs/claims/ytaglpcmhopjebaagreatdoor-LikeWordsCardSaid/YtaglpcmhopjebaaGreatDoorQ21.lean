import Derived.OwnWalk
import Derived.Deep.OwnRows
import Derived.BigRegion
import Derived.StillTail
import Derived.Maps.AppendAt
import Derived.Deep.AppendLies
import Derived.RegionTactic
import Derived.Test.YtaglpcmhopjebaaGreatDoorQ20
set_option linter.all false
set_option maxRecDepth 100000
set_option maxHeartbeats 20000000
namespace Go.Proofs
open Go.Tm Go.RowKit
variable {fs:Array Func} (L:bU fs)
def QH:((Tryz.prog).info? 3).map (λi=>(i.zero,i.size,i.bytes))=some (some (.int .i64 0),1,8):=by kernel_rfl
def G8(fs):((Qs fs).info? 3).map (λi=>(i.zero,i.size,i.bytes))=some (some (.int .i64 0),1,8):=QH
def eo{base e b n:Nat}{w:World}{v xs}(h:w.ownsRow base e b v n xs):∀k,v.ownBlock=some k->base<=k:=by
 intro k a;obtain⟨rfl,_⟩|⟨g,cap,c,rfl,d,_⟩:=h.2
 ·cases a
 ·cases a;exact d
def B6{d:Type}{base e b:Nat}{w:World}{v:Value}{l:List d}{xs:List Value}{E:(Nat->Prop)->World->Nat->Nat->d->Prop}(h:w.ownsRow base e b v l.length xs)
 (f:∀g:Nat,(∀i,i<l.length*b->w.cell? ⟨g,i,none⟩=xs[i]?)->∀k (c:k<l.length),E (λ_=>True) w g (k*b) l[k]):aE (λ_=>True) b E w v l:=by
 have j:=h;obtain⟨rfl,m⟩|⟨g,cap,n,rfl,s,o,p,q,t,u⟩:=h.2
 ·exact⟨none,0,by rw[m],by omega,by omega,.inl rfl,λk c=>by omega⟩
 ·refine⟨_,_,rfl,p,q,.inr ?_,?_⟩
  ·intro a e;cases e;exact⟨rfl,trivial,_,_,_,o⟩
  ·intro k c
   refine⟨g,0,rfl,?_⟩;rw[Se];exact f g (λi r=>j.cellAt i r) k c
def uX{base w v l}(h:w.ownsRow base 3 1 v l.length (l.map (Value.int .i64))):aE (λ_=>True) 1 du w v l:=B6 h λg a k b=>by show w.cell? ⟨g,k*1,none⟩=_;rw[a _ (by omega)];simp[b]
def KA{K:Nat->Prop}{v0 v1:Value}{l m:List Int}(w:World)(F:aE K 1 du w v0 l)(E:aE K 1 du w v1 m)(P:l.length<=40):Calls (Qs fs) 141 #[v0,v1] w λe w'=>∃v,e=.returned v/\w'.ownsRow w.heap.size 3 1 v (bn l m).length ((bn l m).map (Value.int .i64))/\Below w.heap.size w w':=by
 have Qp:=Qp L;obtain⟨G,H,A,B,C⟩:=info_parts (G8 fs);have D:=E;obtain⟨Q,c,rfl,I,R,_,f⟩:=F;obtain⟨J,c1,rfl,_⟩:=E;go_enter (n141 L),Tryz.ntmps141;go_wp2;go_loopw [5,6] (λo i wr=>∃j:Nat,j<=l.length/\i=.int .i64 j/\wr.ownsRow w.heap.size 3 1 o (bn (l.take j) m).length ((bn (l.take j) m).map (Value.int .i64))/\Below w.heap.size w wr) (λo i _=>l.length-(intOf i).toNat)
 case atStart=>exact⟨0,R9 _,rfl,World.ownsRow_nil _ _ _ _,Below.refl _ _⟩
 case round=>
  obtain⟨j,S,rfl,d,a⟩:=hrel;obtain n|hge:=R5 j l.length
  ·obtain⟨b,M,rfl,t⟩:=f j n
   rw[Tn]at t;have g:=ae.below a;have N:=g.cell t;have y:=Kx L l[j] wr (D.stays g (λb T o x e h=>by subst e;exact du.carry (Carry.keep g) b b o x rfl h));have O:(bn (l.take j) m).length<=j:=R3 (Tk _ _) (by rw[Tp];omega);cases z:m.contains l[j]with
   |true=>
    rw[z]at y;clear f t g D;go_wp2_with (first|(go_at_call 167;refine y.mono ?_;rintro e w3 ⟨rfl,rfl⟩))
    have k:bn (l.take (j+1)) m=bn (l.take j) m:=by unfold bn;rw[nD _ _ _ n,z];simp
    exact⟨⟨j+1,by omega,by go_num,by rw[k];exact d,a⟩,by simp[intOf];omega⟩
   |false=>
    rw[z]at y;clear f t g D;go_wp2_with (first|(go_at_call 167;refine y.mono ?_;rintro e w3 ⟨rfl,rfl⟩)|(at_builtin;refine wpList_append_own _ rfl _ _ 36 rfl w.heap.size 3 G (.int .i64 0) 1 8 Tryz.underlying36 H A B C rfl (by decide) _ _ _ rfl (d.alloc _) ⟨_,0,none⟩ 1 1 [.int .i64 l[j]] rfl rfl ?c1 ?c2 ?c3 ?c4 ?c5 ?_))
    case c1=>
     intro i u p
     match i,p with
     |0,p=>simp at p;subst p;simp[Addr.add]
    case c2=>intro u p;simp at p;subst p;rfl
    case c3=>unfold maxLen;omega
    case c4=>omega
    case c5=>have:=a.size;simp;omega
    intro U w4 q r _;have k:bn (l.take (j+1)) m=bn (l.take j) m++[l[j]]:=by unfold bn;rw[nD _ _ _ n,z];simp
    have s:=(a.alloc a.size (.cells #[.int .i64 l[j]] 3)).grown r (by have:=a.size;simp;omega) (eo d);go_wp2;exact⟨⟨j+1,by omega,by go_num,by rw[k,Sr,T7];exact q,s⟩,by simp[intOf];omega⟩
  ·go_wp2
   go_ret;rw[UM hge]at d;exact⟨_,rfl,d,a⟩
def ni(x y:List Int)(k:Nat):Nat:=((List.range k).map λ(n:Nat)=>min (aL x n) (aL y n)).sum
def uY(x y k):ni x y (k+1)=ni x y k+min (aL x k) (aL y k):=by unfold ni;rw[Uw,T7,List.sum_append];simp
def B7(x y k):ni x y k<=k*x.length:=by
 induction k with
 |zero=>simp[ni]
 |succ k a=>rw[uY,Nat.succ_mul];have:aL x k<=x.length:=Tk _ _;omega
def tB(a b)(c:a≠[])(d:b≠[]):bQ a b=(100*(2*(a.length-(bn a b).length)+ni (bn a b) (bn b a) 10:Nat):Int)/(a.length+b.length:Nat):=by unfold bQ;rw[RY (by simp[c,d])];rfl
def qz(a b)(h:a=[]\/b=[]):bQ a b=0:=by unfold bQ;rw[RZ (by rcases h with rfl|rfl<;>simp)]
def Iv{K:Nat->Prop}{v0 v1:Value}{l m:List Int}(w:World)(Q:aE K 1 du w v0 l)(R:aE K 1 du w v1 m)(I:l.length<=40)(hm:m.length<=40)(A:∀x∈l,0<=x/\x<=999)(B:∀x∈m,0<=x/\x<=999):Calls (Qs fs) 119 #[v0,v1] w λe w'=>e=.returned (.int .i64 (bQ l m))/\Below w.heap.size w w':=by
 have Qj:=Qj L;have Qk:=Qk L;have G:=λJ f v=>KA L (K:=K) (v0:=v0) (v1:=v1) (l:=l) (m:=m) J f v I;have H:=λJ f v=>KA L (K:=K) (v0:=v1) (v1:=v0) (l:=m) (m:=l) J f v hm;have M:=Q;have N:=R;obtain⟨ao,c,rfl,aa,hc,_,j⟩:=Q;obtain⟨ab,O,rfl,S,ad,_,g⟩:=R;clear j g;obtain n|hlp:=Te l.length
 ·have n:=TH.1 n
  subst n;clear G H;go_enter (n119 L),Tryz.ntmps119;go_wp2_with fail
  go_ret;exact⟨by rw[qz _ _ (.inl rfl)];rfl,Below.refl _ _⟩
 obtain p|hmp:=Te m.length
 ·have p:=TH.1 p
  subst p;clear G H;go_enter (n119 L),Tryz.ntmps119;go_wp2_with fail
  all_goals
   go_ret;exact⟨by rw[qz _ _ (.inr rfl)];rfl,Below.refl _ _⟩
 have T:Hid _:=tB l m (Tv.1 hlp) (Tv.1 hmp);have U:∀x∈bn l m,0<=x/\x<=999:=λx f=>A x (Ug.1 f).1;have V:∀x∈bn m l,0<=x/\x<=999:=λx f=>B x (Ug.1 f).1;have q:(bn l m).length<=l.length:=Tk _ _;have af:¬l=[]:=Tv.1 hlp;have ag:((l.length:Int)==0)=false:=by rw[Sw];omega
 have ak:¬m=[]:=Tv.1 hmp;have an:((m.length:Int)==0)=false:=by rw[Sw];omega
 clear A B;have O:=G w M N;go_enter (n119 L),Tryz.ntmps119;go_wp2_with (first|(go_at_call 141;refine O.mono ?_;clear O G;rintro e w2 ⟨x,rfl,f,a⟩;have W:=H w2 (N.stays (ae.below a) (λb X o x e h=>by subst e;exact du.carry (Carry.keep (ae.below a)) b b o x rfl h)) (M.stays (ae.below a) (λb X o x e h=>by subst e;exact du.carry (Carry.keep (ae.below a)) b b o x rfl h)))|(go_at_call 141;refine W.mono ?_;clear W H;rintro e w3 ⟨y,rfl,v,r⟩))
 have P:=ae.below r;have C:=(uX f).stays P (λb X o x e h=>by subst e;exact du.carry (Carry.keep P) b b o x rfl h);have D:=uX v;have B3:=a.trans (r.mono a.size);clear f v a r M N P;obtain⟨xs,t⟩:=ex (bn l m);obtain⟨z,u⟩:=ex (bn m l);rw[<-t,<-u]at T;rw[<-t]at C U q;rw[<-u]at D V;clear t u;obtain⟨ax,cx,rfl,_⟩:=id C;obtain⟨ay,cy,rfl,_⟩:=id D
 go_loop [7,8] (λs i=>∃k:Nat,k<=10/\i=.int .i64 k/\s=.int .i64 (ni xs z k)) (λs i=>10-(intOf i).toNat)
 case atStart=>exact⟨0,by omega,rfl,rfl⟩
 case round=>
  obtain⟨k,hk,rfl,rfl⟩:=hrel;have E:=B7 xs z k;have Y:ni xs z k<=400:=R3 E (R3 (Nat.mul_le_mul hk (R3 q I)) (by omega));obtain ar|hge:=R5 k 10
  ·have Z:=uU L (k:Int) w3 C U
   have cY:=uU L (k:Int) w3 D V;have aM:aL xs k<=40:=R3 (Tk _ _) (R3 q I);have d:=uY xs z k;have HS:Hid _:=d;clear d E C D;go_wp2_with (first|(go_at_call 142;refine Z.mono ?_;clear Z;rintro e w4 ⟨rfl,rfl⟩)|(go_at_call 142;refine cY.mono ?_;rintro e w4 ⟨rfl,rfl⟩))
   refine⟨⟨k+1,by omega,by go_num,?_⟩,by simp[intOf];omega⟩;rw[HS.out];refine SL (Value.int .i64) ?_;split<;>omega
  ·have F:k=10:=by omega
   subst F;clear C D;go_wp2;go_ret;have e1:(2*((l.length:Int)-xs.length)+ni xs z 10)=((2*(l.length-xs.length)+ni xs z 10:Nat):Int):=by omega
   have e2:((l.length:Int)+m.length)=((l.length+m.length:Nat):Int):=by omega
   refine⟨?_,B3⟩;rw[T.out,<-e1,<-e2];rfl
def eL(b):aO [] b=b.length:=OG b
def gz(a):aO a []=a.length:=Kw a
def lX(x y)(a b:Bs):aO (x::a) (y::b)=if x=y then aO a b else 1+min (aO a b) (min (aO a (y::b)) (aO (x::a) b)):=by rw[OH]
def sj:∀(n) (a b),a.length+b.length<=n->(∀x,aO a b<=aO (x::a) b+1/\aO (x::a) b<=aO a b+1)/\(∀y,aO a b<=aO a (y::b)+1/\aO a (y::b)<=aO a b+1):=by
 intro n;induction n with
 |zero=>intro a b h;have d:a=[]:=S8 (by omega);have e:b=[]:=S8 (by omega);subst d;subst e;simp[eL,gz]
 |succ n c=>
  intro a b h;constructor
  ·intro x
   cases b with
   |nil=>rw[gz,gz];simp only[R4];omega
   |cons y b=>
    simp only[R4]at h;rw[lX];have f:=(c a b (by omega)).2 y;split
    ·omega
    ·constructor
     ·have g:aO a (y::b)<=aO (x::a) b+1+1:=by have:=(c a b (by omega)).1 x;omega
      omega
     ·omega
  ·intro y
   cases a with
   |nil=>rw[eL,eL];simp only[R4];omega
   |cons x a=>
    simp only[R4]at h;rw[lX];have f:=(c a b (by omega)).1 x;split
    ·omega
    ·constructor
     ·have:=(c a b (by omega)).2 y
      omega
     ·omega
def KB(x y)(a b:Bs):aO (x::a) (y::b)=min (aO a b+if x=y then 0 else 1) (min (aO a (y::b)+1) (aO (x::a) b+1)):=by have c:=(sj _ a b (R2 _)).1 x;have d:=(sj _ a b (R2 _)).2 y;rw[lX];split<;>omega
def mK(a b):aO a b<=a.length+b.length:=by
 induction a with
 |nil=>rw[eL];simp
 |cons x a c=>have:=((sj _ a b (R2 _)).1 x).2;simp only[R4];omega
def OV:((Tryz.prog).info? 36).map (λi=>(i.zero,i.size,i.bytes))=some (some (.slice none 0 0),1,24):=by kernel_rfl
def nF(N n m p:Nat)(r:Nat):Value:=if p<=r then .slice (some ⟨N+1+(n-r),0,none⟩) (m+1) (m+1)else .slice none 0 0
def xM(a b:Bs)(r q:Nat)(k:Nat):Value:=if q<=k then .int .i64 (aO (a.drop r) (b.drop k))else .int .i64 0
structure Rows(w wr:World)(a b:Bs)(p:Nat):Prop where
 outer:wr.rowIs w.heap.size 36 (a.length+1) (nF w.heap.size a.length b.length p)
 rows:∀r,p<=r->r<=a.length->wr.rowIs (w.heap.size+1+(a.length-r)) 3 (b.length+1) (xM a b r 0)
 size:wr.heap.size=w.heap.size+1+(a.length+1-p)
 below:Below w.heap.size w wr
structure uo(w wr:World)(a b:Bs)(q p:Nat):Prop where
 outer:wr.rowIs w.heap.size 36 (a.length+1) (nF w.heap.size a.length b.length q)
 rows:∀r,q<r->r<=a.length->wr.rowIs (w.heap.size+1+(a.length-r)) 3 (b.length+1) (xM a b r 0)
 row:wr.rowIs (w.heap.size+1+(a.length-q)) 3 (b.length+1) (xM a b q p)
 size:wr.heap.size=w.heap.size+1+(a.length+1-q)
 below:Below w.heap.size w wr
def uo.Nk{w wr a b q}(h:uo w wr a b q 0)(d:q<=a.length):Rows w wr a b q:=
 ⟨h.outer,λr e c=>by
  obtain h3|h3:=R5 q r
  ·exact h.rows r h3 c
  ·have:r=q:=by omega
   subst this;exact h.row,h.size,h.below⟩
def uo.step{w wr:World}{a b:Bs}{q p:Nat}(h:uo w wr a b q (p+1))(d:q<=a.length)(f:p<=b.length):uo w (wr.setCell ⟨w.heap.size+1+(a.length-q),p,none⟩ (.int .i64 (aO (a.drop q) (b.drop p)))) a b q p where
 outer:=h.outer.setOther (by simp only[];omega) _
 rows r h1 h2:=(h.rows r h1 h2).setOther (by simp only[];omega) _
 row:=(h.row.set p _).congr λi g=>by
  unfold xM;by_cases e:i=p
  ·rw[RZ e,RZ (by omega),e]
  ·rw[RY e]
   by_cases c:p<=i
   ·rw[RZ (by omega),RZ c]
   ·rw[RY (by omega),RY c]
 size:=by simp[World.setCell,h.size]
 below:=h.below.setCell (by simp only[];omega) _
def uo.drewN{w wr a b q p}(h:uo w wr a b q p)(n):uo w (wr.drewN n) a b q p:=⟨h.outer,h.rows,h.row,h.size,Go.below_drewN h.below n⟩
def Rows.next{w wr a b q}(h:Rows w wr a b (q+1))(l:q<=a.length):
 uo w ((wr.alloc (.cells (madeCells #[.int .i64 0] (b.length+1)) 3)).setCell ⟨w.heap.size,q,none⟩ (.slice (some ⟨wr.heap.size,0,none⟩) (b.length+1) (b.length+1))) a b q (b.length+1):=by
 have d:wr.heap.size=w.heap.size+1+(a.length-q):=by rw[h.size];omega
 have c:=World.rowIs_made wr (.int .i64 0) (b.length+1) 3;rw[d]at c;refine⟨((h.outer.alloc _).set q _).congr λi g=>?_,λr j k=>((h.rows r j k).alloc _).setOther (by simp only[];omega) _,((c.setOther (by simp only[];omega) _).congr λi g=>?_),?_,(h.below.alloc (by omega) _).setCell (R2 _) _⟩
 ·unfold nF
  by_cases e:i=q
  ·rw[RZ e,RZ (by omega),e,d]
  ·rw[RY e]
   by_cases f:q<=i
   ·rw[RZ (by omega),RZ f]
   ·rw[RY (by omega),RY f]
 ·unfold xM
  rw[RY (by omega)]
 ·simp[World.setCell,d]
  omega
def B8(a b:ByteArray)(w:World)(ha:a.size<=1000)(hb:b.size<=1000):Calls (Qs fs) 88 #[.string a,.string b] w λe w'=>e=.returned (.slice (some ⟨w.heap.size,0,none⟩) (a.size+1) (a.size+1))/\Rows w w' a.data.toList b.data.toList 0:=by
 have F:=run_make_row' (P:=Qs fs) 142 36 (.slice none 0 0) 24 Tryz.underlying142 OV rfl .i64 .i64 (a.size+1) (by omega) (by omega);have G:=run_make_row' (P:=Qs fs) 36 3 (.int .i64 0) 8 Tryz.underlying36 (G8 fs) rfl .i64 .i64 (b.size+1) (by omega) (by omega);rw[show((a.size+1:Nat):Int)=(a.size:Int)+1 by omega]at F;rw[show((b.size+1:Nat):Int)=(b.size:Int)+1 by omega]at G;have R:=Lib.size_eq a;have S:=Lib.size_eq b;obtain⟨A,s⟩:=ex (a.data.toList);obtain⟨B,t⟩:=ex (b.data.toList);rw[<-s]at R;rw[<-t]at S;rw[<-s,<-t];have d:Hid (a.size=A.length/\b.size=B.length):=⟨R,S⟩
 have HG:Hid ((∀q (h:q<a.size),A.drop q=a[q]::A.drop (q+1))/\(∀q (h:q<b.size),B.drop q=b[q]::B.drop (q+1))):=⟨λq h=>by rw[s];exact drop_cons a q h,λq h=>by rw[t];exact drop_cons b q h⟩
 clear R S s t;go_enter (n88 L),Tryz.ntmps88;go_wp2;go_loopw [6] (λi wr=>∃(p:Nat) (j:Int),p<=a.size+1/\j=(p:Int)-1/\i=.int .i64 j/\Rows w wr A B p) (λi _=>(intOf i+1).toNat)
 case atStart=>refine⟨a.size+1,_,R2 _,rfl,by go_num,?_⟩;have h:=World.rowIs_made w (.slice none 0 0) (a.size+1) 36;rw[d.out.1]at h⊢;refine⟨h.congr λi hi=>?_,λr h1 h2=>by omega,by simp,(aG w _)⟩;unfold nF;rw[RY (by omega)]
 case round=>
  obtain⟨p,H,hp,l,rfl,E⟩:=hrel;obtain rfl|hpos:=Te p
  ·obtain rfl:H= -1:=by omega
   clear l;have HR:Hid _:=E;clear E;go_wp2;go_ret;exact⟨rfl,HR.out⟩
  ·obtain⟨q,rfl⟩:∃q,p=q+1:=⟨p-1,by omega⟩
   obtain rfl:H=(q:Int):=by omega
   clear l;have I:∀o,(wr.alloc o).cell? ⟨w.heap.size,q,none⟩=some (.slice none 0 0):=λo=>by rw[(E.outer.alloc o).cell (by have:=d.out.1;omega)];unfold nF;rw[RY (by omega)]
   have J:∀o,(wr.alloc o).frozen? ⟨w.heap.size,q,none⟩=false:=λo=>(E.outer.alloc o).frozen q;have f:=E.next (by have:=d.out.1;omega);rw[<-d.out.2]at f;have Q:Hid _:=f;clear f E;go_wp2;clear I J;go_loopw [7] (λi wi=>∃(C:Nat) (j:Int),C<=b.size+1/\j=(C:Int)-1/\i=.int .i64 j/\uo w wi A B q C) (λi _=>(intOf i+1).toNat)
   case atStart=>exact⟨b.size+1,_,R2 _,rfl,by go_num,Q.out⟩
   case round=>
    clear Q;obtain⟨C,H,ak,l,rfl,f⟩:=hrel;obtain rfl|hpos2:=Te C
    ·obtain rfl:H= -1:=by omega
     clear l;have Q:Hid _:=f;clear f;go_wp2;refine⟨⟨q,_,by omega,rfl,by go_num,Q.out.Nk (by have:=d.out.1;omega)⟩,by simp[intOf]⟩
    ·obtain⟨c,rfl⟩:∃c,C=c+1:=⟨C-1,by omega⟩
     obtain rfl:H=(c:Int):=by omega
     clear l;have u:q<=A.length:=by have:=d.out.1;omega
     have x:c<=B.length:=by have:=d.out.2;omega
     have T:wr.cell? ⟨w.heap.size,q,none⟩=some (.slice (some ⟨w.heap.size+1+(A.length-q),0,none⟩) (b.size+1) (b.size+1)):=by rw[f.outer.cell (by omega)];unfold nF;rw[RZ (R2 _),d.out.2]
     have K:wr.cell? ⟨w.heap.size+1+(A.length-q),c,none⟩=some (.int .i64 0):=by rw[f.row.cell (by omega)];unfold xM;rw[RY (by omega)]
     have U:=f.row.frozen c;have m:=f.step u x;have g:Hid _:=m;clear m;obtain⟨V,n⟩:=ex (w.heap.size+1+(A.length-q));rw[<-n]at T K U g;obtain hqa|hqa:=R5 q a.size
     ·obtain hcb|hcb:=R5 c b.size
      ·have W:wr.cell? ⟨w.heap.size,q+1,none⟩=some (.slice (some ⟨w.heap.size+1+(A.length-(q+1)),0,none⟩) (b.size+1) (b.size+1)):=by rw[f.outer.cell (by have:=d.out.1;omega)];unfold nF;rw[RZ (by omega),d.out.2]
       have D:=f.rows (q+1) (by omega) (by have:=d.out.1;omega);have e11:wr.cell? ⟨w.heap.size+1+(A.length-(q+1)),c+1,none⟩=some (.int .i64 (aO (A.drop (q+1)) (B.drop (c+1)))):=by rw[D.cell (by have:=d.out.2;omega)];unfold xM;rw[RZ (R9 _)]
       have e10:wr.cell? ⟨w.heap.size+1+(A.length-(q+1)),c,none⟩=some (.int .i64 (aO (A.drop (q+1)) (B.drop c))):=by rw[D.cell (by have:=d.out.2;omega)];unfold xM;rw[RZ (R9 _)]
       have X:wr.cell? ⟨V,c+1,none⟩=some (.int .i64 (aO (A.drop q) (B.drop (c+1)))):=by rw[n,f.row.cell (by have:=d.out.2;omega)];unfold xM;rw[RZ (R2 _)]
       obtain⟨an,y⟩:=ex (w.heap.size+1+(A.length-(q+1)));rw[<-y]at W e11 e10;have z:aO (A.drop q) (B.drop c)=min (aO (A.drop (q+1)) (B.drop (c+1))+if a[q]=b[c]then 0 else 1) (min (aO (A.drop (q+1)) (B.drop c)+1) (aO (A.drop q) (B.drop (c+1))+1)):=by have g1:=HG.out.1 q hqa;have g2:=HG.out.2 c hcb;rw[g1,g2,KB]
       have Y:aO (A.drop (q+1)) (B.drop (c+1))<=2000:=R3 (mK _ _) (by rw[Sk,Sk];have:=d.out;omega);have Z:aO (A.drop (q+1)) (B.drop c)<=2000:=R3 (mK _ _) (by rw[Sk,Sk];have:=d.out;omega);have aa:aO (A.drop q) (B.drop (c+1))<=2000:=R3 (mK _ _) (by rw[Sk,Sk];have:=d.out;omega);rw[z]at g;obtain⟨ao,M⟩:=ex (aO (A.drop (q+1)) (B.drop (c+1)));obtain⟨ar,N⟩:=ex (aO (A.drop (q+1)) (B.drop c));obtain⟨ax,O⟩:=ex (aO (A.drop q) (B.drop (c+1)));rw[<-M]at e11 Y g;rw[<-N]at e10 Z g;rw[<-O]at X aa g;have ay:((q:Int)==a.size)=false:=by rw[Sw];omega
       have aM:((c:Int)==b.size)=false:=by rw[Sw];omega
       have ag:¬(q:Int)=a.size:=by omega
       clear f n y z u x D M N O;by_cases k:a[q]=b[c]
       ·rw[RZ k]at g
        have ab:((a[q].toNat:Int)!=(b[c].toNat:Int))=false:=by rw[k];simp
        clear k;go_wp2;go_quiet (fail);go_wp2
        go_region
        go_wp2;refine⟨⟨c,_,by omega,rfl,by go_num,?_⟩,by simp[intOf]⟩;refine(SL (λv=>uo w ((wr.drewN _).setCell ⟨V,c,none⟩ (Value.int .i64 v)) A B q c) ?_).mp (g.out.drewN (nq+1));split<;>split<;>omega
       ·rw[RY k]at g
        have ab:((a[q].toNat:Int)!=(b[c].toNat:Int))=true:=by rw[TQ];intro h;exact k (UK.1 (by omega))
        clear k;go_wp2;go_quiet (fail);go_wp2
        go_region
        go_wp2;refine⟨⟨c,_,by omega,rfl,by go_num,?_⟩,by simp[intOf]⟩;refine(SL (λv=>uo w ((wr.drewN _).setCell ⟨V,c,none⟩ (Value.int .i64 v)) A B q c) ?_).mp (g.out.drewN (nq+1));split<;>split<;>omega
      ·have ad:c=b.size:=by omega
       have z:aO (A.drop q) (B.drop c)=a.size-q:=by rw[SJ (by have:=d.out.2;omega:B.length<=c),gz,Sk,d.out.1]
       rw[z,show((a.size-q:Nat):Int)=(a.size:Int)-q by omega]at g;subst ad;clear f n z u x;go_wp2;refine⟨⟨b.size,_,by omega,rfl,by go_num,g.out⟩,by simp[intOf]⟩
     ·have af:q=a.size:=by omega
      have z:aO (A.drop q) (B.drop c)=b.size-c:=by rw[SJ (by have:=d.out.1;omega:A.length<=q),eL,Sk,d.out.2]
      rw[z,show((b.size-c:Nat):Int)=(b.size:Int)-c by omega]at g;subst af;clear f n z u x;go_wp2;refine⟨⟨c,_,by omega,rfl,by go_num,g.out⟩,by simp[intOf]⟩
def EY(a b:ByteArray)(w:World)(h:a.size<=1000)(j:b.size<=1000):Calls (Qs fs) 140 #[.string a,.string b] w λe w'=>e=.returned (.int .i64 (aO a.data.toList b.data.toList))/\Below w.heap.size w w':=by
 have e88:=e88 L;have d:=B8 L a b w h j;go_enter (n140 L),Tryz.ntmps140;go_wp2_with (first|(go_at_call 88;refine d.mono ?_;clear d;rintro e w2 ⟨rfl,c⟩;have f:=c.outer.cell (i:=0) (by omega);have g:=(c.rows 0 (R2 _) (R9 _)).cell (i:=0) (by omega);simp only[nF,xM,Sj,R2,SP,Nat.sub_zero]at f g;rw[<-Lib.size_eq,<-Lib.size_eq]at f;rw[<-Lib.size_eq]at g;have k:Hid _:=c.below;clear c))
 go_ret;exact⟨rfl,k.out⟩
def yB(a b:ByteArray):dG a.data.toList b.data.toList=if a.size=0\/b.size=0 then 0 else(100*((max a.size b.size:Nat)-(aO a.data.toList b.data.toList:Int)))/(max a.size b.size:Nat):=by unfold dG;rw[<-Lib.size_eq,<-Lib.size_eq,fB,fB];by_cases c:a.size=0<;>by_cases d:b.size=0<;>simp[c,d]
def uZ:∀(n) (a b),a.length+b.length<=n->aO a b<=max a.length b.length:=by
 intro n;induction n with
 |zero=>intro a b h;have c:a=[]:=S8 (by omega);have d:b=[]:=S8 (by omega);subst c;subst d;rw[eL];simp
 |succ n e=>
  intro a b h;cases a with
  |nil=>rw[eL];omega
  |cons x a=>
   cases b with
   |nil=>rw[gz];omega
   |cons y b=>simp only[R4]at h⊢;have:=e a b (by omega);rw[lX];split<;>omega
def sk(a b:ByteArray)(w:World)(m:a.size<=1000)(n:b.size<=1000):Calls (Qs fs) 115 #[.string a,.string b] w λe w'=>e=.returned (.int .i64 (dG a.data.toList b.data.toList))/\Below w.heap.size w w':=by
 have Qi:=Qi L;have j:=λo=>EY L a b o m n;have g:Hid _:=yB a b;have h:=uZ _ a.data.toList b.data.toList (R2 _);rw[<-Lib.size_eq,<-Lib.size_eq]at h;obtain⟨d,l⟩:=ex (aO a.data.toList b.data.toList);rw[<-l]at j g h;clear l;obtain k|hpa:=Te a.size
 ·have f:=g.out
  rw[RZ (.inl k)]at f;have c:Hid _:=f;clear f g;go_enter (n115 L),Tryz.ntmps115;go_wp2_with fail
  go_ret;exact⟨by rw[c.out];rfl,Below.refl _ _⟩
 obtain k|hpb:=Te b.size
 ·have f:=g.out
  rw[RZ (.inr k)]at f;have c:Hid _:=f;have p:((a.size:Int)==0)=false:=by rw[Sw];omega
  clear f g;go_enter (n115 L),Tryz.ntmps115;go_wp2_with fail
  all_goals
   go_ret;exact⟨by rw[c.out];rfl,Below.refl _ _⟩
 ·have f:=g.out
  rw[RY (by omega)]at f;have c:Hid _:=f;have p:((a.size:Int)==0)=false:=by rw[Sw];omega
  have q:((b.size:Int)==0)=false:=by rw[Sw];omega
  clear f g;go_enter (n115 L),Tryz.ntmps115;go_wp2_with (first|(go_at_call 140;refine(j _).mono ?_;clear j;rintro e w2 ⟨rfl,i⟩))
  ·go_ret
   exact⟨by rw[c.out,show max a.size b.size=b.size by omega];rfl,i⟩
  ·go_ret
   exact⟨by rw[c.out,show max a.size b.size=a.size by omega];rfl,i⟩
end Go.Proofs
namespace Go.Proofs
open Go.Tm Go.RowKit
structure aj(w0 w1:World) where
 val:World
 st:ae w1 val
 be:Below w0.heap.size w0 val
def uL(w0 w1 w':World):Prop:=∃x:aj w0 w1,w'=x.val
def uL.st{w0 w1 w'}(h:uL w0 w1 w'):ae w1 w':=by obtain⟨x,rfl⟩:=h;exact x.st
def uL.be{w0 w1 w'}(h:uL w0 w1 w'):Below w0.heap.size w0 w':=by obtain⟨x,rfl⟩:=h;exact x.be
def aj.cell{w0 w1 b o v}(h:w1.cell? ⟨b,o,none⟩=some v)(x:aj w0 w1):x.val.cell? ⟨b,o,none⟩=some v:=x.st.cell h
def aj.calls{P f args w0 w1}{x:aj w0 w1}{v}(h:Calls P f args x.val λe w'=>e=.returned v/\Below x.val.heap.size x.val w'):
 Calls P f args x.val λe a=>e=.returned v/\∃y:aj w0 w1,a=y.val:=
 h.mono λe w' ⟨c,b⟩=>⟨c,⟨w',x.st.trans (ae.below b),x.be.trans (b.mono x.be.size)⟩,rfl⟩
def aj.same{P f args w0 w1}{x:aj w0 w1}{v}(h:Calls P f args x.val λe w'=>e=.returned v/\w'=x.val):
 Calls P f args x.val λe a=>e=.returned v/\∃y:aj w0 w1,a=y.val:=
 h.mono λe w' ⟨b,c⟩=>⟨b,x,c⟩
def aY{P b Q a w w0 w1 l}(c:P.follows .mixedOrders=true)(d:Region.lexB .any l.toArray=true)(e:ae w1 w)(f:Below w0.heap.size w0 w)
 (h:wpQuiet P l.toArray (λw'=>∃x:aj w0 w1,w'=x.val) (λg=>∀w',(∃x:aj w0 w1,w'=x.val)->Q .normal g w') l a):(Code.region b l.toArray true).wp P Q a w:=
 wp_region_quiet (C:=λw'=>∃x:aj w0 w1,w'=x.val) c d ⟨⟨w.drew,e,f.drew⟩,rfl⟩ (by simpa using h)
section
variable {P:Program} {md:Region.Mode} {ops:Array Oper} {C:World->Prop}
def nG(P:Program)(md:Region.Mode)(ops:Array Oper)(C:World->Prop)(n:Nat)(L:Array Bool->Act->Prop):Nat->Array Bool->Act->Prop
 |0,s,a=>L s a
 |f+1,s,a=>Region.ready md ops s≠[]/\∀i∈Region.ready md ops s,i<n/\qOp P ops C i (nG P md ops C n L f (s.setIfInBounds i true)) a
def nG.any{n g L Q}(d:∀s a w,C w->L s a->wpAny P md ops Q g s a w):
 ∀(f) (s) (a) (w),C w->nG P md ops C n L f s a->wpAny P md ops Q (f+g) s a w:=by
 intro f;induction f with
 |zero=>intro s a w b h;rw[Se];exact d s a w b h
 |succ f e=>
  intro s a w b h;have j:f+1+g=(f+g)+1:=by omega
  rw[j];exact⟨λk=>absurd k h.1,λi l=>wpOp_of_qOp b (λm w' c o=>e _ m w' c o) (h.2 i l).2⟩
def nG.first{n i o v L}(B:ops[i]? =some o)(m:∀(j:Nat) (o) cs b,ops[j]? =some o->o.op≠ .select cs b)
 (I:Region.sinkB md ops n=true) (J:Region.chainB md ops n=true) (K:n<ops.size) (x:i<n) (q:∀s a,L s a->∀j∈Region.ready md ops s,n<=j):
 ∀(f) (s) (a),HeadInv md ops n s->
  (∀j r,ops[j]? =some r->j≠i->s.getD j true=false->(∀e∈r.after,Region.binds md e=true->e.on≠i)->o.apart ops r=true)->
  i∈Region.ready md ops s->YieldsIn P ops C o v a->nG P md ops C n L f (s.setIfInBounds i true) (a.put o.dst v)->nG P md ops C n L (f+1) s a:=by
 intro f;induction f with
 |zero=>
  intro s a g d t A H;refine⟨Vg t,λj u=>?_⟩;have l:j<n:=UQ λh=>tail_waits I J K g _ i rfl x (mem_ready.1 t).1 j (by omega) u;refine⟨l,?_⟩;by_cases c:j=i
  ·rw[c];exact A.qOp B H
  ·have:=q _ _ H j (ready_mono u c)
   omega
 |succ f O=>
  intro s a g d t A H;refine⟨Vg t,λj u=>?_⟩;have l:j<n:=UQ λh=>tail_waits I J K g _ i rfl x (mem_ready.1 t).1 j (by omega) u;refine⟨l,?_⟩;by_cases c:j=i
  ·rw[c];exact A.qOp B H
  ·obtain⟨p,r,w,y⟩:=mem_ready.1 u
   have D:∀e∈r.after,Region.binds md e=true->e.on≠i:=λe Q R E=>by have M:=y e Q R;rw[E,getD_both (mem_ready.1 t).1]at M;cases M
   have S:=qOp_put w (d j r w c p D) (λcs b=>m i o cs b B) (λcs b=>m j r cs b w) A (H.2 j (ready_mono u c)).2;refine qOp_mono (λT N=>O _ T (g.set u l) ?_ (ready_mono t (Sn c)) N.1 ?_) S
   ·intro k U V F G
    refine d k U V F ?_;by_cases z:j=k
    ·rw[<-z];exact p
    ·rwa[getD_set_ne true z]at G
   ·rw[Array.setIfInBounds_comm _ _ c]
    exact N.2
def nG.lex{n g f}(d:Region.noSelect ops=true)(r:Region.sinkB md ops n=true)(t:Region.chainB md ops n=true)(u:n<ops.size):
 ∀(l) (k) (s) (a),(∀j,j<l.length->l[j]? =ops[k+j]?)->k+l.length=n->HeadInv md ops n s->
 Region.lexHead md ops g l.length k s=true->wpQuiet P ops C f l a->nG P md ops C n (λs' p=>Region.seqB md ops g n s'=true/\f p) l.length s a:=by
 intro l;induction l with
 |nil=>
  intro k s a i m b c h;obtain rfl:k=n:=by simpa using m
  exact⟨c,h⟩
 |cons o l w=>
  intro k s a i m b c h;have e:ops[k]? =some o:=(i 0 (Uh _)).symm;rw[R4]at m;rw[R4,Region.lexHead,Sf,Sf]at c;have q:k∈Region.ready md ops s:=by simpa using c.1.1
  have x:qOp P ops C k (wpQuiet P ops C f l) a:=by unfold qOp;rw[e];exact h
  obtain⟨v,y,z⟩:=yieldsIn_of_qOp e x;refine nG.first e (Region.noSelect_spec d) r t u (by omega) (λs' p A=>seqB_ready A.1) l.length s a b (Region.free_spec e c.1.2) q y ?_;refine w (k+1) _ _ (λj B=>?_) (by omega) (b.set q (by omega)) c.2 z;have:=i (j+1) (by rw[R4];omega);rw[show k+(j+1)=k+1+j by omega]at this;exact this
end
def aU{P u Q a w w0 w1}{l:List Oper}(n)(v:P.follows .mixedOrders=true)(i:Region.lexTailB .any l.toArray n=true)
 (y:ae w1 w) (z:Below w0.heap.size w0 w)
 (h:wpQuiet P l.toArray (λw'=>∃x:aj w0 w1,w'=x.val) (λk=>∀w',(∃x:aj w0 w1,w'=x.val)->wpList P l.toArray Q (l.drop n) k w') (l.take n) a):(Code.region u l.toArray true).wp P Q a w:=by
 rw[Region.lexTailB]at i;simp only[Sf,Sq]at i;obtain⟨⟨⟨⟨c,o⟩,A⟩,B⟩,d⟩:=i;have D:n<l.length:=by simpa using o
 have b:(l.take n).length=n:=by rw[Tp];omega
 have e:(l.drop n).length=l.toArray.size-n:=by simp
 have f:HeadInv .any l.toArray n (Array.replicate l.toArray.size false):=⟨by simp,λj G _ p=>(by rw[getD_replicate_false]at p;cases p),λt _ E=>getD_in (by simpa using E) (getD_replicate_false _ _)⟩
 refine wp_region_any v ?_;have H:=nG.lex (md:=.any) (g:=l.toArray.size-n) (C:=λw'=>∃x:aj w0 w1,w'=x.val) c A B o (l.take n) 0 _ a (λj q=>by
  have m:j<n:=by rw[b]at q;exact q
  simp[m]) (by rw[b];omega) f (by rw[b];exact d) h
 have R:=nG.any (Q:=Q) (g:=l.toArray.size-n) (λs k w' F r=>by have:=wpAny_of_seq (md:=.any) (Q':=Q) (l.drop n) n s k w' (λj=>by simp[UR]) (by rw[e];exact r.1) (r.2 w' F);rwa[e]at this) _ _ _ _ ⟨⟨w.drew,y,z.drew⟩,rfl⟩ H
 rw[b,show n+(l.toArray.size-n)=l.toArray.size by omega]at R;exact R
inductive Src(w:World)(size:Nat):Option Addr->Nat->List Value->Prop
 |nil:Src w size none 0 []
 |some (ad:Addr) (m:Nat) (news:List Value) (hl:news.length=m*size) (hc:∀j u,news[j]? =some u->w.cell? (ad.add j)=some u):Src w size (some ad) m news
section
variable {P:Program} (w:World) (base:Nat) (t ty e:TypeId) (i:TypeInfo) (z:Value) (size bytes:Nat) (ht:P.underlying t=some (.slice e)) (hi:P.info? e=some i) (hz:i.zero=some z) (hsize:i.size=size) (hby:i.bytes=bytes) (hzs:z.cells.size=size) (hsz:0<size) (v:Value) (n:Nat) (xs:List Value) (hown:w.ownsRow base e size v n xs) (A:Option Addr) (m c:Nat) (news:List Value) (hs:Src w size A m news) (h1:∀u∈news,u.oneCell'=true) (h63:n+m<=maxLen) (hbytes:(n+m)*bytes<=140737488355328) (hbase:base<=w.heap.size)
include ht hi hz hsize hby hzs hsz hown hs h1 h63 hbytes hbase
def vw:∃b w',(Builtin.append_ #[t,t] ty #[v,.slice A m c]).run P w=.ok b w'/\w'.ownsRow base e size b (n+m) (xs++news)/\w.grownBy w' v.ownBlock/\(b.ownBlock=v.ownBlock\/b.ownBlock=some w.heap.size):=by
 cases hs with
 |some ad m news f j=>obtain⟨b,w',h,k,l,_,p⟩:=run_append_own_at (P:=P) w base t ty e i z size bytes ht hi hz hsize hby hzs hsz v n xs hown ad m c news f j h1 h63 hbytes hbase;exact⟨b,w',h,k,l,p⟩
 |nil=>
  refine⟨v,w,?_,by rw[Tr,Tx];exact hown,World.grownBy.refl w _,.inl rfl⟩;obtain⟨rfl,_⟩|⟨g,cap,q,rfl,_,_,d,_⟩:=hown.2
  ·simp[Builtin.append_,run_underlying ht,sizeOf,typeInfo,hi,Builtin.lenOf,Builtin.firstCells]
  ·simp[Builtin.append_,run_underlying ht,sizeOf,typeInfo,hi,Builtin.lenOf,Builtin.firstCells,d,storeCells]
end
section
variable {P:Program} {w:World} {o:Oper} {a:Act} {K:Act->World->Prop} {Q:Exit->Act->World->Prop} (s x:Operand) (t:TypeId) (ho:o.op=.call {callee:=.builtin .append,args:=#[s,x],argTypes:=#[t,t]}) (base:Nat) (e:TypeId) (i:TypeInfo) (z:Value) (size bytes:Nat) (ht:P.underlying t=some (.slice e)) (hi:P.info? e=some i) (hz:i.zero=some z) (hsize:i.size=size) (hby:i.bytes=bytes) (hzs:z.cells.size=size) (hsz:0<size) (v:Value) (n:Nat) (xs:List Value) (hsv:a.eval s=v) (hown:w.ownsRow base e size v n xs) (A:Option Addr) (m c:Nat) (news:List Value) (hxv:a.eval x=.slice A m c) (hs:Src w size A m news) (h1:∀u∈news,u.oneCell'=true) (h63:n+m<=maxLen) (hbytes:(n+m)*bytes<=140737488355328) (hbase:base<=w.heap.size)
include ho ht hi hz hsize hby hzs hsz hown hs h1 h63 hbytes hbase hsv hxv
def pq(h:∀b w',w'.ownsRow base e size b (n+m) (xs++news)->w.grownBy w' v.ownBlock->(b.ownBlock=v.ownBlock\/b.ownBlock=some w.heap.size)->K (a.put o.dst b) w'):o.wp P a w K Q:=by obtain⟨b,w',d,f,g,j⟩:=vw (P:=P) w base t o.type e i z size bytes ht hi hz hsize hby hzs hsz v n xs hown A m c news hs h1 h63 hbytes hbase;unfold Oper.wp execOp;simp only[ho,resolve,invoke,builtin,Sem.run_bind,Sem.run_pure,Result.andThen_ok,List.map_toArray,Vp,List.map_nil,hsv,hxv,d];exact h b w' f g j
def eV{ops:Array Oper}{rest:List Oper}(d:o.guard=none)(h:∀b w',w'.ownsRow base e size b (n+m) (xs++news)->w.grownBy w' v.ownBlock->(b.ownBlock=v.ownBlock\/b.ownBlock=some w.heap.size)->wpList P ops Q rest (a.put o.dst b) w'):wpList P ops Q (o::rest) a w:=wpList_plain d λ_ f=>pq s x t ho base e i z size bytes ht hi hz hsize hby hzs hsz v n xs hsv hown A m c news hxv hs h1 h63 hbytes hbase λb w' g j k=>f _ _ (h b w' g j k)
def bO{ops E}(d:o.guard=none)(h:∀b w',w'.ownsRow base e size b (n+m) (xs++news)->w.grownBy w' v.ownBlock->(b.ownBlock=v.ownBlock\/b.ownBlock=some w.heap.size)->K (a.put o.dst b) w'):
 if Region.wanted o (yielded ops a.tmps)=true then Oper.wp P o a w K Q else E:=by
 rw[RZ (by simp[Region.wanted,d])];exact pq s x t ho base e i z size bytes ht hi hz hsize hby hzs hsz v n xs hsv hown A m c news hxv hs h1 h63 hbytes hbase h
end
end Go.Proofs

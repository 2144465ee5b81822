import Derived.Deep.OwnRows
import Derived.BigRegion
import Derived.StillTail
import Derived.Maps.AppendAt
import Derived.Deep.AppendLies
import Derived.RegionTactic
import Derived.Deep.CutRange
import Derived.Test.YtaglpcmhopjebaaGreatDoorY25
set_option linter.all false
set_option maxRecDepth 100000
set_option maxHeartbeats 20000000
namespace Go.Proofs
open Go.Tm Go.RowKit
variable {fs:Array Func} (L:bQ fs)
def eK(b):aJ [] b=b.length:=NT b
def gH(a):aJ a []=a.length:=JG a
def lQ(x y)(a b:Bs):aJ (x::a) (y::b)=if x=y then aJ a b else 1+min (aJ a b) (min (aJ a (y::b)) (aJ (x::a) b)):=by rw[NU]
def ss:∀(n) (a b),a.length+b.length<=n->(∀x,aJ a b<=aJ (x::a) b+1/\aJ (x::a) b<=aJ a b+1)/\(∀y,aJ a b<=aJ a (y::b)+1/\aJ a (y::b)<=aJ a b+1):=by
 intro n;induction n with
 |zero=>intro a b h;have d:a=[]:=Ss (by omega);have e:b=[]:=Ss (by omega);subst d;subst e;simp[eK,gH]
 |succ n c=>
  intro a b h;constructor
  ·intro x
   cases b with
   |nil=>rw[gH,gH];simp only[Rs];omega
   |cons y b=>
    simp only[Rs]at h;rw[lQ];have f:=(c a b (by omega)).2 y;split
    ·omega
    ·constructor
     ·have g:aJ a (y::b)<=aJ (x::a) b+1+1:=by have:=(c a b (by omega)).1 x;omega
      omega
     ·omega
  ·intro y
   cases a with
   |nil=>rw[eK,eK];simp only[Rs];omega
   |cons x a=>
    simp only[Rs]at h;rw[lQ];have f:=(c a b (by omega)).1 x;split
    ·omega
    ·constructor
     ·have:=(c a b (by omega)).2 y
      omega
     ·omega
def JM(x y)(a b:Bs):aJ (x::a) (y::b)=min (aJ a b+if x=y then 0 else 1) (min (aJ a (y::b)+1) (aJ (x::a) b+1)):=by have c:=(ss _ a b (Rq _)).1 x;have d:=(ss _ a b (Rq _)).2 y;rw[lQ];split<;>omega
def mz(a b):aJ a b<=a.length+b.length:=by
 induction a with
 |nil=>rw[eK];simp
 |cons x a c=>have:=((ss _ a b (Rq _)).1 x).2;simp only[Rs];omega
def Oe:((Tryz.prog).info? 36).map (λi=>(i.zero,i.size,i.bytes))=some (some (.slice none 0 0),1,24):=by kernel_rfl
def nB(N n m p:Nat)(r:Nat):Value:=if p<=r then .slice (some ⟨N+1+(n-r),0,none⟩) (m+1) (m+1)else .slice none 0 0
def xB(a b:Bs)(r q:Nat)(k:Nat):Value:=if q<=k then .int .i64 (aJ (a.drop r) (b.drop k))else .int .i64 0
structure Rows(w wr:World)(a b:Bs)(p:Nat):Prop where
 outer:wr.rowIs w.heap.size 36 (a.length+1) (nB w.heap.size a.length b.length p)
 rows:∀r,p<=r->r<=a.length->wr.rowIs (w.heap.size+1+(a.length-r)) 3 (b.length+1) (xB a b r 0)
 size:wr.heap.size=w.heap.size+1+(a.length+1-p)
 below:Below w.heap.size w wr
structure uk(w wr:World)(a b:Bs)(q p:Nat):Prop where
 outer:wr.rowIs w.heap.size 36 (a.length+1) (nB w.heap.size a.length b.length q)
 rows:∀r,q<r->r<=a.length->wr.rowIs (w.heap.size+1+(a.length-r)) 3 (b.length+1) (xB a b r 0)
 row:wr.rowIs (w.heap.size+1+(a.length-q)) 3 (b.length+1) (xB a b q p)
 size:wr.heap.size=w.heap.size+1+(a.length+1-q)
 below:Below w.heap.size w wr
def uk.Mt{w wr a b q}(h:uk w wr a b q 0)(d:q<=a.length):Rows w wr a b q:=
 ⟨h.outer,λr e c=>by
  obtain h3|h3:=Ry q r
  ·exact h.rows r h3 c
  ·have:r=q:=by omega
   subst this;exact h.row,h.size,h.below⟩
def uk.step{w wr:World}{a b:Bs}{q p:Nat}(h:uk w wr a b q (p+1))(d:q<=a.length)(f:p<=b.length):uk w (wr.setCell ⟨w.heap.size+1+(a.length-q),p,none⟩ (.int .i64 (aJ (a.drop q) (b.drop p)))) a b q p where
 outer:=h.outer.setOther (by simp only[];omega) _
 rows r h1 h2:=(h.rows r h1 h2).setOther (by simp only[];omega) _
 row:=(h.row.set p _).congr λi g=>by
  unfold xB;by_cases e:i=p
  ·rw[Rp e,Rp (by omega),e]
  ·rw[Ro e]
   by_cases c:p<=i
   ·rw[Rp (by omega),Rp c]
   ·rw[Ro (by omega),Ro c]
 size:=by simp[World.setCell,h.size]
 below:=h.below.setCell (by simp only[];omega) _
def uk.drewN{w wr a b q p}(h:uk w wr a b q p)(n):uk w (wr.drewN n) a b q p:=⟨h.outer,h.rows,h.row,h.size,Go.below_drewN h.below n⟩
def Rows.next{w wr a b q}(h:Rows w wr a b (q+1))(l:q<=a.length):
 uk w ((wr.alloc (.cells (madeCells #[.int .i64 0] (b.length+1)) 3)).setCell ⟨w.heap.size,q,none⟩ (.slice (some ⟨wr.heap.size,0,none⟩) (b.length+1) (b.length+1))) a b q (b.length+1):=by
 have d:wr.heap.size=w.heap.size+1+(a.length-q):=by rw[h.size];omega
 have c:=World.rowIs_made wr (.int .i64 0) (b.length+1) 3;rw[d]at c;refine⟨((h.outer.alloc _).set q _).congr λi g=>?_,λr j k=>((h.rows r j k).alloc _).setOther (by simp only[];omega) _,((c.setOther (by simp only[];omega) _).congr λi g=>?_),?_,(h.below.alloc (by omega) _).setCell (Rq _) _⟩
 ·unfold nB
  by_cases e:i=q
  ·rw[Rp e,Rp (by omega),e,d]
  ·rw[Ro e]
   by_cases f:q<=i
   ·rw[Rp (by omega),Rp f]
   ·rw[Ro (by omega),Ro f]
 ·unfold xB
  rw[Ro (by omega)]
 ·simp[World.setCell,d]
  omega
def BF(a b:ByteArray)(w:World)(ha:a.size<=1000)(hb:b.size<=1000):Calls (Qs fs) 88 #[.string a,.string b] w λe w'=>e=.returned (.slice (some ⟨w.heap.size,0,none⟩) (a.size+1) (a.size+1))/\Rows w w' a.data.toList b.data.toList 0:=by
 have F:=run_make_row' (P:=Qs fs) 142 36 (.slice none 0 0) 24 Tryz.underlying142 Oe rfl .i64 .i64 (a.size+1) (by omega) (by omega);have G:=run_make_row' (P:=Qs fs) 36 3 (.int .i64 0) 8 Tryz.underlying36 (Gt fs) rfl .i64 .i64 (b.size+1) (by omega) (by omega);rw[show((a.size+1:Nat):Int)=(a.size:Int)+1 by omega]at F;rw[show((b.size+1:Nat):Int)=(b.size:Int)+1 by omega]at G;have R:=Lib.size_eq a;have S:=Lib.size_eq b;obtain⟨A,s⟩:=ex (a.data.toList);obtain⟨B,t⟩:=ex (b.data.toList);rw[<-s]at R;rw[<-t]at S;rw[<-s,<-t];have d:Hid (a.size=A.length/\b.size=B.length):=⟨R,S⟩
 have HG:Hid ((∀q (h:q<a.size),A.drop q=a[q]::A.drop (q+1))/\(∀q (h:q<b.size),B.drop q=b[q]::B.drop (q+1))):=⟨λq h=>by rw[s];exact drop_cons a q h,λq h=>by rw[t];exact drop_cons b q h⟩
 clear R S s t;go_enter (n88 L),Tryz.ntmps88;go_wp2;go_loopw [6] (λi wr=>∃(p:Nat) (j:Int),p<=a.size+1/\j=(p:Int)-1/\i=.int .i64 j/\Rows w wr A B p) (λi _=>(intOf i+1).toNat)
 case atStart=>refine⟨a.size+1,_,Rq _,rfl,by go_num,?_⟩;have h:=World.rowIs_made w (.slice none 0 0) (a.size+1) 36;rw[d.out.1]at h⊢;refine⟨h.congr λi hi=>?_,λr h1 h2=>by omega,by simp,(aF w _)⟩;unfold nB;rw[Ro (by omega)]
 case round=>
  obtain⟨p,H,hp,l,rfl,E⟩:=hrel;obtain rfl|hpos:=SF p
  ·obtain rfl:H= -1:=by omega
   clear l;have HR:Hid _:=E;clear E;go_wp2;go_ret;exact⟨rfl,HR.out⟩
  ·obtain⟨q,rfl⟩:∃q,p=q+1:=⟨p-1,by omega⟩
   obtain rfl:H=(q:Int):=by omega
   clear l;have I:∀o,(wr.alloc o).cell? ⟨w.heap.size,q,none⟩=some (.slice none 0 0):=λo=>by rw[(E.outer.alloc o).cell (by have:=d.out.1;omega)];unfold nB;rw[Ro (by omega)]
   have J:∀o,(wr.alloc o).frozen? ⟨w.heap.size,q,none⟩=false:=λo=>(E.outer.alloc o).frozen q;have f:=E.next (by have:=d.out.1;omega);rw[<-d.out.2]at f;have Q:Hid _:=f;clear f E;go_wp2;clear I J;go_loopw [7] (λi wi=>∃(C:Nat) (j:Int),C<=b.size+1/\j=(C:Int)-1/\i=.int .i64 j/\uk w wi A B q C) (λi _=>(intOf i+1).toNat)
   case atStart=>exact⟨b.size+1,_,Rq _,rfl,by go_num,Q.out⟩
   case round=>
    clear Q;obtain⟨C,H,ak,l,rfl,f⟩:=hrel;obtain rfl|hpos2:=SF C
    ·obtain rfl:H= -1:=by omega
     clear l;have Q:Hid _:=f;clear f;go_wp2;refine⟨⟨q,_,by omega,rfl,by go_num,Q.out.Mt (by have:=d.out.1;omega)⟩,by simp[intOf]⟩
    ·obtain⟨c,rfl⟩:∃c,C=c+1:=⟨C-1,by omega⟩
     obtain rfl:H=(c:Int):=by omega
     clear l;have u:q<=A.length:=by have:=d.out.1;omega
     have x:c<=B.length:=by have:=d.out.2;omega
     have T:wr.cell? ⟨w.heap.size,q,none⟩=some (.slice (some ⟨w.heap.size+1+(A.length-q),0,none⟩) (b.size+1) (b.size+1)):=by rw[f.outer.cell (by omega)];unfold nB;rw[Rp (Rq _),d.out.2]
     have K:wr.cell? ⟨w.heap.size+1+(A.length-q),c,none⟩=some (.int .i64 0):=by rw[f.row.cell (by omega)];unfold xB;rw[Ro (by omega)]
     have U:=f.row.frozen c;have m:=f.step u x;have g:Hid _:=m;clear m;obtain⟨V,n⟩:=ex (w.heap.size+1+(A.length-q));rw[<-n]at T K U g;obtain hqa|hqa:=Ry q a.size
     ·obtain hcb|hcb:=Ry c b.size
      ·have W:wr.cell? ⟨w.heap.size,q+1,none⟩=some (.slice (some ⟨w.heap.size+1+(A.length-(q+1)),0,none⟩) (b.size+1) (b.size+1)):=by rw[f.outer.cell (by have:=d.out.1;omega)];unfold nB;rw[Rp (by omega),d.out.2]
       have D:=f.rows (q+1) (by omega) (by have:=d.out.1;omega);have e11:wr.cell? ⟨w.heap.size+1+(A.length-(q+1)),c+1,none⟩=some (.int .i64 (aJ (A.drop (q+1)) (B.drop (c+1)))):=by rw[D.cell (by have:=d.out.2;omega)];unfold xB;rw[Rp (RA _)]
       have e10:wr.cell? ⟨w.heap.size+1+(A.length-(q+1)),c,none⟩=some (.int .i64 (aJ (A.drop (q+1)) (B.drop c))):=by rw[D.cell (by have:=d.out.2;omega)];unfold xB;rw[Rp (RA _)]
       have X:wr.cell? ⟨V,c+1,none⟩=some (.int .i64 (aJ (A.drop q) (B.drop (c+1)))):=by rw[n,f.row.cell (by have:=d.out.2;omega)];unfold xB;rw[Rp (Rq _)]
       obtain⟨al,y⟩:=ex (w.heap.size+1+(A.length-(q+1)));rw[<-y]at W e11 e10;have z:aJ (A.drop q) (B.drop c)=min (aJ (A.drop (q+1)) (B.drop (c+1))+if a[q]=b[c]then 0 else 1) (min (aJ (A.drop (q+1)) (B.drop c)+1) (aJ (A.drop q) (B.drop (c+1))+1)):=by have g1:=HG.out.1 q hqa;have g2:=HG.out.2 c hcb;rw[g1,g2,JM]
       have Y:aJ (A.drop (q+1)) (B.drop (c+1))<=2000:=Rr (mz _ _) (by rw[RI,RI];have:=d.out;omega);have Z:aJ (A.drop (q+1)) (B.drop c)<=2000:=Rr (mz _ _) (by rw[RI,RI];have:=d.out;omega);have aa:aJ (A.drop q) (B.drop (c+1))<=2000:=Rr (mz _ _) (by rw[RI,RI];have:=d.out;omega);rw[z]at g;obtain⟨an,M⟩:=ex (aJ (A.drop (q+1)) (B.drop (c+1)));obtain⟨ao,N⟩:=ex (aJ (A.drop (q+1)) (B.drop c));obtain⟨ar,O⟩:=ex (aJ (A.drop q) (B.drop (c+1)));rw[<-M]at e11 Y g;rw[<-N]at e10 Z g;rw[<-O]at X aa g;have ax:((q:Int)==a.size)=false:=by rw[R2];omega
       have ay:((c:Int)==b.size)=false:=by rw[R2];omega
       have ag:¬(q:Int)=a.size:=by omega
       clear f n y z u x D M N O;by_cases k:a[q]=b[c]
       ·rw[Rp k]at g
        have ab:((a[q].toNat:Int)!=(b[c].toNat:Int))=false:=by rw[k];simp
        clear k;go_wp2;go_quiet (fail);go_wp2
        go_region
        go_wp2;refine⟨⟨c,_,by omega,rfl,by go_num,?_⟩,by simp[intOf]⟩;refine(R6 (λv=>uk w ((wr.drewN _).setCell ⟨V,c,none⟩ (Value.int .i64 v)) A B q c) ?_).mp (g.out.drewN (nq+1));split<;>split<;>omega
       ·rw[Ro k]at g
        have ab:((a[q].toNat:Int)!=(b[c].toNat:Int))=true:=by rw[Tq];intro h;exact k (Uk.1 (by omega))
        clear k;go_wp2;go_quiet (fail);go_wp2
        go_region
        go_wp2;refine⟨⟨c,_,by omega,rfl,by go_num,?_⟩,by simp[intOf]⟩;refine(R6 (λv=>uk w ((wr.drewN _).setCell ⟨V,c,none⟩ (Value.int .i64 v)) A B q c) ?_).mp (g.out.drewN (nq+1));split<;>split<;>omega
      ·have ad:c=b.size:=by omega
       have z:aJ (A.drop q) (B.drop c)=a.size-q:=by rw[RY (by have:=d.out.2;omega:B.length<=c),gH,RI,d.out.1]
       rw[z,show((a.size-q:Nat):Int)=(a.size:Int)-q by omega]at g;subst ad;clear f n z u x;go_wp2;refine⟨⟨b.size,_,by omega,rfl,by go_num,g.out⟩,by simp[intOf]⟩
     ·have af:q=a.size:=by omega
      have z:aJ (A.drop q) (B.drop c)=b.size-c:=by rw[RY (by have:=d.out.1;omega:A.length<=q),eK,RI,d.out.2]
      rw[z,show((b.size-c:Nat):Int)=(b.size:Int)-c by omega]at g;subst af;clear f n z u x;go_wp2;refine⟨⟨c,_,by omega,rfl,by go_num,g.out⟩,by simp[intOf]⟩
def Eu(a b:ByteArray)(w:World)(h:a.size<=1000)(j:b.size<=1000):Calls (Qs fs) 140 #[.string a,.string b] w λe w'=>e=.returned (.int .i64 (aJ a.data.toList b.data.toList))/\Below w.heap.size w w':=by
 have e88:=e88 L;have d:=BF L a b w h j;go_enter (n140 L),Tryz.ntmps140;go_wp2_with (first|(go_at_call 88;refine d.mono ?_;clear d;rintro e w2 ⟨rfl,c⟩;have f:=c.outer.cell (i:=0) (by omega);have g:=(c.rows 0 (Rq _) (RA _)).cell (i:=0) (by omega);simp only[nB,xB,RG,Rq,Sj,Nat.sub_zero]at f g;rw[<-Lib.size_eq,<-Lib.size_eq]at f;rw[<-Lib.size_eq]at g;have k:Hid _:=c.below;clear c))
 go_ret;exact⟨rfl,k.out⟩
def yp(a b:ByteArray):dF a.data.toList b.data.toList=if a.size=0\/b.size=0 then 0 else(100*((max a.size b.size:Nat)-(aJ a.data.toList b.data.toList:Int)))/(max a.size b.size:Nat):=by unfold dF;rw[<-Lib.size_eq,<-Lib.size_eq,fB,fB];by_cases c:a.size=0<;>by_cases d:b.size=0<;>simp[c,d]
def uZ:∀(n) (a b),a.length+b.length<=n->aJ a b<=max a.length b.length:=by
 intro n;induction n with
 |zero=>intro a b h;have c:a=[]:=Ss (by omega);have d:b=[]:=Ss (by omega);subst c;subst d;rw[eK];simp
 |succ n e=>
  intro a b h;cases a with
  |nil=>rw[eK];omega
  |cons x a=>
   cases b with
   |nil=>rw[gH];omega
   |cons y b=>simp only[Rs]at h⊢;have:=e a b (by omega);rw[lQ];split<;>omega
def su(a b:ByteArray)(w:World)(m:a.size<=1000)(n:b.size<=1000):Calls (Qs fs) 115 #[.string a,.string b] w λe w'=>e=.returned (.int .i64 (dF a.data.toList b.data.toList))/\Below w.heap.size w w':=by
 have PG:=PG L;have j:=λo=>Eu L a b o m n;have g:Hid _:=yp a b;have h:=uZ _ a.data.toList b.data.toList (Rq _);rw[<-Lib.size_eq,<-Lib.size_eq]at h;obtain⟨d,l⟩:=ex (aJ a.data.toList b.data.toList);rw[<-l]at j g h;clear l;obtain k|hpa:=SF a.size
 ·have f:=g.out
  rw[Rp (.inl k)]at f;have c:Hid _:=f;clear f g;go_enter (n115 L),Tryz.ntmps115;go_wp2_with fail
  go_ret;exact⟨by rw[c.out];rfl,Below.refl _ _⟩
 obtain k|hpb:=SF b.size
 ·have f:=g.out
  rw[Rp (.inr k)]at f;have c:Hid _:=f;have p:((a.size:Int)==0)=false:=by rw[R2];omega
  clear f g;go_enter (n115 L),Tryz.ntmps115;go_wp2_with fail
  all_goals
   go_ret;exact⟨by rw[c.out];rfl,Below.refl _ _⟩
 ·have f:=g.out
  rw[Ro (by omega)]at f;have c:Hid _:=f;have p:((a.size:Int)==0)=false:=by rw[R2];omega
  have q:((b.size:Int)==0)=false:=by rw[R2];omega
  clear f g;go_enter (n115 L),Tryz.ntmps115;go_wp2_with (first|(go_at_call 140;refine(j _).mono ?_;clear j;rintro e w2 ⟨rfl,i⟩))
  ·go_ret
   exact⟨by rw[c.out,show max a.size b.size=b.size by omega];rfl,i⟩
  ·go_ret
   exact⟨by rw[c.out,show max a.size b.size=a.size by omega];rfl,i⟩
end Go.Proofs
namespace Go.Proofs
open Go.Tm Go.RowKit
structure aj(w0 w1:World) where
 val:World
 st:ae w1 val
 be:Below w0.heap.size w0 val
def uJ(w0 w1 w':World):Prop:=∃x:aj w0 w1,w'=x.val
def uJ.st{w0 w1 w'}(h:uJ w0 w1 w'):ae w1 w':=by obtain⟨x,rfl⟩:=h;exact x.st
def uJ.be{w0 w1 w'}(h:uJ w0 w1 w'):Below w0.heap.size w0 w':=by obtain⟨x,rfl⟩:=h;exact x.be
def aj.cell{w0 w1 b o v}(h:w1.cell? ⟨b,o,none⟩=some v)(x:aj w0 w1):x.val.cell? ⟨b,o,none⟩=some v:=x.st.cell h
def aj.calls{P f args w0 w1}{x:aj w0 w1}{v}(h:Calls P f args x.val λe w'=>e=.returned v/\Below x.val.heap.size x.val w'):
 Calls P f args x.val λe a=>e=.returned v/\∃y:aj w0 w1,a=y.val:=
 h.mono λe w' ⟨c,b⟩=>⟨c,⟨w',x.st.trans (ae.below b),x.be.trans (b.mono x.be.size)⟩,rfl⟩
def aj.same{P f args w0 w1}{x:aj w0 w1}{v}(h:Calls P f args x.val λe w'=>e=.returned v/\w'=x.val):
 Calls P f args x.val λe a=>e=.returned v/\∃y:aj w0 w1,a=y.val:=
 h.mono λe w' ⟨b,c⟩=>⟨b,x,c⟩
def bh{P b Q a w w0 w1 l}(c:P.follows .mixedOrders=true)(d:Region.lexB .any l.toArray=true)(e:ae w1 w)(f:Below w0.heap.size w0 w)
 (h:wpQuiet P l.toArray (λw'=>∃x:aj w0 w1,w'=x.val) (λg=>∀w',(∃x:aj w0 w1,w'=x.val)->Q .normal g w') l a):(Code.region b l.toArray true).wp P Q a w:=
 wp_region_quiet (C:=λw'=>∃x:aj w0 w1,w'=x.val) c d ⟨⟨w.drew,e,f.drew⟩,rfl⟩ (by simpa using h)
section
variable {P:Program} {md:Region.Mode} {ops:Array Oper} {C:World->Prop}
def nC(P:Program)(md:Region.Mode)(ops:Array Oper)(C:World->Prop)(n:Nat)(L:Array Bool->Act->Prop):Nat->Array Bool->Act->Prop
 |0,s,a=>L s a
 |f+1,s,a=>Region.ready md ops s≠[]/\∀i∈Region.ready md ops s,i<n/\qOp P ops C i (nC P md ops C n L f (s.setIfInBounds i true)) a
def nC.any{n g L Q}(d:∀s a w,C w->L s a->wpAny P md ops Q g s a w):
 ∀(f) (s) (a) (w),C w->nC P md ops C n L f s a->wpAny P md ops Q (f+g) s a w:=by
 intro f;induction f with
 |zero=>intro s a w b h;rw[RB];exact d s a w b h
 |succ f e=>
  intro s a w b h;have j:f+1+g=(f+g)+1:=by omega
  rw[j];exact⟨λk=>absurd k h.1,λi l=>wpOp_of_qOp b (λm w' c o=>e _ m w' c o) (h.2 i l).2⟩
def nC.first{n i o v L}(B:ops[i]? =some o)(m:∀(j:Nat) (o) cs b,ops[j]? =some o->o.op≠ .select cs b)
 (I:Region.sinkB md ops n=true) (J:Region.chainB md ops n=true) (K:n<ops.size) (x:i<n) (q:∀s a,L s a->∀j∈Region.ready md ops s,n<=j):
 ∀(f) (s) (a),HeadInv md ops n s->
  (∀j r,ops[j]? =some r->j≠i->s.getD j true=false->(∀e∈r.after,Region.binds md e=true->e.on≠i)->o.apart ops r=true)->
  i∈Region.ready md ops s->YieldsIn P ops C o v a->nC P md ops C n L f (s.setIfInBounds i true) (a.put o.dst v)->nC P md ops C n L (f+1) s a:=by
 intro f;induction f with
 |zero=>
  intro s a g d t A H;refine⟨UK t,λj u=>?_⟩;have l:j<n:=Ul λh=>tail_waits I J K g _ i rfl x (mem_ready.1 t).1 j (by omega) u;refine⟨l,?_⟩;by_cases c:j=i
  ·rw[c];exact A.qOp B H
  ·have:=q _ _ H j (ready_mono u c)
   omega
 |succ f O=>
  intro s a g d t A H;refine⟨UK t,λj u=>?_⟩;have l:j<n:=Ul λh=>tail_waits I J K g _ i rfl x (mem_ready.1 t).1 j (by omega) u;refine⟨l,?_⟩;by_cases c:j=i
  ·rw[c];exact A.qOp B H
  ·obtain⟨p,r,w,y⟩:=mem_ready.1 u
   have D:∀e∈r.after,Region.binds md e=true->e.on≠i:=λe Q R E=>by have M:=y e Q R;rw[E,getD_both (mem_ready.1 t).1]at M;cases M
   have S:=qOp_put w (d j r w c p D) (λcs b=>m i o cs b B) (λcs b=>m j r cs b w) A (H.2 j (ready_mono u c)).2;refine qOp_mono (λT N=>O _ T (g.set u l) ?_ (ready_mono t (RN c)) N.1 ?_) S
   ·intro k U V F G
    refine d k U V F ?_;by_cases z:j=k
    ·rw[<-z];exact p
    ·rwa[getD_set_ne true z]at G
   ·rw[Array.setIfInBounds_comm _ _ c]
    exact N.2
def nC.lex{n g f}(d:Region.noSelect ops=true)(r:Region.sinkB md ops n=true)(t:Region.chainB md ops n=true)(u:n<ops.size):
 ∀(l) (k) (s) (a),(∀j,j<l.length->l[j]? =ops[k+j]?)->k+l.length=n->HeadInv md ops n s->
 Region.lexHead md ops g l.length k s=true->wpQuiet P ops C f l a->nC P md ops C n (λs' p=>Region.seqB md ops g n s'=true/\f p) l.length s a:=by
 intro l;induction l with
 |nil=>
  intro k s a i m b c h;obtain rfl:k=n:=by simpa using m
  exact⟨c,h⟩
 |cons o l w=>
  intro k s a i m b c h;have e:ops[k]? =some o:=(i 0 (TO _)).symm;rw[Rs]at m;rw[Rs,Region.lexHead,RD,RD]at c;have q:k∈Region.ready md ops s:=by simpa using c.1.1
  have x:qOp P ops C k (wpQuiet P ops C f l) a:=by unfold qOp;rw[e];exact h
  obtain⟨v,y,z⟩:=yieldsIn_of_qOp e x;refine nC.first e (Region.noSelect_spec d) r t u (by omega) (λs' p A=>seqB_ready A.1) l.length s a b (Region.free_spec e c.1.2) q y ?_;refine w (k+1) _ _ (λj B=>?_) (by omega) (b.set q (by omega)) c.2 z;have:=i (j+1) (by rw[Rs];omega);rw[show k+(j+1)=k+1+j by omega]at this;exact this
end
def aT{P u Q a w w0 w1}{l:List Oper}(n)(v:P.follows .mixedOrders=true)(i:Region.lexTailB .any l.toArray n=true)
 (y:ae w1 w) (z:Below w0.heap.size w0 w)
 (h:wpQuiet P l.toArray (λw'=>∃x:aj w0 w1,w'=x.val) (λk=>∀w',(∃x:aj w0 w1,w'=x.val)->wpList P l.toArray Q (l.drop n) k w') (l.take n) a):(Code.region u l.toArray true).wp P Q a w:=by
 rw[Region.lexTailB]at i;simp only[RD,RJ]at i;obtain⟨⟨⟨⟨c,o⟩,A⟩,B⟩,d⟩:=i;have D:n<l.length:=by simpa using o
 have b:(l.take n).length=n:=by rw[R9];omega
 have e:(l.drop n).length=l.toArray.size-n:=by simp
 have f:HeadInv .any l.toArray n (Array.replicate l.toArray.size false):=⟨by simp,λj G _ p=>(by rw[getD_replicate_false]at p;cases p),λt _ E=>getD_in (by simpa using E) (getD_replicate_false _ _)⟩
 refine wp_region_any v ?_;have H:=nC.lex (md:=.any) (g:=l.toArray.size-n) (C:=λw'=>∃x:aj w0 w1,w'=x.val) c A B o (l.take n) 0 _ a (λj q=>by
  have m:j<n:=by rw[b]at q;exact q
  simp[m]) (by rw[b];omega) f (by rw[b];exact d) h
 have R:=nC.any (Q:=Q) (g:=l.toArray.size-n) (λs k w' F r=>by have:=wpAny_of_seq (md:=.any) (Q':=Q) (l.drop n) n s k w' (λj=>by simp[Um]) (by rw[e];exact r.1) (r.2 w' F);rwa[e]at this) _ _ _ _ ⟨⟨w.drew,y,z.drew⟩,rfl⟩ H
 rw[b,show n+(l.toArray.size-n)=l.toArray.size by omega]at R;exact R
inductive Src(w:World)(size:Nat):Option Addr->Nat->List Value->Prop
 |nil:Src w size none 0 []
 |some (ad:Addr) (m:Nat) (news:List Value) (hl:news.length=m*size) (hc:∀j u,news[j]? =some u->w.cell? (ad.add j)=some u):Src w size (some ad) m news
section
variable {P:Program} (w:World) (base:Nat) (t ty e:TypeId) (i:TypeInfo) (z:Value) (size bytes:Nat) (ht:P.underlying t=some (.slice e)) (hi:P.info? e=some i) (hz:i.zero=some z) (hsize:i.size=size) (hby:i.bytes=bytes) (hzs:z.cells.size=size) (hsz:0<size) (v:Value) (n:Nat) (xs:List Value) (hown:w.ownsRow base e size v n xs) (A:Option Addr) (m c:Nat) (news:List Value) (hs:Src w size A m news) (h1:∀u∈news,u.oneCell'=true) (h63:n+m<=maxLen) (hbytes:(n+m)*bytes<=140737488355328) (hbase:base<=w.heap.size)
include ht hi hz hsize hby hzs hsz hown hs h1 h63 hbytes hbase
def vu:∃b w',(Builtin.append_ #[t,t] ty #[v,.slice A m c]).run P w=.ok b w'/\w'.ownsRow base e size b (n+m) (xs++news)/\w.grownBy w' v.ownBlock/\(b.ownBlock=v.ownBlock\/b.ownBlock=some w.heap.size):=by
 cases hs with
 |some ad m news f j=>obtain⟨b,w',h,k,l,_,p⟩:=run_append_own_at (P:=P) w base t ty e i z size bytes ht hi hz hsize hby hzs hsz v n xs hown ad m c news f j h1 h63 hbytes hbase;exact⟨b,w',h,k,l,p⟩
 |nil=>
  refine⟨v,w,?_,by rw[SM,Th];exact hown,World.grownBy.refl w _,.inl rfl⟩;obtain⟨rfl,_⟩|⟨g,cap,q,rfl,_,_,d,_⟩:=hown.2
  ·simp[Builtin.append_,run_underlying ht,sizeOf,typeInfo,hi,Builtin.lenOf,Builtin.firstCells]
  ·simp[Builtin.append_,run_underlying ht,sizeOf,typeInfo,hi,Builtin.lenOf,Builtin.firstCells,d,storeCells]
end
section
variable {P:Program} {w:World} {o:Oper} {a:Act} {K:Act->World->Prop} {Q:Exit->Act->World->Prop} (s x:Operand) (t:TypeId) (ho:o.op=.call {callee:=.builtin .append,args:=#[s,x],argTypes:=#[t,t]}) (base:Nat) (e:TypeId) (i:TypeInfo) (z:Value) (size bytes:Nat) (ht:P.underlying t=some (.slice e)) (hi:P.info? e=some i) (hz:i.zero=some z) (hsize:i.size=size) (hby:i.bytes=bytes) (hzs:z.cells.size=size) (hsz:0<size) (v:Value) (n:Nat) (xs:List Value) (hsv:a.eval s=v) (hown:w.ownsRow base e size v n xs) (A:Option Addr) (m c:Nat) (news:List Value) (hxv:a.eval x=.slice A m c) (hs:Src w size A m news) (h1:∀u∈news,u.oneCell'=true) (h63:n+m<=maxLen) (hbytes:(n+m)*bytes<=140737488355328) (hbase:base<=w.heap.size)
include ho ht hi hz hsize hby hzs hsz hown hs h1 h63 hbytes hbase hsv hxv
def pd(h:∀b w',w'.ownsRow base e size b (n+m) (xs++news)->w.grownBy w' v.ownBlock->(b.ownBlock=v.ownBlock\/b.ownBlock=some w.heap.size)->K (a.put o.dst b) w'):o.wp P a w K Q:=by obtain⟨b,w',d,f,g,j⟩:=vu (P:=P) w base t o.type e i z size bytes ht hi hz hsize hby hzs hsz v n xs hown A m c news hs h1 h63 hbytes hbase;unfold Oper.wp execOp;simp only[ho,resolve,invoke,builtin,Sem.run_bind,Sem.run_pure,Result.andThen_ok,List.map_toArray,UT,List.map_nil,hsv,hxv,d];exact h b w' f g j
def eU{ops:Array Oper}{rest:List Oper}(d:o.guard=none)(h:∀b w',w'.ownsRow base e size b (n+m) (xs++news)->w.grownBy w' v.ownBlock->(b.ownBlock=v.ownBlock\/b.ownBlock=some w.heap.size)->wpList P ops Q rest (a.put o.dst b) w'):wpList P ops Q (o::rest) a w:=wpList_plain d λ_ f=>pd s x t ho base e i z size bytes ht hi hz hsize hby hzs hsz v n xs hsv hown A m c news hxv hs h1 h63 hbytes hbase λb w' g j k=>f _ _ (h b w' g j k)
def bO{ops E}(d:o.guard=none)(h:∀b w',w'.ownsRow base e size b (n+m) (xs++news)->w.grownBy w' v.ownBlock->(b.ownBlock=v.ownBlock\/b.ownBlock=some w.heap.size)->K (a.put o.dst b) w'):
 if Region.wanted o (yielded ops a.tmps)=true then Oper.wp P o a w K Q else E:=by
 rw[Rp (by simp[Region.wanted,d])];exact pd s x t ho base e i z size bytes ht hi hz hsize hby hzs hsz v n xs hsv hown A m c news hxv hs h1 h63 hbytes hbase h
end
end Go.Proofs
namespace Go.Proofs
open Go.Tm Go.RowKit
variable {fs:Array Func} (L:bQ fs)
def dg(K:Nat->Prop)(w:World)(mc:Array Value)(m:Mark):Prop:=∃a,mc=#[.string m.name,.string m.word,a,.int .i64 m.day,.bool m.known]/\aB K 1 dn w a m.aW
structure OkM(m:Mark):Prop where
 word:m.word.size<=16
 fig:m.aW.length<=5
 code:∀x∈m.aW,0<=x/\x<=999
 day:0<=m.day/\m.day<=99999
def aB.ints{K w w'}(a:ae w w'){v l}(h:aB K 1 dn w v l):aB K 1 dn w' v l:=h.stays a λb c o x e h=>by subst e;exact dn.carry (Carry.keep a) b b o x rfl h
def yq(t one two):bD t 0 one two=dF (aR t.aC one.word.data.toList) (aR t.aC two.word.data.toList):=rfl
def eO(t:Table)(one two:Bs)(k:Nat):Int:=(List.range k).foldl (λa k=>max a (dF (bH t k one) (bH t k two))) 0
def kh(t one two k):eO t one two (k+1)=max (eO t one two k) (dF (bH t k one) (bH t k two)):=by unfold eO;rw[T6,Uj];rfl
def yt(t one two):bD t 1 one two=eO t one.word.data.toList two.word.data.toList t.aO.length:=rfl
def yu(t one two):bD t 2 one two=gp t (aR t.aC one.word.data.toList) (aR t.aC two.word.data.toList):=rfl
def yv(t one two):bD t 3 one two=dF (aR t.aC one.word.data.toList) (aR t.aC two.word.data.toList).reverse:=rfl
def yw(t one two):bD t 4 one two=uh (aR t.aC one.word.data.toList) (aR t.aC two.word.data.toList):=rfl
def yx(t k one two)(h:k≠0/\k≠1/\k≠2/\k≠3/\k≠4):bD t k one two=bS one.aW two.aW:=by unfold bD;simp only[Ro h.1,Ro h.2.1,Ro h.2.2.1,Ro h.2.2.2.1,Ro h.2.2.2.2]
def yy{K:Nat->Prop}{v0 v1 v2:Value}{t:Table}{m1 m2:Array Value}{one two:Mark}(kd:Int)(w:World)(ht:IsTable K w v0 v1 v2 t)(u:OkT t)(h1:dg K w m1 one)(h2:dg K w m2 two)(o1:OkM one)(o2:OkM two):
 Calls (Qs fs) 70 #[.agg #[v0,v1,v2],.int .i64 kd,.agg m1,.agg m2] w λe w'=>e=.returned (.int .i64 (bD t kd one two))/\Below w.heap.size w w':=by
 have e54:=e54 L;have e65:=e65 L;have Pp:=Pp L;have Pq:=Pq L;have Pt:=Pt L;have Ml:=Ml L;have Pu:=Pu L;obtain⟨f1,rfl,r1⟩:=h1;obtain⟨f2,rfl,r2⟩:=h2;obtain⟨N,f⟩:=ex (w.alloc (.cells #[v0,v1,v2] 26));obtain⟨wb,g⟩:=ex (N.alloc (.cells #[.string one.name,.string one.word,f1,.int .i64 one.day,.bool one.known] 38));obtain⟨w1,j⟩:=ex (wb.alloc (.cells #[.string two.name,.string two.word,f2,.int .i64 two.day,.bool two.known] 38));have Sa:ae N w1:=by rw[j,g];exact(ae.alloc _ _).trans (ae.alloc _ _)
 have Sb:ae wb w1:=by rw[j];exact ae.alloc _ _
 have S1:ae w w1:=(by rw[f];exact ae.alloc _ _:ae w N).trans Sa;have B1:Below w.heap.size w w1:=by rw[j,g,f];exact(((Below.refl _ w).alloc (Rq _) _).alloc (by simp) _).alloc (by simp;omega) _
 have z:N.heap.size=w.heap.size+1:=by rw[f];simp
 have hsb:wb.heap.size=w.heap.size+1+1:=by rw[g,<-z];simp
 have ct:∀i v,(#[v0,v1,v2]:Array Value)[i]? =some v->w1.cell? ⟨w.heap.size,i,none⟩=some v:=λi v h=>Sa.cell (by rw[f];exact aw w _ 26 i v h);have c1:∀i v,(#[.string one.name,.string one.word,f1,.int .i64 one.day,.bool one.known]:Array Value)[i]? =some v->w1.cell? ⟨w.heap.size+1,i,none⟩=some v:=λi v h=>Sb.cell (by rw[g,<-z];exact aw N _ 38 i v h);have c2:∀i v,(#[.string two.name,.string two.word,f2,.int .i64 two.day,.bool two.known]:Array Value)[i]? =some v->w1.cell? ⟨w.heap.size+1+1,i,none⟩=some v:=λi v h=>by rw[j,<-hsb];exact aw wb _ 38 i v h
 have t0:=ct 0 _ rfl;have t1:=ct 1 _ rfl;have t2:=ct 2 _ rfl;have a1:=c1 1 _ rfl;have a2:=c1 2 _ rfl;have b1:=c2 1 _ rfl;have b2:=c2 2 _ rfl;have hT:=ht.stays S1;have O:=r1.ints S1;have P:=r2.ints S1;go_enter (n70 L),Tryz.ntmps70;go_upto_region 1 with fail;rw[<-f,<-g,<-j];obtain⟨N0,h0⟩:=ex (w.heap.size);obtain⟨N1,h1⟩:=ex (w.heap.size+1);obtain⟨N2,h2⟩:=ex (w.heap.size+1+1);rw[<-h2]at b1 b2⊢;rw[<-h1]at a1 a2⊢;rw[<-h0]at t0 t1 t2⊢;have BW:Hid (Below w.heap.size w w1):=B1;clear f g j Sa Sb S1 B1 z hsb ct c1 c2 ht r1 r2 h0 h1 h2;have HT:Hid _:=hT;have Q:=dG u one.word.data.toList;have R:=dG u two.word.data.toList;rw[<-Lib.size_eq,<-bE]at Q R;obtain⟨z1,z2,z3,z4⟩:=o1;obtain⟨y1,y2,y3,y4⟩:=o2;have cB:∀(s:ByteArray),s.size<=16->∀x:aj w w1,Calls (Qs fs) 54 #[.agg #[v0,v1,v2],.string s] x.val λe w'=>e=.returned (.string (bs (aR t.aC s.data.toList)))/\∃y:aj w w1,w'=y.val:=λs hs x=>aj.calls (Bu L s x.val (hT.stays x.st) u (by omega))
 have J:=cB one.word z1;have M:=cB two.word y1;have C:=λx:aj w w1=>x.cell t0;have D:=λx:aj w w1=>x.cell t1;have E:=λx:aj w w1=>x.cell t2;have F:=λx:aj w w1=>x.cell a1;have aM:=λx:aj w w1=>x.cell a2;have G:=λx:aj w w1=>x.cell b1;have a6:=λx:aj w w1=>x.cell b2;refine bh (w0:=w) (w1:=w1) (by kernel_rfl) (by kernel_rfl) (ae.refl _) BW.out ?_;haveI H:Nonempty (aj w w1):=⟨⟨w1,ae.refl _,BW.out⟩⟩
 repeat (go_big_quiet_step (first|(go_at_call 54;exact J _)|(go_at_call 54;exact M _)))
 refine wpQuiet_nil ?_;rintro l ⟨⟨_,p,Bx⟩,rfl⟩;have r:=hT.stays p;have S:=O.ints p;have T:=P.ints p;have U:=p.cell t0;have V:=p.cell t1;have W:=p.cell t2;have X:=p.cell a1;have a8:=p.cell a2;have Y:=p.cell b1;have ba:=p.cell b2;clear J M cB C D E F aM G a6 hT O P t0 t1 t2 a1 a2 b1 b2 HT H;obtain⟨A,hA⟩:=ex (bs (aR t.aC one.word.data.toList));obtain⟨B,hB⟩:=ex (bs (aR t.aC two.word.data.toList));have Z:A.data.toList=aR t.aC one.word.data.toList:=by rw[hA,bY]
 have aa:B.data.toList=aR t.aC two.word.data.toList:=by rw[hB,bY]
 rw[<-hA]at Q⊢;rw[<-hB]at R⊢;have b:Hid _:=(⟨Z,aa⟩:A.data.toList=aR t.aC one.word.data.toList/\B.data.toList=aR t.aC two.word.data.toList)
 clear hA hB Z aa;have q:Hid _:=Bx;by_cases k0:kd=0
 ·subst k0
  have c:=su L A B l (by omega) (by omega);go_wp2_with (first|(go_at_call 115;refine c.mono ?_;clear c;rintro e w2 ⟨rfl,d⟩))
  go_ret;exact⟨by rw[yq,<-b.out.1,<-b.out.2];rfl,q.out.trans (d.mono q.out.size)⟩
 have j0:(kd==0)=false:=by rw[R2];exact k0
 by_cases k2:kd=2
 ·subst k2
  have c:=Ms L A B l r u.Od;go_wp2_with (first|(go_at_call 116;refine c.mono ?_;clear c;rintro e w2 ⟨rfl,d⟩))
  go_ret;exact⟨by rw[yu,<-b.out.1,<-b.out.2];rfl,q.out.trans (d.mono q.out.size)⟩
 have j2:(kd==2)=false:=by rw[R2];exact k2
 by_cases k3:kd=3
 ·subst k3
  have c:=JJ L B l (by omega);have c':=λwy=>su L A (bs B.data.toList.reverse) wy (by omega) (by rw[bE,Ui,<-Lib.size_eq];omega);go_wp2_with (first|(go_at_call 117;refine c.mono ?_;clear c;rintro e w2 ⟨rfl,rfl⟩)|(go_at_call 115;refine(c' _).mono ?_;clear c';rintro e w2 ⟨rfl,d⟩))
  go_ret;exact⟨by rw[yv,<-b.out.1,<-b.out.2,bY];rfl,q.out.trans (d.mono q.out.size)⟩
 have j3:(kd==3)=false:=by rw[R2];exact k3
 by_cases k4:kd=4
 ·subst k4
  have c:=P4 L A B l (by omega) (by omega);go_wp2_with (first|(go_at_call 118;refine c.mono ?_;clear c;rintro e w2 ⟨rfl,rfl⟩))
  go_ret;exact⟨by rw[yw,<-b.out.1,<-b.out.2];rfl,q.out⟩
 have j4:(kd==4)=false:=by rw[R2];exact k4
 by_cases k1:kd=1
 ·subst k1
  have HR:Hid ((l.cell? ⟨N0,0,none⟩=some v0/\l.cell? ⟨N0,2,none⟩=some v2)/\l.cell? ⟨N1,1,none⟩=some (.string one.word)/\l.cell? ⟨N2,1,none⟩=some (.string two.word)):=⟨⟨U,W⟩,X,Y⟩
  clear X Y;have n1:∀k,k<t.aO.length->∀s,(bH t k s).length<=3*s.length:=λk hk s=>lg u hk s;have ln:t.aO.length<=3:=u.uW;obtain⟨ao,c,rfl,bb,hc,a7,m⟩:=r.2.1;have HC:Hid _:=m;clear m a7;have HT:Hid _:=r;clear r S T W U;go_wp2;go_loopw [11,12] (λo i wr=>∃k:Nat,k<=t.aO.length/\i=.int .i64 k/\o=.int .i64 (eO t one.word.data.toList two.word.data.toList k)/\ae l wr/\Below w.heap.size w wr) (λo i _=>t.aO.length-(intOf i).toNat)
  case atStart=>exact⟨0,RA _,rfl,rfl,ae.refl _,q.out⟩
  case round=>
   obtain⟨k,hk,rfl,rfl,a,n⟩:=hrel;have ab:=a.cell V;have HW:Hid _:=(⟨a,n⟩:ae l wr/\Below w.heap.size w wr)
   obtain I|hge:=Ry k t.aO.length
   ·have ad:=IsTable.stays a HT.out
    have af:=a.cell HR.out.1.1;have ag:=a.cell HR.out.1.2;have ak:=a.cell HR.out.2.1;have al:=a.cell HR.out.2.2;clear a n V;have x1:=n1 k I one.word.data.toList;have x2:=n1 k I two.word.data.toList;rw[<-Lib.size_eq,<-bE]at x1 x2;have cS:∀(s:ByteArray),s.size<=16->∀x:aj w wr,Calls (Qs fs) 65 #[.agg #[v0,.slice ao t.aO.length c,v2],.int .i64 k,.string s] x.val λe w'=>e=.returned (.string (bs (bH t k s.data.toList)))/\∃y:aj w wr,w'=y.val:=λs hs x=>aj.calls (Hf L k s x.val (ad.stays x.st) u (by omega) I)
    have J:=cS one.word z1;have M:=cS two.word y1;have q3:∀x:aj w wr,Calls (Qs fs) 115 #[.string (bs (bH t k one.word.data.toList)),.string (bs (bH t k two.word.data.toList))] x.val λe w'=>e=.returned (.int .i64 (dF (bH t k one.word.data.toList) (bH t k two.word.data.toList)))/\∃y:aj w wr,w'=y.val:=λx=>by have h:=aj.calls (x:=x) (su L (bs (bH t k one.word.data.toList)) (bs (bH t k two.word.data.toList)) x.val (by omega) (by omega));rw[bY,bY]at h;exact h
    obtain⟨sA,an⟩:=ex (bs (bH t k one.word.data.toList));obtain⟨sB,ar⟩:=ex (bs (bH t k two.word.data.toList));obtain⟨lv,ax⟩:=ex (dF (bH t k one.word.data.toList) (bH t k two.word.data.toList));have ay:Hid _:=kh t one.word.data.toList two.word.data.toList k;rw[<-an]at J q3;rw[<-ar]at M q3;rw[<-ax]at q3 ay;have C:=λx:aj w wr=>x.cell af;have D:=λx:aj w wr=>x.cell ab;have E:=λx:aj w wr=>x.cell ag;have F:=λx:aj w wr=>x.cell ak;have G:=λx:aj w wr=>x.cell al;clear cS an ar ax x1 x2 n1 ad;go_wp2;clear af ab ag ak al;refine bh (w0:=w) (w1:=wr) (by kernel_rfl) (by kernel_rfl) (ae.refl _) HW.out.2 ?_;haveI H:Nonempty (aj w wr):=⟨⟨wr,ae.refl _,HW.out.2⟩⟩
    repeat (go_big_quiet_step (first|(go_at_call 65;exact J _)|(go_at_call 65;exact M _)|(go_at_call 115;exact q3 _)))
    refine wpQuiet_nil ?_;rintro wz ⟨⟨_,Sz,Bz⟩,rfl⟩;have SB:Hid _:=(⟨Sz,Bz⟩:ae wr wz/\Below w.heap.size w wz)
    clear J M q3 C D E F G H Sz Bz;go_wp2;refine⟨⟨k+1,by omega,by go_num,by rw[ay.out];go_num,HW.out.1.trans SB.out.1,SB.out.2⟩,by simp[intOf];omega⟩
   ·clear a n
    go_wp2;obtain rfl:k=t.aO.length:=by omega
    go_ret;exact⟨by rw[yt];rfl,HW.out.2⟩
 have j1:(kd==1)=false:=by rw[R2];exact k1
 have c:=Hh L l S T (by omega) (by omega) z3 y3;go_wp2_with (first|(go_at_call 119;refine c.mono ?_;clear c;rintro e w2 ⟨rfl,d⟩))
 go_ret;exact⟨by rw[yx _ _ _ _ ⟨k0,k1,k2,k3,k4⟩];rfl,q.out.trans (d.mono q.out.size)⟩
end Go.Proofs

import Derived.Deep.OwnRows
import Derived.BigRegion
import Derived.StillTail
import Derived.Maps.AppendAt
import Derived.Deep.AppendLies
import Derived.RegionTactic
import Derived.Deep.CutRange
import Derived.Deep.RegionHeld3
import Derived.Deep.CutBlock
import Derived.Shelf.Lays
import Derived.Test.YtaglpcmhopjebaaGreatDoorY1
import Derived.Test.YtaglpcmhopjebaaGreatDoorY8
set_option linter.all false
set_option maxRecDepth 100000
set_option maxHeartbeats 20000000
namespace Go.Proofs
open Go.Tm Go.RowKit
variable {fs:Array Func} (L:bR fs)
def ft(b):aU [] b=b.length:=QY b
def il(a):aU a []=a.length:=MB a
def mV(x y)(a b:Bs):aU (x::a) (y::b)=if x=y then aU a b else 1+min (aU a b) (min (aU a (y::b)) (aU (x::a) b)):=by rw[QZ]
def tR:∀(n) (a b),a.length+b.length<=n->(∀x,aU a b<=aU (x::a) b+1/\aU (x::a) b<=aU a b+1)/\(∀y,aU a b<=aU a (y::b)+1/\aU a (y::b)<=aU a b+1):=by intro n;induction n with|zero=>intro a b h;have d:a=[]:=Vx (by omega);have e:b=[]:=Vx (by omega);subst d;subst e;simp[ft,il]|succ n c=>intro a b h;constructor;intro x;(cases b with|nil=>rw[il,il];simp only[UM];omega|cons y b=>simp only[UM]at h;rw[mV];have f:=(c a b (by omega)).2 y;split;omega;constructor;(have g:aU a (y::b)<=aU (x::a) b+1+1:=by have:=(c a b (by omega)).1 x;omega);omega;omega);intro y;cases a with|nil=>rw[ft,ft];simp only[UM];omega|cons x a=>simp only[UM]at h;rw[mV];have f:=(c a b (by omega)).1 x;split;omega;constructor;have:=(c a b (by omega)).2 y;omega;omega
def MG(x y)(a b:Bs):aU (x::a) (y::b)=min (aU a b+if x=y then 0 else 1) (min (aU a (y::b)+1) (aU (x::a) b+1)):=by have c:=(tR _ a b (UI _)).1 x;have d:=(tR _ a b (UI _)).2 y;rw[mV];split<;>omega
def nF(a b):aU a b<=a.length+b.length:=by induction a with|nil=>rw[ft];simp|cons x a c=>have:=((tR _ a b (UI _)).1 x).2;simp only[UM];omega
def Re:((Tryz.prog).info? 36).map (λi=>(i.zero,i.size,i.bytes))=some (some (.slice none 0 0),1,24):=by kernel_rfl
def oJ(N n m p:Nat)(r:Nat):Zj:=if p<=r then .slice (some ⟨N+1+(n-r),0,none⟩) (m+1) (m+1)else .slice none 0 0
def zh(a b:Bs)(r q:Nat)(k:Nat):Zj:=if q<=k then .i (aU (a.drop r) (b.drop k))else .i 0
structure Rows(w wr:x6)(a b:Bs)(p:Nat):Prop where
 outer:wr.rowIs w.heap.size 36 (a.length+1) (oJ w.heap.size a.length b.length p)
 rows:∀r,p<=r->r<=a.length->wr.rowIs (w.heap.size+1+(a.length-r)) 3 (b.length+1) (zh a b r 0)
 size:wr.heap.size=w.heap.size+1+(a.length+1-p)
 below:xv w wr
structure vO(w wr:x6)(a b:Bs)(q p:Nat):Prop where
 outer:wr.rowIs w.heap.size 36 (a.length+1) (oJ w.heap.size a.length b.length q)
 rows:∀r,q<r->r<=a.length->wr.rowIs (w.heap.size+1+(a.length-r)) 3 (b.length+1) (zh a b r 0)
 row:wr.rowIs (w.heap.size+1+(a.length-q)) 3 (b.length+1) (zh a b q p)
 size:wr.heap.size=w.heap.size+1+(a.length+1-q)
 below:xv w wr
def vO.PI{w wr a b q}(h:vO w wr a b q 0)(d:q<=a.length):Rows w wr a b q:=
 ⟨h.outer,λr e c=>by
  obtain h3|h3:=UK q r
  .exact h.rows r h3 c
  .have:r=q:=by omega
   subst this;exact h.row,h.size,h.below⟩
def vO.step{w wr:x6}{a b:Bs}{q p:Nat}(h:vO w wr a b q (p+1))(d:q<=a.length)(f:p<=b.length):vO w (wr.setCell ⟨w.heap.size+1+(a.length-q),p,none⟩ (.i (aU (a.drop q) (b.drop p)))) a b q p where
 outer:=h.outer.setOther (by simp only[];omega) _
 rows r h1 h2:=(h.rows r h1 h2).setOther (by simp only[];omega) _
 row:=(h.row.set p _).congr λi g=>by
  unfold zh;by_cases e:i=p
  .rw[UH e,UH (by omega),e]
  .rw[UG e]
   by_cases c:p<=i
   .rw[UH (by omega),UH c]
   .rw[UG (by omega),UG c]
 size:=by simp[World.setCell,h.size]
 below:=h.below.setCell (by simp only[];omega) _
def vO.drewN{w wr a b q p}(h:vO w wr a b q p)(n):vO w (wr.drewN n) a b q p:=⟨h.outer,h.rows,h.row,h.size,Go.below_drewN h.below n⟩
def Rows.next{w wr a b q}(h:Rows w wr a b (q+1))(l:q<=a.length):vO w ((wr.alloc (.cells (madeCells #[.i 0] (b.length+1)) 3)).setCell ⟨w.heap.size,q,none⟩ (.slice (some ⟨wr.heap.size,0,none⟩) (b.length+1) (b.length+1))) a b q (b.length+1):=by (have d:wr.heap.size=w.heap.size+1+(a.length-q):=by rw[h.size];omega);have c:=World.rowIs_made wr (.i 0) (b.length+1) 3;rw[d]at c;refine⟨((h.outer.alloc _).set q _).congr λi g=>?_,λr j k=>((h.rows r j k).alloc _).setOther (by simp only[];omega) _,((c.setOther (by simp only[];omega) _).congr λi g=>?_),?_,(h.below.alloc (by omega) _).setCell (UI _) _⟩;unfold oJ;by_cases e:i=q;rw[UH e,UH (by omega),e,d];rw[UG e];by_cases f:q<=i;rw[UH (by omega),UH f];rw[UG (by omega),UG f];unfold zh;rw[UG (by omega)];simp[World.setCell,d];omega
def D2(a b:Zk)(w:x6)(ha:a.size<=1000)(hb:b.size<=1000):Calls (Qs fs) 88 #[.string a,.string b] w λe w'=>e=.returned (.slice (some ⟨w.heap.size,0,none⟩) (a.size+1) (a.size+1))/\Rows w w' a.data.toList b.data.toList 0:=by
 have E:=run_make_row' (P:=Qs fs) 142 36 (.slice none 0 0) 24 Tryz.underlying142 Re rfl .i64 .i64 (a.size+1) (by omega) (by omega);have F:=run_make_row' (P:=Qs fs) 36 3 (.i 0) 8 Tryz.underlying36 (B6 fs) rfl .i64 .i64 (b.size+1) (by omega) (by omega);rw[show((a.size+1:Nat):Int)=(a.size:Int)+1 by omega]at E;rw[show((b.size+1:Nat):Int)=(b.size:Int)+1 by omega]at F;have Q:=Lib.size_eq a;have R:=Lib.size_eq b;obtain⟨A,n⟩:=ex (a.data.toList);obtain⟨B,s⟩:=ex (b.data.toList);rw[<-n]at Q;rw[<-s]at R;rw[<-n,<-s];have d:Hid (a.size=A.length/\b.size=B.length):=⟨Q,R⟩
 have HG:Hid ((∀q (h:q<a.size),A.drop q=a[q]::A.drop (q+1))/\(∀q (h:q<b.size),B.drop q=b[q]::B.drop (q+1))):=⟨λq h=>by rw[n];exact drop_cons a q h,λq h=>by rw[s];exact drop_cons b q h⟩
 clear Q R n s;go_enter (n88 L),Tryz.ntmps88;go_wp2;go_loopw [6] (λi wr=>∃(p:Nat) (j:Int),p<=a.size+1/\j=(p:Int)-1/\i=.i j/\Rows w wr A B p) (λi _=>(intOf i+1).toNat);case atStart=>refine⟨a.size+1,_,UI _,rfl,by go_num,?_⟩;have h:=World.rowIs_made w (.slice none 0 0) (a.size+1) 36;rw[d.o.1]at h⊢;refine⟨h.congr λi hi=>?_,λr h1 h2=>by omega,by simp,(aH w _)⟩;unfold oJ;rw[UG (by omega)]
 case round=>
  obtain⟨p,G,hp,k,rfl,D⟩:=hrel;obtain rfl|hpos:=Vr p
  ·(obtain rfl:G= -1:=by omega);clear k;have HR:=jj D;clear D;go_wp2;go_ret;exact⟨rfl,HR.o⟩
  obtain⟨q,rfl⟩:∃q,p=q+1:=⟨p-1,by omega⟩
  obtain rfl:G=(q:Int):=by omega
  clear k;have H:∀o,(wr.alloc o).cell? ⟨w.heap.size,q,none⟩=some (.slice none 0 0):=λo=>by rw[(D.outer.alloc o).cell (by have:=d.o.1;omega)];unfold oJ;rw[UG (by omega)]
  have I:∀o,(wr.alloc o).frozen? ⟨w.heap.size,q,none⟩=false:=λo=>(D.outer.alloc o).frozen q;have f:=D.next (by have:=d.o.1;omega);rw[<-d.o.2]at f;have O:=jj f;clear f D;go_wp2;clear H I;go_loopw [7] (λi wi=>∃(z:Nat) (j:Int),z<=b.size+1/\j=(z:Int)-1/\i=.i j/\vO w wi A B q z) (λi _=>(intOf i+1).toNat);case atStart=>exact⟨b.size+1,_,UI _,rfl,by go_num,O.o⟩
  case round=>
   clear O;obtain⟨z,G,ag,k,rfl,f⟩:=hrel;obtain rfl|hpos2:=Vr z
   ·(obtain rfl:G= -1:=by omega);clear k;have O:=jj f;clear f;go_wp2;refine⟨⟨q,_,by omega,rfl,by go_num,O.o.PI (by have:=d.o.1;omega)⟩,by simp[intOf]⟩
   (obtain⟨c,rfl⟩:∃c,z=c+1:=⟨z-1,by omega⟩);(obtain rfl:G=(c:Int):=by omega);(clear k;have t:q<=A.length:=by have:=d.o.1;omega);(have u:c<=B.length:=by have:=d.o.2;omega);(have S:wr.cell? ⟨w.heap.size,q,none⟩=some (.slice (some ⟨w.heap.size+1+(A.length-q),0,none⟩) (b.size+1) (b.size+1)):=by rw[f.outer.cell (by omega)];unfold oJ;rw[UH (UI _),d.o.2]);(have J:wr.cell? ⟨w.heap.size+1+(A.length-q),c,none⟩=some (.i 0):=by rw[f.row.cell (by omega)];unfold zh;rw[UG (by omega)]);have T:=f.row.frozen c;have l:=f.step t u;have HS:=jj l;clear l;obtain⟨U,m⟩:=ex (w.heap.size+1+(A.length-q));rw[<-m]at S J T HS;obtain hqa|hqa:=UK q a.size
   .obtain hcb|hcb:=UK c b.size
    ·(have V:wr.cell? ⟨w.heap.size,q+1,none⟩=some (.slice (some ⟨w.heap.size+1+(A.length-(q+1)),0,none⟩) (b.size+1) (b.size+1)):=by rw[f.outer.cell (by have:=d.o.1;omega)];unfold oJ;rw[UH (by omega),d.o.2]);(have C:=f.rows (q+1) (by omega) (by have:=d.o.1;omega);have e11:wr.cell? ⟨w.heap.size+1+(A.length-(q+1)),c+1,none⟩=some (.i (aU (A.drop (q+1)) (B.drop (c+1)))):=by rw[C.cell (by have:=d.o.2;omega)];unfold zh;rw[UH (UP _)]);(have e10:wr.cell? ⟨w.heap.size+1+(A.length-(q+1)),c,none⟩=some (.i (aU (A.drop (q+1)) (B.drop c))):=by rw[C.cell (by have:=d.o.2;omega)];unfold zh;rw[UH (UP _)]);(have W:wr.cell? ⟨U,c+1,none⟩=some (.i (aU (A.drop q) (B.drop (c+1)))):=by rw[m,f.row.cell (by have:=d.o.2;omega)];unfold zh;rw[UH (UI _)]);(obtain⟨ak,x⟩:=ex (w.heap.size+1+(A.length-(q+1)));rw[<-x]at V e11 e10;have y:aU (A.drop q) (B.drop c)=min (aU (A.drop (q+1)) (B.drop (c+1))+if a[q]=b[c]then 0 else 1) (min (aU (A.drop (q+1)) (B.drop c)+1) (aU (A.drop q) (B.drop (c+1))+1)):=by have g1:=HG.o.1 q hqa;have g2:=HG.o.2 c hcb;rw[g1,g2,MG]);(have X:aU (A.drop (q+1)) (B.drop (c+1))<=2000:=UJ (nF _ _) (by rw[UY,UY];have:=d.o;omega);have Y:aU (A.drop (q+1)) (B.drop c)<=2000:=UJ (nF _ _) (by rw[UY,UY];have:=d.o;omega);have Z:aU (A.drop q) (B.drop (c+1))<=2000:=UJ (nF _ _) (by rw[UY,UY];have:=d.o;omega);rw[y]at HS;obtain⟨an,K⟩:=ex (aU (A.drop (q+1)) (B.drop (c+1)));obtain⟨ao,M⟩:=ex (aU (A.drop (q+1)) (B.drop c));obtain⟨ar,N⟩:=ex (aU (A.drop q) (B.drop (c+1)));rw[<-K]at e11 X HS;rw[<-M]at e10 Y HS;rw[<-N]at W Z HS;have ax:((q:Int)==a.size)=false:=by rw[Ve];omega);(have ay:((c:Int)==b.size)=false:=by rw[Ve];omega);(have af:¬(q:Int)=a.size:=by omega);clear f m x y t u C K M N;by_cases g:a[q]=b[c]
     .rw[UH g]at HS;(have aa:((a[q].toNat:Int)!=(b[c].toNat:Int))=false:=by rw[g];simp);clear g;go_wp2;go_quiet (fail);go_wp2
      (go_region);go_wp2;refine⟨⟨c,_,by omega,rfl,by go_num,?_⟩,by simp[intOf]⟩;refine(Vj (λv=>vO w ((wr.drewN _).setCell ⟨U,c,none⟩ (Value.int .i64 v)) A B q c) ?_).mp (HS.o.drewN (nq+1));split<;>split<;>omega
     rw[UG g]at HS;(have aa:((a[q].toNat:Int)!=(b[c].toNat:Int))=true:=by rw[WO];intro h;exact g (XG.1 (by omega)));clear g;go_wp2;go_quiet (fail);go_wp2
     (go_region);go_wp2;refine⟨⟨c,_,by omega,rfl,by go_num,?_⟩,by simp[intOf]⟩;refine(Vj (λv=>vO w ((wr.drewN _).setCell ⟨U,c,none⟩ (Value.int .i64 v)) A B q c) ?_).mp (HS.o.drewN (nq+1));split<;>split<;>omega
    (have ab:c=b.size:=by omega);(have y:aU (A.drop q) (B.drop c)=a.size-q:=by rw[Vn (by have:=d.o.2;omega:B.length<=c),il,UY,d.o.1]);rw[y,show((a.size-q:Nat):Int)=(a.size:Int)-q by omega]at HS;subst ab;clear f m y t u;go_wp2;refine⟨⟨b.size,_,by omega,rfl,by go_num,HS.o⟩,by simp[intOf]⟩
   (have ad:q=a.size:=by omega);(have y:aU (A.drop q) (B.drop c)=b.size-c:=by rw[Vn (by have:=d.o.1;omega:A.length<=q),ft,UY,d.o.2]);rw[y,show((b.size-c:Nat):Int)=(b.size:Int)-c by omega]at HS;subst ad;clear f m y t u;go_wp2;refine⟨⟨c,_,by omega,rfl,by go_num,HS.o⟩,by simp[intOf]⟩
def GO(a b:Zk)(w:x6)(h:a.size<=1000)(j:b.size<=1000):ac fs 140 #[.string a,.string b] w (.i (aU a.data.toList b.data.toList)):=by have e88:=e88 L;have d:=D2 L a b w h j;go_enter (n140 L),Tryz.ntmps140;go_wp2_with (go_at_call 88;refine d.mono ?_;clear d;rintro e w2 ⟨rfl,c⟩;have f:=c.outer.cell (i:=0) (by omega);have g:=(c.rows 0 (UI _) (UP _)).cell (i:=0) (by omega);simp only[oJ,zh,UW,UI,Vy,Nat.sub_zero]at f g;rw[<-Lib.size_eq,<-Lib.size_eq]at f;rw[<-Lib.size_eq]at g;have k:=jj c.below;clear c);go_ret;exact⟨rfl,k.o⟩
def Aa(a b:Zk):dQ a.data.toList b.data.toList=if a.size=0\/b.size=0 then 0 else(100*((max a.size b.size:Nat)-(aU a.data.toList b.data.toList:Int)))/(max a.size b.size:Nat):=by unfold dQ;rw[<-Lib.size_eq,<-Lib.size_eq,fW,fW];by_cases c:a.size=0<;>by_cases d:b.size=0<;>simp[c,d]
def xh:∀(n) (a b),a.length+b.length<=n->aU a b<=max a.length b.length:=by intro n;induction n with|zero=>intro a b h;have c:a=[]:=Vx (by omega);have d:b=[]:=Vx (by omega);subst c;subst d;rw[ft];simp|succ n e=>intro a b h;cases a with|nil=>rw[ft];omega|cons x a=>cases b with|nil=>rw[il];omega|cons y b=>simp only[UM]at h⊢;have:=e a b (by omega);rw[mV];split<;>omega
def tS(a b:Zk)(w:x6)(m:a.size<=1000)(n:b.size<=1000):ac fs 115 #[.string a,.string b] w (.i (dQ a.data.toList b.data.toList)):=by
 have SQ:=SQ L;have j:=λo=>GO L a b o m n;have g:Hid _:=Aa a b;have h:=xh _ a.data.toList b.data.toList (UI _);rw[<-Lib.size_eq,<-Lib.size_eq]at h;obtain⟨d,l⟩:=ex (aU a.data.toList b.data.toList);rw[<-l]at j g h;clear l;obtain k|hpa:=Vr a.size
 .have f:=g.o;rw[UH (.inl k)]at f;have c:=jj f;clear f g;go_enter (n115 L),Tryz.ntmps115;go_wp2_with fail;go_ret;exact⟨by rw[c.o];rfl,Below.refl _ _⟩
 obtain k|hpb:=Vr b.size
 .have f:=g.o;rw[UH (.inr k)]at f;have c:=jj f;have p:((a.size:Int)==0)=false:=by rw[Ve];omega
  clear f g;go_enter (n115 L),Tryz.ntmps115;go_wp2_with fail;all_goals
   go_ret;exact⟨by rw[c.o];rfl,Below.refl _ _⟩
 have f:=g.o;rw[UG (by omega)]at f;have c:=jj f;have p:((a.size:Int)==0)=false:=by rw[Ve];omega
 have q:((b.size:Int)==0)=false:=by rw[Ve];omega
 clear f g;go_enter (n115 L),Tryz.ntmps115;go_wp2_with (go_at_call 140;refine(j _).mono ?_;clear j;rintro e w2 ⟨rfl,i⟩);go_ret;exact⟨by rw[c.o,show max a.size b.size=b.size by omega];rfl,i⟩;go_ret;exact⟨by rw[c.o,show max a.size b.size=a.size by omega];rfl,i⟩
end Go.Proofs
namespace Go.Proofs
open Go.Tm Go.RowKit
structure al(w0 w1:x6) where
 val:x6
 st:ae w1 val
 be:xv w0 val
def wN(w0 w1 w':x6):Prop:=∃x:al w0 w1,w'=x.val
def wN.st{w0 w1 w'}(h:wN w0 w1 w'):ae w1 w':=by obtain⟨x,rfl⟩:=h;exact x.st
def wN.be{w0 w1 w'}(h:wN w0 w1 w'):xv w0 w':=by obtain⟨x,rfl⟩:=h;exact x.be
def al.cell{w0 w1 b o v}(h:w1.cell? ⟨b,o,none⟩=some v)(x:al w0 w1):x.val.cell? ⟨b,o,none⟩=some v:=x.st.cell h
def al.calls{P f args w0 w1}{x:al w0 w1}{v}(h:Calls P f args x.val λe w'=>e=.returned v/\Below x.val.heap.size x.val w'):Calls P f args x.val λe a=>e=.returned v/\∃y:al w0 w1,a=y.val:=
 h.mono λe w' ⟨c,b⟩=>⟨c,⟨w',x.st.trans (ae.below b),x.be.trans (b.mono x.be.size)⟩,rfl⟩
def al.same{P f args w0 w1}{x:al w0 w1}{v}(h:Calls P f args x.val λe w'=>e=.returned v/\w'=x.val):Calls P f args x.val λe a=>e=.returned v/\∃y:al w0 w1,a=y.val:=
 h.mono λe w' ⟨b,c⟩=>⟨b,x,c⟩
def aQ{P b Q a w w0 w1 l}(c:P.follows .mixedOrders=true)(d:Region.lexB .any l.toArray=true)(e:ae w1 w)(f:xv w0 w) (h:wpQuiet P l.toArray (λw'=>∃x:al w0 w1,w'=x.val) (λg=>∀w',(∃x:al w0 w1,w'=x.val)->Q .normal g w') l a):(Code.region b l.toArray true).wp P Q a w:=
 wp_region_quiet (C:=λw'=>∃x:al w0 w1,w'=x.val) c d ⟨⟨w.drew,e,f.drew⟩,rfl⟩ (by simpa using h)
section
variable {P:Program} {md:Region.Mode} {ops:Array Oper} {C:x6->Prop}
def oL(P:Program)(md:Region.Mode)(ops:Array Oper)(C:x6->Prop)(n:Nat)(L:Array Bool->Act->Prop):Nat->Array Bool->Act->Prop
 |0,s,a=>L s a
 |f+1,s,a=>Region.ready md ops s≠[]/\∀i∈Region.ready md ops s,i<n/\qOp P ops C i (oL P md ops C n L f (s.setIfInBounds i true)) a
def oL.any{n g L Q}(d:∀s a w,C w->L s a->wpAny P md ops Q g s a w):∀(f) (s) (a) (w),C w->oL P md ops C n L f s a->wpAny P md ops Q (f+g) s a w:=by intro f;induction f with|zero=>intro s a w b h;rw[UR];exact d s a w b h|succ f e=>(intro s a w b h;have j:f+1+g=(f+g)+1:=by omega);rw[j];exact⟨λk=>absurd k h.1,λi l=>wpOp_of_qOp b (λm w' c o=>e _ m w' c o) (h.2 i l).2⟩
def oL.first{n i o v L}(B:ops[i]? =some o)(m:∀(j:Nat) (o) cs b,ops[j]? =some o->o.op≠ .select cs b) (I:Region.sinkB md ops n=true) (J:Region.chainB md ops n=true) (K:n<ops.size) (x:i<n) (q:∀s a,L s a->∀j∈Region.ready md ops s,n<=j):∀(f) (s) (a),HeadInv md ops n s->(∀j r,ops[j]? =some r->j≠i->s.getD j true=false->(∀e∈r.after,Region.binds md e=true->e.on≠i)->o.apart ops r=true)->i∈Region.ready md ops s->YieldsIn P ops C o v a->oL P md ops C n L f (s.setIfInBounds i true) (a.put o.dst v)->oL P md ops C n L (f+1) s a:=by intro f;induction f with|zero=>intro s a g d t A H;refine⟨Yd t,λj u=>?_⟩;have l:j<n:=XK λh=>tail_waits I J K g _ i rfl x (mem_ready.1 t).1 j (by omega) u;refine⟨l,?_⟩;by_cases c:j=i;rw[c];exact A.qOp B H;have:=q _ _ H j (ready_mono u c);omega|succ f O=>intro s a g d t A H;refine⟨Yd t,λj u=>?_⟩;have l:j<n:=XK λh=>tail_waits I J K g _ i rfl x (mem_ready.1 t).1 j (by omega) u;refine⟨l,?_⟩;by_cases c:j=i;rw[c];exact A.qOp B H;obtain⟨p,r,w,y⟩:=mem_ready.1 u;(have D:∀e∈r.after,Region.binds md e=true->e.on≠i:=λe Q R E=>by have M:=y e Q R;rw[E,getD_both (mem_ready.1 t).1]at M;cases M);have S:=qOp_put w (d j r w c p D) (λcs b=>m i o cs b B) (λcs b=>m j r cs b w) A (H.2 j (ready_mono u c)).2;refine qOp_mono (λT N=>O _ T (g.set u l) ?_ (ready_mono t (U4 c)) N.1 ?_) S;intro k U V F G;refine d k U V F ?_;by_cases z:j=k;rw[<-z];exact p;rwa[getD_set_ne true z]at G;rw[Array.setIfInBounds_comm _ _ c];exact N.2
def oL.lex{n g f}(d:Region.noSelect ops=true)(r:Region.sinkB md ops n=true)(t:Region.chainB md ops n=true)(u:n<ops.size):∀(l) (k) (s) (a),(∀j,j<l.length->l[j]? =ops[k+j]?)->k+l.length=n->HeadInv md ops n s->Region.lexHead md ops g l.length k s=true->wpQuiet P ops C f l a->oL P md ops C n (λs' p=>Region.seqB md ops g n s'=true/\f p) l.length s a:=by
 intro l;induction l with
 |nil=>(intro k s a i m b c h;obtain rfl:k=n:=by simpa using m);exact⟨c,h⟩
 |cons o l w=>(intro k s a i m b c h;have e:ops[k]? =some o:=(i 0 (WY _)).symm;rw[UM]at m;rw[UM,Region.lexHead,UT,UT]at c;have q:k∈Region.ready md ops s:=by simpa using c.1.1);(have x:qOp P ops C k (wpQuiet P ops C f l) a:=by unfold qOp;rw[e];exact h);obtain⟨v,y,z⟩:=yieldsIn_of_qOp e x;refine oL.first e (Region.noSelect_spec d) r t u (by omega) (λs' p A=>seqB_ready A.1) l.length s a b (Region.free_spec e c.1.2) q y ?_;refine w (k+1) _ _ (λj B=>?_) (by omega) (b.set q (by omega)) c.2 z;have:=i (j+1) (by rw[UM];omega);rw[show k+(j+1)=k+1+j by omega]at this;exact this
end
def bd{P u Q a w w0 w1}{l:List Oper}(n)(v:P.follows .mixedOrders=true)(i:Region.lexTailB .any l.toArray n=true) (y:ae w1 w) (z:xv w0 w) (h:wpQuiet P l.toArray (λw'=>∃x:al w0 w1,w'=x.val) (λk=>∀w',(∃x:al w0 w1,w'=x.val)->wpList P l.toArray Q (l.drop n) k w') (l.take n) a):(Code.region u l.toArray true).wp P Q a w:=by
 rw[Region.lexTailB]at i;simp only[UT,U3]at i;obtain⟨⟨⟨⟨c,o⟩,A⟩,B⟩,d⟩:=i;have D:n<l.length:=by simpa using o
 have b:(l.take n).length=n:=by rw[VT];omega
 have e:(l.drop n).length=l.toArray.size-n:=by simp
 have f:HeadInv .any l.toArray n (Array.replicate l.toArray.size false):=⟨by simp,λj G _ p=>(by rw[getD_replicate_false]at p;cases p),λt _ E=>getD_in (by simpa using E) (getD_replicate_false _ _)⟩
 refine wp_region_any v ?_;have H:=oL.lex (md:=.any) (g:=l.toArray.size-n) (C:=λw'=>∃x:al w0 w1,w'=x.val) c A B o (l.take n) 0 _ a (λj q=>by
  have m:j<n:=by rw[b]at q;exact q
  simp[m]) (by rw[b];omega) f (by rw[b];exact d) h
 have R:=oL.any (Q:=Q) (g:=l.toArray.size-n) (λs k w' F r=>by have:=wpAny_of_seq (md:=.any) (Q':=Q) (l.drop n) n s k w' (λj=>by simp[XL]) (by rw[e];exact r.1) (r.2 w' F);rwa[e]at this) _ _ _ _ ⟨⟨w.drew,y,z.drew⟩,rfl⟩ H;rw[b,show n+(l.toArray.size-n)=l.toArray.size by omega]at R;exact R
inductive Src(w:x6)(size:Nat):Option Addr->Nat->List Zj->Prop
 |nil:Src w size none 0 []
 |some (ad:Addr) (m:Nat) (news:List Zj) (hl:news.length=m*size) (hc:∀j u,news[j]? =some u->w.cell? (ad.add j)=some u):Src w size (some ad) m news
section
variable {P:Program} (w:x6) (base:Nat) (t ty e:TypeId) (i:TypeInfo) (z:Zj) (size bytes:Nat) (ht:P.underlying t=some (.slice e)) (hi:P.info? e=some i) (hz:i.zero=some z) (hsize:i.size=size) (hby:i.bytes=bytes) (hzs:z.cells.size=size) (hsz:0<size) (v:Zj) (n:Nat) (xs:List Zj) (hown:w.ownsRow base e size v n xs) (A:Option Addr) (m c:Nat) (news:List Zj) (hs:Src w size A m news) (h1:∀u∈news,u.oneCell'=true) (h63:n+m<=maxLen) (hbytes:(n+m)*bytes<=140737488355328) (hbase:base<=w.heap.size)
include ht hi hz hsize hby hzs hsz hown hs h1 h63 hbytes hbase
def xA:∃b w',(Builtin.append_ #[t,t] ty #[v,.slice A m c]).run P w=.ok b w'/\w'.ownsRow base e size b (n+m) (xs++news)/\w.grownBy w' v.ownBlock/\(b.ownBlock=v.ownBlock\/b.ownBlock=some w.heap.size):=by cases hs with|some ad m news f j=>obtain⟨b,w',h,k,l,_,p⟩:=run_append_own_at (P:=P) w base t ty e i z size bytes ht hi hz hsize hby hzs hsz v n xs hown ad m c news f j h1 h63 hbytes hbase;exact⟨b,w',h,k,l,p⟩|nil=>refine⟨v,w,?_,by rw[VK,V7];exact hown,World.grownBy.refl w _,.inl rfl⟩;obtain⟨rfl,_⟩|⟨g,cap,q,rfl,_,_,d,_⟩:=hown.2;simp[Builtin.append_,run_underlying ht,sizeOf,typeInfo,hi,Builtin.lenOf,Builtin.firstCells];simp[Builtin.append_,run_underlying ht,sizeOf,typeInfo,hi,Builtin.lenOf,Builtin.firstCells,d,storeCells]
end
section
variable {P:Program} {w:x6} {o:Oper} {a:Act} {K:Act->x6->Prop} {Q:Exit->Act->x6->Prop} (s x:Operand) (t:TypeId) (ho:o.op=.call {callee:=.builtin .append,args:=#[s,x],argTypes:=#[t,t]}) (base:Nat) (e:TypeId) (i:TypeInfo) (z:Zj) (size bytes:Nat) (ht:P.underlying t=some (.slice e)) (hi:P.info? e=some i) (hz:i.zero=some z) (hsize:i.size=size) (hby:i.bytes=bytes) (hzs:z.cells.size=size) (hsz:0<size) (v:Zj) (n:Nat) (xs:List Zj) (hsv:a.eval s=v) (hown:w.ownsRow base e size v n xs) (A:Option Addr) (m c:Nat) (news:List Zj) (hxv:a.eval x=.slice A m c) (hs:Src w size A m news) (h1:∀u∈news,u.oneCell'=true) (h63:n+m<=maxLen) (hbytes:(n+m)*bytes<=140737488355328) (hbase:base<=w.heap.size)
include ho ht hi hz hsize hby hzs hsz hown hs h1 h63 hbytes hbase hsv hxv
def qz(h:∀b w',w'.ownsRow base e size b (n+m) (xs++news)->w.grownBy w' v.ownBlock->(b.ownBlock=v.ownBlock\/b.ownBlock=some w.heap.size)->K (a.put o.dst b) w'):o.wp P a w K Q:=by obtain⟨b,w',d,f,g,j⟩:=xA (P:=P) w base t o.type e i z size bytes ht hi hz hsize hby hzs hsz v n xs hown A m c news hs h1 h63 hbytes hbase;unfold Oper.wp execOp;simp only[ho,resolve,invoke,builtin,Sem.run_bind,Sem.run_pure,Result.andThen_ok,List.map_toArray,Yl,List.map_nil,hsv,hxv,d];exact h b w' f g j
def bW{ops:Array Oper}{rest:List Oper}(d:o.guard=none)(h:∀b w',w'.ownsRow base e size b (n+m) (xs++news)->w.grownBy w' v.ownBlock->(b.ownBlock=v.ownBlock\/b.ownBlock=some w.heap.size)->wpList P ops Q rest (a.put o.dst b) w'):wpList P ops Q (o::rest) a w:=wpList_plain d λ_ f=>qz s x t ho base e i z size bytes ht hi hz hsize hby hzs hsz v n xs hsv hown A m c news hxv hs h1 h63 hbytes hbase λb w' g j k=>f _ _ (h b w' g j k)
def bN{ops E}(d:o.guard=none)(h:∀b w',w'.ownsRow base e size b (n+m) (xs++news)->w.grownBy w' v.ownBlock->(b.ownBlock=v.ownBlock\/b.ownBlock=some w.heap.size)->K (a.put o.dst b) w'):if Region.wanted o (yielded ops a.tmps)=true then Oper.wp P o a w K Q else E:=by rw[UH (by simp[Region.wanted,d])];exact qz s x t ho base e i z size bytes ht hi hz hsize hby hzs hsz v n xs hsv hown A m c news hxv hs h1 h63 hbytes hbase h
end
end Go.Proofs
namespace Go.Proofs
open Go.Tm Go.RowKit
variable {fs:Array Func} (L:bR fs)
def bM(K:Nat->Prop)(w:x6)(mc:Zq)(m:Mark):Prop:=∃a,mc=#[.string m.name,.string m.word,a,.i m.day,.bool m.known]/\az K 1 cT w a m.aP
structure OkM(m:Mark):Prop where
 word:m.word.size<=16
 fig:m.aP.length<=5
 code:∀x∈m.aP,0<=x/\x<=999
 day:0<=m.day/\m.day<=99999
def az.ints{K w w'}(a:ae w w'){v l}(h:az K 1 cT w v l):az K 1 cT w' v l:=h.stays a λb c o x e h=>by subst e;exact cT.carry (Carry.keep a) b b o x rfl h
def Ab(t one two):bz t 0 one two=dQ (aT t.av one.word.data.toList) (aT t.av two.word.data.toList):=rfl
def fA(t:Table)(one two:Bs)(k:Nat):Int:=(List.range k).foldl (λa k=>max a (dQ (bL t k one) (bL t k two))) 0
def kY(t one two k):fA t one two (k+1)=max (fA t one two k) (dQ (bL t k one) (bL t k two)):=by unfold fA;rw[Xq,XJ];rfl
def Ac(t one two):bz t 1 one two=fA t one.word.data.toList two.word.data.toList t.aF.length:=rfl
def Ad(t one two):bz t 2 one two=gU t (aT t.av one.word.data.toList) (aT t.av two.word.data.toList):=rfl
def Ae(t one two):bz t 3 one two=dQ (aT t.av one.word.data.toList) (aT t.av two.word.data.toList).reverse:=rfl
def Af(t one two):bz t 4 one two=qj (aT t.av one.word.data.toList) (aT t.av two.word.data.toList):=rfl
def Ag(t k one two)(h:k≠0/\k≠1/\k≠2/\k≠3/\k≠4):bz t k one two=bY one.aP two.aP:=by unfold bz;simp only[UG h.1,UG h.2.1,UG h.2.2.1,UG h.2.2.2.1,UG h.2.2.2.2]
def Ah{K:Nat->Prop}{v0 v1 v2:Zj}{t:Table}{m1 m2:Zq}{one two:Mark}(kd:Int)(w:x6)(ht:IsTable K w v0 v1 v2 t)(u:OkT t)(h1:bM K w m1 one)(h2:bM K w m2 two)(o1:OkM one)(o2:OkM two):Calls (Qs fs) 70 #[.agg #[v0,v1,v2],.i kd,.agg m1,.agg m2] w λe w'=>e=.returned (.i (bz t kd one two))/\xv w w':=by
 have e54:=e54 L;have e65:=e65 L;have SF:=SF L;have SG:=SG L;have SH:=SH L;have Pv:=Pv L;have SI:=SI L;obtain⟨f1,rfl,r1⟩:=h1;obtain⟨f2,rfl,r2⟩:=h2;obtain⟨N,f⟩:=ex (w.alloc (.cells #[v0,v1,v2] 26));obtain⟨wb,g⟩:=ex (N.alloc (.cells #[.string one.name,.string one.word,f1,.i one.day,.bool one.known] 38));obtain⟨w1,j⟩:=ex (wb.alloc (.cells #[.string two.name,.string two.word,f2,.i two.day,.bool two.known] 38));have Sa:ae N w1:=by rw[j,g];exact(ae.alloc _ _).trans (ae.alloc _ _)
 have Sb:ae wb w1:=by rw[j];exact ae.alloc _ _
 have S1:ae w w1:=(by rw[f];exact ae.alloc _ _:ae w N).trans Sa;have B1:xv w w1:=by rw[j,g,f];exact(((Below.refl _ w).alloc (UI _) _).alloc (by simp) _).alloc (by simp;omega) _
 have z:N.heap.size=w.heap.size+1:=by rw[f];simp
 have hsb:wb.heap.size=w.heap.size+1+1:=by rw[g,<-z];simp
 have ct:∀i v,(#[v0,v1,v2]:Zq)[i]? =some v->w1.cell? ⟨w.heap.size,i,none⟩=some v:=λi v h=>Sa.cell (by rw[f];exact aC w _ 26 i v h);have c1:∀i v,(#[.string one.name,.string one.word,f1,.i one.day,.bool one.known]:Zq)[i]? =some v->w1.cell? ⟨w.heap.size+1,i,none⟩=some v:=λi v h=>Sb.cell (by rw[g,<-z];exact aC N _ 38 i v h);have c2:∀i v,(#[.string two.name,.string two.word,f2,.i two.day,.bool two.known]:Zq)[i]? =some v->w1.cell? ⟨w.heap.size+1+1,i,none⟩=some v:=λi v h=>by rw[j,<-hsb];exact aC wb _ 38 i v h
 have t0:=ct 0 _ rfl;have t1:=ct 1 _ rfl;have t2:=ct 2 _ rfl;have a1:=c1 1 _ rfl;have a2:=c1 2 _ rfl;have b1:=c2 1 _ rfl;have b2:=c2 2 _ rfl;have hT:=ht.stays S1;have O:=r1.ints S1;have P:=r2.ints S1;go_enter (n70 L),Tryz.ntmps70;go_upto_region 1 with fail;rw[<-f,<-g,<-j];obtain⟨N0,h0⟩:=ex (w.heap.size);obtain⟨N1,h1⟩:=ex (w.heap.size+1);obtain⟨N2,h2⟩:=ex (w.heap.size+1+1);rw[<-h2]at b1 b2⊢;rw[<-h1]at a1 a2⊢;rw[<-h0]at t0 t1 t2⊢;have BW:Hid (xv w w1):=B1;clear f g j Sa Sb S1 B1 z hsb ct c1 c2 ht r1 r2 h0 h1 h2;have HT:=jj hT;have Q:=db u one.word.data.toList;have R:=db u two.word.data.toList;rw[<-Lib.size_eq,<-da]at Q R;obtain⟨z1,z2,z3,z4⟩:=o1;obtain⟨y1,y2,y3,y4⟩:=o2;have cB:∀(s:Zk),s.size<=16->∀x:al w w1,Calls (Qs fs) 54 #[.agg #[v0,v1,v2],.string s] x.val λe w'=>e=.returned (.string (bs (aT t.av s.data.toList)))/\∃y:al w w1,w'=y.val:=λs hs x=>al.calls (DY L s x.val (hT.stays x.st) u (by omega));have J:=cB one.word z1;have M:=cB two.word y1;have C:=λx:al w w1=>x.cell t0;have D:=λx:al w w1=>x.cell t1;have E:=λx:al w w1=>x.cell t2;have F:=λx:al w w1=>x.cell a1;have aM:=λx:al w w1=>x.cell a2;have G:=λx:al w w1=>x.cell b1;have aR:=λx:al w w1=>x.cell b2;refine aQ (w0:=w) (w1:=w1) (by kernel_rfl) (by kernel_rfl) (ae.refl _) BW.o ?_;haveI H:Nonempty (al w w1):=⟨⟨w1,ae.refl _,BW.o⟩⟩
 repeat (go_big_quiet_step (first|(go_at_call 54;exact J _)|(go_at_call 54;exact M _)))
 refine wpQuiet_nil ?_;rintro l ⟨⟨_,p,Bx⟩,rfl⟩;have r:=hT.stays p;have S:=O.ints p;have T:=P.ints p;have U:=p.cell t0;have V:=p.cell t1;have W:=p.cell t2;have X:=p.cell a1;have a7:=p.cell a2;have Y:=p.cell b1;have a8:=p.cell b2;clear J M cB C D E F aM G aR hT O P t0 t1 t2 a1 a2 b1 b2 HT H;obtain⟨A,hA⟩:=ex (bs (aT t.av one.word.data.toList));obtain⟨B,hB⟩:=ex (bs (aT t.av two.word.data.toList));have Z:A.data.toList=aT t.av one.word.data.toList:=by rw[hA,dz]
 have aa:B.data.toList=aT t.av two.word.data.toList:=by rw[hB,dz]
 rw[<-hA]at Q⊢;rw[<-hB]at R⊢;have b:Hid _:=(⟨Z,aa⟩:A.data.toList=aT t.av one.word.data.toList/\B.data.toList=aT t.av two.word.data.toList)
 clear hA hB Z aa;have q:=jj Bx;by_cases k0:kd=0
 .subst k0;have c:=tS L A B l (by omega) (by omega);go_wp2_with (go_at_call 115;refine c.mono ?_;clear c;rintro e w2 ⟨rfl,d⟩);go_ret;exact⟨by rw[Ab,<-b.o.1,<-b.o.2];rfl,q.o.trans (d.mono q.o.size)⟩
 have j0:(kd==0)=false:=by rw[Ve];exact k0
 by_cases k2:kd=2
 .subst k2;have c:=PH L A B l r u.Rc;go_wp2_with (go_at_call 116;refine c.mono ?_;clear c;rintro e w2 ⟨rfl,d⟩);go_ret;exact⟨by rw[Ad,<-b.o.1,<-b.o.2];rfl,q.o.trans (d.mono q.o.size)⟩
 have j2:(kd==2)=false:=by rw[Ve];exact k2
 by_cases k3:kd=3
 .subst k3;have c:=MD L B l (by omega);have c':=λwy=>tS L A (bs B.data.toList.reverse) wy (by omega) (by rw[da,XI,<-Lib.size_eq];omega);go_wp2_with (first|(go_at_call 117;refine c.mono ?_;clear c;rintro e w2 ⟨rfl,rfl⟩)|(go_at_call 115;refine(c' _).mono ?_;clear c';rintro e w2 ⟨rfl,d⟩));go_ret;exact⟨by rw[Ae,<-b.o.1,<-b.o.2,dz];rfl,q.o.trans (d.mono q.o.size)⟩
 have j3:(kd==3)=false:=by rw[Ve];exact k3
 by_cases k4:kd=4
 .subst k4;have c:=Tq L A B l (by omega) (by omega);go_wp2_with (go_at_call 118;refine c.mono ?_;clear c;rintro e w2 ⟨rfl,rfl⟩);go_ret;exact⟨by rw[Af,<-b.o.1,<-b.o.2];rfl,q.o⟩
 have j4:(kd==4)=false:=by rw[Ve];exact k4
 by_cases k1:kd=1
 .subst k1;have HR:Hid ((l.cell? ⟨N0,0,none⟩=some v0/\l.cell? ⟨N0,2,none⟩=some v2)/\l.cell? ⟨N1,1,none⟩=some (.string one.word)/\l.cell? ⟨N2,1,none⟩=some (.string two.word)):=⟨⟨U,W⟩,X,Y⟩
  clear X Y;have n1:∀k,k<t.aF.length->∀s,(bL t k s).length<=3*s.length:=λk hk s=>mr u hk s;have ln:t.aF.length<=3:=u.xd;obtain⟨ao,c,rfl,ba,hc,a6,m⟩:=r.2.1;have HC:=jj m;clear m a6;have HT:=jj r;clear r S T W U;go_wp2;go_loopw [11,12] (λo i wr=>∃k:Nat,k<=t.aF.length/\i=.i k/\o=.i (fA t one.word.data.toList two.word.data.toList k)/\ae l wr/\xv w wr) (λo i _=>t.aF.length-(intOf i).toNat);case atStart=>exact⟨0,UP _,rfl,rfl,ae.refl _,q.o⟩
  case round=>
   (obtain⟨k,hk,rfl,rfl,a,n⟩:=hrel;have ab:=a.cell V;have HW:Hid _:=(⟨a,n⟩:ae l wr/\xv w wr));obtain I|hge:=UK k t.aF.length
   .have ad:=IsTable.stays a HT.o;have af:=a.cell HR.o.1.1;have ag:=a.cell HR.o.1.2;have ak:=a.cell HR.o.2.1;have an:=a.cell HR.o.2.2;clear a n V;have x1:=n1 k I one.word.data.toList;have x2:=n1 k I two.word.data.toList;rw[<-Lib.size_eq,<-da]at x1 x2;have cS:∀(s:Zk),s.size<=16->∀x:al w wr,Calls (Qs fs) 65 #[.agg #[v0,.slice ao t.aF.length c,v2],.i k,.string s] x.val λe w'=>e=.returned (.string (bs (bL t k s.data.toList)))/\∃y:al w wr,w'=y.val:=λs hs x=>al.calls (J9 L k s x.val (ad.stays x.st) u (by omega) I);(have J:=cS one.word z1;have M:=cS two.word y1;have q3:∀x:al w wr,Calls (Qs fs) 115 #[.string (bs (bL t k one.word.data.toList)),.string (bs (bL t k two.word.data.toList))] x.val λe w'=>e=.returned (.i (dQ (bL t k one.word.data.toList) (bL t k two.word.data.toList)))/\∃y:al w wr,w'=y.val:=λx=>by have h:=al.calls (x:=x) (tS L (bs (bL t k one.word.data.toList)) (bs (bL t k two.word.data.toList)) x.val (by omega) (by omega));rw[dz,dz]at h;exact h);(obtain⟨sA,ar⟩:=ex (bs (bL t k one.word.data.toList));obtain⟨sB,ax⟩:=ex (bs (bL t k two.word.data.toList));obtain⟨lv,ay⟩:=ex (dQ (bL t k one.word.data.toList) (bL t k two.word.data.toList));have aK:Hid _:=kY t one.word.data.toList two.word.data.toList k;rw[<-ar]at J q3;rw[<-ax]at M q3;rw[<-ay]at q3 aK;have C:=λx:al w wr=>x.cell af;have D:=λx:al w wr=>x.cell ab;have E:=λx:al w wr=>x.cell ag;have F:=λx:al w wr=>x.cell ak;have G:=λx:al w wr=>x.cell an;clear cS ar ax ay x1 x2 n1 ad;go_wp2;clear af ab ag ak an;refine aQ (w0:=w) (w1:=wr) (by kernel_rfl) (by kernel_rfl) (ae.refl _) HW.o.2 ?_;haveI H:Nonempty (al w wr):=⟨⟨wr,ae.refl _,HW.o.2⟩⟩);(repeat (go_big_quiet_step (first|(go_at_call 65;exact J _)|(go_at_call 65;exact M _)|(go_at_call 115;exact q3 _))));(refine wpQuiet_nil ?_;rintro wz ⟨⟨_,Sz,Bz⟩,rfl⟩;have SB:Hid _:=(⟨Sz,Bz⟩:ae wr wz/\xv w wz));clear J M q3 C D E F G H Sz Bz;go_wp2;refine⟨⟨k+1,by omega,by go_num,by rw[aK.o];go_num,HW.o.1.trans SB.o.1,SB.o.2⟩,by simp[intOf];omega⟩
   clear a n;(go_wp2;obtain rfl:k=t.aF.length:=by omega);go_ret;exact⟨by rw[Ac];rfl,HW.o.2⟩
 have j1:(kd==1)=false:=by rw[Ve];exact k1
 have c:=Kb L l S T (by omega) (by omega) z3 y3;go_wp2_with (go_at_call 119;refine c.mono ?_;clear c;rintro e w2 ⟨rfl,d⟩);go_ret;exact⟨by rw[Ag _ _ _ _ ⟨k0,k1,k2,k3,k4⟩];rfl,q.o.trans (d.mono q.o.size)⟩
structure OkC(c:Case):Prop where
 table:OkT c.table
 new:OkM c.new
 marks:∀m∈c.marks,OkM m
 mv:c.marks.length<=8
 B8:c.rules.length<=6
 PK:c.kin.length=c.marks.length
 rules:∀r∈c.rules,0<=r.kind/\r.kind<=5/\1<=r.least/\r.least<=100/\0<=r.plain/\r.plain<=9/\0<=r.known/\r.known<=9
 kin:∀n∈c.kin,0<=n/\n<=9
def D3(x:BP):Zj:=.agg #[.i x.days,.i x.level,.i x.kin]
def Js{w w1}(a:xv w w1)(x y)(p q:Nat):(∀i v,x[i]? =some v->(((w1.alloc (.cells x p)).alloc (.cells y q)).drew).cell? ⟨w1.heap.size,i,none⟩=some v)/\(∀i v,y[i]? =some v->(((w1.alloc (.cells x p)).alloc (.cells y q)).drew).cell? ⟨w1.heap.size+1,i,none⟩=some v)/\ae w1 (((w1.alloc (.cells x p)).alloc (.cells y q)).drew)/\xv w (((w1.alloc (.cells x p)).alloc (.cells y q)).drew):=by (have b:(w1.alloc (.cells x p)).heap.size=w1.heap.size+1:=by simp);refine⟨λi v h=>(ae.alloc _ (.cells y q)).cell (aC w1 x p i v h),λi v h=>?_,(ae.alloc w1 (.cells x p)).trans (ae.alloc _ (.cells y q)),((a.alloc a.size _).alloc (by have:=a.size;omega) _).drew⟩;have:=aC (w1.alloc (.cells x p)) y q i v h;rw[b]at this;exact this
def cell_of_heap{w:x6}{b c e f}(h:w.heap[b]? =some (.cells c e f))(i v)(a:c[i]? =some v):w.cell? ⟨b,i,none⟩=some v:=by unfold World.cell?;simp only[h];exact a
def frozen_of_heap{w:x6}{b c e}(h:w.heap[b]? =some (.cells c e))(i):w.frozen? ⟨b,i,none⟩=false:=by unfold World.frozen?;simp only[h];simp
def rj{a n M:Int}(b:0<n)(c:0<=a)(d:a<=M*n):0<=a/n/\a/n<=M:=⟨Int.ediv_nonneg c (by omega),by have:=Int.ediv_le_ediv b d;rwa[Int.mul_ediv_cancel _ (by omega)]at this⟩
def kA(a b):0<=dQ a b/\dQ a b<=100:=by unfold dQ;split;exact⟨by decide,by decide⟩;rename_i h;(have c:=xh _ a b (UI _);have d:0<max a.length b.length:=by cases a with|nil=>simp at h|cons x a=>simp only[UM];omega);refine rj (by omega) (by omega) (by omega)
theorem iF(t a b):∀k,0<=fA t a b k/\fA t a b k<=100
 |0=>⟨WQ _,(by decide:(0:Int)<=100)⟩
 |k+1=>by have c:=iF t a b k;have d:=kA (bL t k a) (bL t k b);rw[kY];omega
def GP(a b):0<=qj a b/\qj a b<=100:=by (unfold qj;have key:∀x y:Bs,0<=(if x.length<3|| !x.isPrefixOf y&& !x.isSuffixOf y then 0 else(100*x.length:Int)/(y.length:Int))/\(if x.length<3|| !x.isPrefixOf y&& !x.isSuffixOf y then 0 else(100*x.length:Int)/(y.length:Int))<=100:=by intro x y;split;exact⟨by decide,by decide⟩;rename_i h;(simp only[Wl,U3,UT,Bool.not_eq_true',not_or,not_and,Bool.not_eq_false]at h;obtain⟨e,d⟩:=h;have f:x.length<=y.length:=by by_cases c:x.isPrefixOf y=true;exact(Wb.1 c).length_le;exact(List.isSuffixOf_iff_suffix.1 (d (XH.2 c))).length_le);exact rj (by omega) (by omega) (by omega));exact key _ _
def Kd{l:List Nat}{M}(h:∀x∈l,x<=M):l.sum<=M*l.length:=by induction l with|nil=>simp|cons x l a=>have c:=h x (Ye ..);have d:=a λy b=>h y (XM _ b);simp only[List.sum_cons,UM,Nat.mul_add];omega
def xi(a b)(c:a.length<=5)(f:b.length<=5):0<=bY a b/\bY a b<=100000:=by unfold bY;split;exact⟨by decide,by decide⟩;rename_i h;(have g:0<a.length:=by cases a with|nil=>simp at h|cons x a=>simp);(have d:((List.range 10).map λ(n:Nat)=>min (aO (bw a b) n) (aO (bw b a) n)).sum<=5*10:=by have:=Kd (l:=(List.range 10).map λ(n:Nat)=>min (aO (bw a b) n) (aO (bw b a) n)) (M:=5) (by (intro x e;obtain⟨n,_,rfl⟩:=VX.1 e;have i:aO (bw a b) n<=5:=by unfold aO bw;exact UJ (VP _ _) (UJ (VP _ _) c));omega);simpa using this);simp only[];generalize ((List.range 10).map λ(n:Nat)=>min (aO (bw a b) n) (aO (bw b a) n)).sum=z at d;exact rj (by omega) (by omega) (by omega)
def B9(t a b):0<=gU t a b/\gU t a b<=100:=by unfold gU;split<;>exact⟨by decide,by decide⟩
def my(t k one two)(d:one.aP.length<=5)(e:two.aP.length<=5):0<=bz t k one two/\bz t k one two<=100000:=by by_cases k0:k=0;subst k0;rw[Ab];have:=kA (aT t.av one.word.data.toList) (aT t.av two.word.data.toList);omega;by_cases k1:k=1;subst k1;rw[Ac];have:=iF t one.word.data.toList two.word.data.toList t.aF.length;omega;by_cases a:k=2;subst a;rw[Ad];have:=B9 t (aT t.av one.word.data.toList) (aT t.av two.word.data.toList);omega;by_cases b:k=3;subst b;rw[Ae];have:=kA (aT t.av one.word.data.toList) (aT t.av two.word.data.toList).reverse;omega;by_cases c:k=4;subst c;rw[Af];have:=GP (aT t.av one.word.data.toList) (aT t.av two.word.data.toList);omega;rw[Ag t k one two ⟨k0,k1,a,b,c⟩];exact xi _ _ d e
def wrap_i64(n)(h: -9223372036854775808<=n/\n<=9223372036854775807):IntKind.i64.wrap n=n:=by simp only[IntKind.wrap,IntKind.signed,IntKind.bits,Xp];split;rename_i a;have:=Vl a;omega;rename_i a;have:¬(n%2 ^ 64>=2 ^ (64-1)):=λh=>a (UQ h);omega
def kr(m:Mark)(r:ja):Int:=if m.known then min r.plain r.known else r.plain
def D4(c m kin r):ig c m kin r=⟨max 0 (m.day+1-c.new.day),max 0 (r.least-bz c.table r.kind c.new m),max 0 (kr m r-kin)⟩:=rfl
def PL{K:Nat->Prop}{sc:Zq}{c:Case}(i k:Nat)(w:x6)(hc:bF K w sc c)(E:OkC c)(hi:i<c.marks.length)(hk:k<c.rules.length)(P:i<c.kin.length):Calls (Qs fs) 85 #[.agg sc,.i i,.i k] w λe w'=>e=.returned (D3 (ig c c.marks[i] c.kin[i] c.rules[k]))/\xv w w':=by
 have e70:=e70 L;obtain⟨v0,v1,v2,vr,Q,vm,vk,rfl,ht,hr,hf,hm,R⟩:=hc;obtain⟨wa,g⟩:=ex (w.alloc (.cells #[v0,v1,v2,vr,.string c.new.name,.string c.new.word,Q,.i c.new.day,.bool c.new.known,vm,vk] 60));obtain⟨w1,j⟩:=ex (wa.alloc (.cells #[.i 0,.i 0,.i 0] 86));have Sa:ae wa w1:=by rw[j];exact ae.alloc _ _
 have t:ae w w1:=(by rw[g];exact ae.alloc _ _:ae w wa).trans Sa;have B1:xv w w1:=by rw[j,g];exact((Below.refl _ w).alloc (UI _) _).alloc (by simp) _
 have u:wa.heap.size=w.heap.size+1:=by rw[g];simp
 have S:w1.heap.size=w.heap.size+1+1:=by rw[j,<-u];simp
 have ct:∀i v,(#[v0,v1,v2,vr,.string c.new.name,.string c.new.word,Q,.i c.new.day,.bool c.new.known,vm,vk]:Zq)[i]? =some v->w1.cell? ⟨w.heap.size,i,none⟩=some v:=λi v h=>Sa.cell (by rw[g];exact aC w _ 60 i v h);obtain⟨N,T⟩:=ex (w.heap.size);obtain⟨N1,z⟩:=ex (w.heap.size+1);have n:w1.heap[N1]? =some (.cells #[.i 0,.i 0,.i 0] 86):=by rw[j,z,<-u];exact Vm
 have an:=hm.stays t λb b' o x e h=>by subst e;exact lQ.carry (Carry.keep t) b b o x rfl h
 have ao:=hr.stays t λb b' o x e h=>by subst e;exact iX.carry (Carry.keep t) b b o x rfl h
 have ar:=R.ints t;have F:=ht.stays t;obtain⟨a1,cm,rfl,lm,a6,_,gm⟩:=an;obtain⟨a7,cr,rfl,lr,a8,_,gr⟩:=ao;obtain⟨ba,ck,rfl,lk,bb,_,gk⟩:=ar;obtain⟨I,J,rfl,x0,x1,⟨fm,x2,U⟩,x3,x4⟩:=gm i hi;obtain⟨V,W,rfl,y0,y1,y2,y3⟩:=gr k hk;obtain⟨bk,ax,rfl,z0⟩:=gk i P;clear gm gr gk ht hr hm R;have C:=E.marks _ (US hi);obtain⟨r1,r2,r3,r4,r5,r6,r7,r8⟩:=E.rules _ (US hk);obtain⟨k1,k2⟩:=E.kin _ (US P);obtain⟨m,X⟩:=ex (c.marks[i]);obtain⟨r,Y⟩:=ex (c.rules[k]);obtain⟨q,Z⟩:=ex (c.kin[i]);rw[<-X]at x0 x1 U x3 x4 C⊢;rw[<-Y]at y0 y1 y2 y3 r1 r2 r3 r4 r5 r6 r7 r8⊢;rw[<-Z]at z0 k1 k2⊢;clear X Y Z;obtain⟨a,D,rfl,lf,ay,kf,gf⟩:=U;have U:az K 1 cT w1 (.slice a m.aP.length D) m.aP:=⟨a,D,rfl,lf,ay,kf,gf⟩
 have aK:=jj U;clear U gf kf;have t9:=ct 9 _ rfl;have t3:=ct 3 _ rfl;rw[<-T]at t9 t3;go_enter (n85 L),Tryz.ntmps85;go_upto_region 1 with fail;rw[<-g,<-j,<-z,<-T];go_cut [7,8]from 10 (λs7 s8 M=>∃A B,s7=.pointer (some ⟨A,0,none⟩)/\s8=.pointer (some ⟨B,0,none⟩)/\(∀i v,(#[.string m.name,.string m.word,.slice a m.aP.length D,.i m.day,.bool m.known]:Zq)[i]? =some v->M.cell? ⟨A,i,none⟩=some v)/\(∀i v,(#[.i r.kind,.i r.least,.i r.plain,.i r.known]:Zq)[i]? =some v->M.cell? ⟨B,i,none⟩=some v)/\ae w1 M/\xv w M)
 case first=>
  have HB:=jj B1;clear g j T z ct S u n F Sa t B1;have n9:=World.new_ne w1 _ t9;have n3:=World.new_ne w1 _ t3;have m0:=World.new_ne w1 _ x0;have m1:=World.new_ne w1 _ x1;have m2:=World.new_ne w1 _ x2;have m3:=World.new_ne w1 _ x3;have m4:=World.new_ne w1 _ x4;have q0:=World.new_ne w1 _ y0;have q1:=World.new_ne w1 _ y1;have q2:=World.new_ne w1 _ y2;have q3:=World.new_ne w1 _ y3
  go_region_held3 (λw'=>w'.cell? ⟨N,9,none⟩=some (.slice (some ⟨I,J,none⟩) c.marks.length cm)/\w'.cell? ⟨N,3,none⟩=some (.slice (some ⟨V,W,none⟩) c.rules.length cr)/\
   w'.cell? ⟨I,J+i*5,none⟩=some (.string m.name)/\w'.cell? ⟨I,J+i*5+1,none⟩=some (.string m.word)/\w'.cell? ⟨I,J+i*5+2,none⟩=some (.slice a m.aP.length D)/\w'.cell? ⟨I,J+i*5+3,none⟩=some (.i m.day)/\w'.cell? ⟨I,J+i*5+4,none⟩=some (.bool m.known)/\
   w'.cell? ⟨V,W+k*4,none⟩=some (.i r.kind)/\w'.cell? ⟨V,W+k*4+1,none⟩=some (.i r.least)/\w'.cell? ⟨V,W+k*4+2,none⟩=some (.i r.plain)/\w'.cell? ⟨V,W+k*4+3,none⟩=some (.i r.known)) (go_keep) (fail)
  all_goals (go_wp2_with fail;go_meet)
  obtain⟨h1,h2,h3,h4⟩:=Js HB.o #[.string m.name,.string m.word,.slice a m.aP.length D,.i m.day,.bool m.known] #[.i r.kind,.i r.least,.i r.plain,.i r.known] 38 69;exact⟨_,_,rfl,rfl,h1,h2,h3,h4⟩;obtain⟨h1,h2,h3,h4⟩:=Js HB.o #[.i r.kind,.i r.least,.i r.plain,.i r.known] #[.string m.name,.string m.word,.slice a m.aP.length D,.i m.day,.bool m.known] 69 38;exact⟨_,_,rfl,rfl,h2,h1,h3,h4⟩
 case rest=>
  obtain⟨A,B,rfl,rfl,O,hb,f,Bx⟩:=hcut;have G:Hid (kr m r=if m.known then min r.plain r.known else r.plain):=rfl;have HS:Hid _:=(⟨f,Bx⟩:ae w1 wc/\xv w wc)
  have a3:=O 3 _ rfl;have a4:=O 4 _ rfl;have b0:=hb 0 _ rfl;have b1:=hb 1 _ rfl;have b2:=hb 2 _ rfl;have b3:=hb 3 _ rfl;have aM:=t;have s:w.heap.size<=N1:=by omega
  have t0:=ct 0 _ rfl;have t1:=ct 1 _ rfl;have t2:=ct 2 _ rfl;have t4:=ct 4 _ rfl;have t5:=ct 5 _ rfl;have t6:=ct 6 _ rfl;have t7:=ct 7 _ rfl;have t8:=ct 8 _ rfl;have H:=ct 10 _ rfl;rw[<-T]at t0 t1 t2 t4 t5 t6 t7 t8 H;clear g j T z S u Sa t B1 ct;go_upto_if 23 with fail;go_cut [9]from 10 (λs9 M=>s9=.i (kr m r)/\M=wc)
  case first=>(go_wp2_with fail);(all_goals (go_meet;refine⟨?_,rfl⟩;rw[G.o]));all_goals first|(rw[UH (by assumption)];congr 1;omega)|(rw[UG (by simp[*])])
  case rest=>
   (obtain⟨rfl,rfl⟩:=hcut;have lb:=my c.table r.kind c.new m E.new.fig C.fig;have nb: -1000<=kr m r/\kr m r<=1000:=by unfold kr;split<;>omega);(have aa:=F.stays f;have ab:az K 1 cT wc Q c.new.aP:=(hf.ints aM).ints f;have ad:az K 1 cT wc (.slice a m.aP.length D) m.aP:=az.ints f aK.o;have cL:=λwy (hs:ae wc wy)=>Ah L (m1:=#[.string c.new.name,.string c.new.word,Q,.i c.new.day,.bool c.new.known]) (m2:=#[.string m.name,.string m.word,.slice a m.aP.length D,.i m.day,.bool m.known]) (one:=c.new) (two:=m) r.kind wy (aa.stays hs) E.table ⟨Q,rfl,ab.ints hs⟩ ⟨_,rfl,ad.ints hs⟩ E.new C;obtain⟨lv,af⟩:=ex (bz c.table r.kind c.new m);obtain⟨nd,ag⟩:=ex (kr m r);have HV:Hid _:=D4 c m q r;rw[<-af]at lb cL HV;rw[<-ag]at nb HV⊢;clear af ag;have d:=f _ _ _ _ n;have n0:=cell_of_heap d 0 _ rfl;have n1:=cell_of_heap d 1 _ rfl;have n2:=cell_of_heap d 2 _ rfl;have g0:=frozen_of_heap d 0;have g1:=frozen_of_heap d 1;have g2:=frozen_of_heap d 2;have ak:wc.cell? ⟨bk,ax+i,none⟩=some (.i q):=by have:=f.cell z0;rwa[Vs]at this);(have bo:∀x y:Int,(if x<y then y else x)=max x y:=λx y=>by split<;>omega);(have bs:=C.day;have bx:=E.new.day;have bA:IntKind.i64.wrap (m.day+1)=m.day+1:=wrap_i64 _ (by omega);have bB:IntKind.i64.wrap (m.day+1-c.new.day)=m.day+1-c.new.day:=wrap_i64 _ (by omega);have bC:IntKind.i64.wrap (r.least-lv)=r.least-lv:=wrap_i64 _ (by omega);have b4:IntKind.i64.wrap (nd-q)=nd-q:=wrap_i64 _ (by omega);have aR:(0:Int)<=(i:Int)/\(i:Int)<(c.kin.length:Int):=⟨by omega,by omega⟩);(have qL:∀x:al w wc,Calls (Qs fs) 70 _ x.val λe w'=>e=.returned (.i lv)/\∃y:al w wc,w'=y.val:=λx=>al.calls (cL x.val x.st);have l0:=λx:al w wc=>And.intro (x.cell (a3))<|And.intro (x.cell (f.cell t7))<|And.intro (x.cell (b1))<|And.intro (x.cell (f.cell t0))<|And.intro (x.cell (f.cell t1))<|And.intro (x.cell (f.cell t2))<|And.intro (x.cell (b0))<|And.intro (x.cell (f.cell t4))<|And.intro (x.cell (f.cell t5))<|And.intro (x.cell (f.cell t6))<|And.intro (x.cell (f.cell t8))<|And.intro (x.cell (O 0 _ rfl))<|And.intro (x.cell (O 1 _ rfl))<|And.intro (x.cell (O 2 _ rfl))<|And.intro (x.cell (a4))<|And.intro (x.cell (f.cell H))<|x.cell (ak);clear a3 a4 b0 b1 b2 b3 t0 t1 t2 t4 t5 t6 t7 t8 H z0 ak x0 x1 x2 x3 x4 y0 y1 y2 y3 t9 t3 O hb n0 n1 n2 g0 g1 g2 n ab ad aa F f Bx cL;go_upto_region 5 with fail;refine bd (w0:=w) (w1:=wc) 29 (by kernel_rfl) (by kernel_rfl) (ae.refl _) HS.o.2 ?_;simp only[Vu,Vq,VB,Vy];haveI b5:Nonempty (al w wc):=⟨⟨wc,ae.refl _,HS.o.2⟩⟩);repeat (go_big_quiet_step ((go_at_call 70;exact qL _)))
   refine wpQuiet_nil ?_;rintro wz ⟨⟨_,Sz,Bz⟩,rfl⟩;have l:=Sz _ _ _ _ d;have n0:=cell_of_heap l 0 _ rfl;have n1:=cell_of_heap l 1 _ rfl;have n2:=cell_of_heap l 2 _ rfl;have g0:=frozen_of_heap l 0;have g1:=frozen_of_heap l 1;have g2:=frozen_of_heap l 2;have BZ:=jj Bz;clear qL Sz Bz d l l0;go_wp2;all_goals
    refine bodyPost_ret (v:=.agg #[.i (max 0 (m.day+1-c.new.day)),.i (max 0 (r.least-lv)),.i (max 0 (nd-q))]) ?_ rfl ⟨by rw[HV.o];rfl,((BZ.o.setCell (p:=⟨N1,0,none⟩) s _).setCell (p:=⟨N1,1,none⟩) s _).setCell (p:=⟨N1,2,none⟩) s _⟩;simp[results,Tryz.results85,go_sem, *];try omega
def jJ:Zq:=Array.replicate 2401 (.i 0)
def Tt:Tryz.zeroCells184=jJ:=by kernel_rfl
def zi(i)(h:i<jJ.size):jJ[i]? =some (.i 0):=by unfold jJ at h⊢;rw[Array.size_replicate]at h;rw[Yf,UH h]
def zk:jJ.size=2401:=by unfold jJ;rw[Array.size_replicate]
def Ai(a b:Bs)(q p:Nat)(i:Nat):Zj:=if(q<i/49\/(i/49=q/\p<=i%49))/\i/49<=a.length/\i%49<=b.length then .i (aU (a.drop (i/49)) (b.drop (i%49)))else .i 0
structure jK(w wr:x6)(a b:Bs)(q p:Nat):Prop where
 row:wr.rowIs w.heap.size 184 2401 (Ai a b q p)
 below:xv w wr
def MH(q p)(a:p<49):(q*49+p)/49=q/\(q*49+p)%49=p:=by omega
def jK.cell{w wr a b q p r k}(h:jK w wr a b q p)(i:a.length<=48)(j:b.length<=48)(c:r<=a.length)(d:k<=b.length)(e:q<r\/(r=q/\p<=k)):wr.cell? ⟨w.heap.size,r*49+k,none⟩=some (.i (aU (a.drop r) (b.drop k))):=by obtain⟨f,g⟩:=MH r k (by omega);rw[h.row.cell (by omega)];unfold Ai;rw[f,g,UH ⟨e,c,d⟩]
def jK.cell0{w wr a b q p}(h:jK w wr a b q (p+1))(e:a.length<=48)(f:b.length<=48)(g:q<=a.length)(i:p<=b.length):wr.cell? ⟨w.heap.size,q*49+p,none⟩=some (.i 0):=by obtain⟨c,d⟩:=MH q p (by omega);rw[h.row.cell (by omega)];unfold Ai;rw[c,d,UG (by omega)]
def jK.step{w wr:x6}{a b:Bs}{q p:Nat}(h:jK w wr a b q (p+1))(k:a.length<=48)(l:b.length<=48)(d:q<=a.length)(f:p<=b.length):jK w (wr.setCell ⟨w.heap.size,q*49+p,none⟩ (.i (aU (a.drop q) (b.drop p)))) a b q p where
 row:=(h.row.set (q*49+p) _).congr λi m=>by
  obtain⟨g,j⟩:=MH q p (by omega);unfold Ai;by_cases e:i=q*49+p
  .subst e
   rw[UH rfl,g,j,UH ⟨.inr ⟨rfl,UI _⟩,d,f⟩]
  .rw[UG e]
   by_cases c:(q<i/49\/(i/49=q/\p+1<=i%49))/\i/49<=a.length/\i%49<=b.length
   .rw[UH c,UH ⟨by omega,c.2⟩]
   .rw[UG c,UG (by omega)]
 below:=h.below.setCell (UI _) _
def jK.drewN{w wr a b q p}(h:jK w wr a b q p)(n):jK w (wr.drewN n) a b q p:=⟨h.row,Go.below_drewN h.below n⟩
def jK.next{w wr a b q}(h:jK w wr a b (q+1) 0)(d:b.length<=48):jK w wr a b q (b.length+1):=
 ⟨h.row.congr λi e=>by
  unfold Ai;by_cases c:(q+1<i/49\/(i/49=q+1/\0<=i%49))/\i/49<=a.length/\i%49<=b.length
  .rw[UH c,UH ⟨by omega,c.2⟩]
  .rw[UG c,UG (by omega)],h.below⟩
def jK.first(w a b):jK w (w.alloc (.cells jJ 184)) a b (a.length+1) 0:=⟨by have h:=World.rowIs_alloc w jJ 184 (λ_=>.i 0) λi c=>zi i c;rw[zk]at h;refine h.congr λi c=>?_;unfold Ai;rw[UG (by omega)],aH w _⟩
def Jt(a b:Zk)(w:x6)(ha:a.size<=48)(hb:b.size<=48):Calls (Qs fs) 73 #[.string a,.string b] w λe w'=>e=.returned (.pointer (some ⟨w.heap.size,0,none⟩))/\jK w w' a.data.toList b.data.toList 0 0:=by
 have P:=Lib.size_eq a;have Q:=Lib.size_eq b;obtain⟨A,u⟩:=ex (a.data.toList);obtain⟨B,x⟩:=ex (b.data.toList);rw[<-u]at P;rw[<-x]at Q;rw[<-u,<-x];have d:Hid (a.size=A.length/\b.size=B.length):=⟨P,Q⟩
 have HG:Hid ((∀q (h:q<a.size),A.drop q=a[q]::A.drop (q+1))/\(∀q (h:q<b.size),B.drop q=b[q]::B.drop (q+1))):=⟨λq h=>by rw[u];exact drop_cons a q h,λq h=>by rw[x];exact drop_cons b q h⟩
 have J:=jK.first w A B;rw[<-Tt]at J;obtain⟨w1,z⟩:=ex (w.alloc (.cells Tryz.zeroCells184 184));rw[<-z]at J;obtain⟨N,K⟩:=ex (w.heap.size);have HN:=jj K;have R:=jj J;rw[<-K];clear P Q u x J;go_enter (n73 L),Tryz.ntmps73;go_upto_region 2 with fail;rw[<-z,<-K];clear z K;go_wp2;go_loopw [6] (λi wr=>∃(p:Nat) (j:Int),p<=a.size+1/\j=(p:Int)-1/\i=.i j/\jK w wr A B p 0) (λi _=>(intOf i+1).toNat);case atStart=>refine⟨a.size+1,_,UI _,rfl,by go_num,?_⟩;rw[d.o.1];exact R.o
 case round=>
  obtain⟨p,D,hp,n,rfl,M⟩:=hrel;obtain rfl|hpos:=Vr p
  ·(obtain rfl:D= -1:=by omega);clear n;have HR:=jj M;clear M;go_wp2;go_ret;exact⟨rfl,HR.o⟩
  obtain⟨q,rfl⟩:∃q,p=q+1:=⟨p-1,by omega⟩
  obtain rfl:D=(q:Int):=by omega
  clear n;have O:Hid _:=M.next (by have:=d.o.2;omega);clear M;go_wp2;go_loopw [7] (λi wi=>∃(C:Nat) (j:Int),C<=b.size+1/\j=(C:Int)-1/\i=.i j/\jK w wi A B q C) (λi _=>(intOf i+1).toNat);case atStart=>exact⟨b.size+1,_,UI _,rfl,by go_num,by rw[d.o.2];exact O.o⟩
  case round=>
   clear O;obtain⟨C,D,ag,n,rfl,o⟩:=hrel;obtain rfl|hpos2:=Vr C
   ·(obtain rfl:D= -1:=by omega);clear n;have O:=jj o;clear o;go_wp2;refine⟨⟨q,_,by omega,rfl,by go_num,O.o⟩,by simp[intOf]⟩
   (obtain⟨c,rfl⟩:∃c,C=c+1:=⟨C-1,by omega⟩);(obtain rfl:D=(c:Int):=by omega);(clear n;have s:q<=A.length:=by have:=d.o.1;omega);(have t:c<=B.length:=by have:=d.o.2;omega);(have f:A.length<=48:=by have:=d.o.1;omega);(have g:B.length<=48:=by have:=d.o.2;omega);(have E:=o.cell0 f g s t;have S:wr.frozen? ⟨w.heap.size,q*49+c,none⟩=false:=o.row.frozen _;have l:=o.step f g s t;rw[<-HN.o]at E S l;have HS:=jj l;clear l;have ab:(q:Int)<49:=by omega);(have ad:(c:Int)<49:=by omega);obtain hqa|hqa:=UK q a.size
   .obtain hcb|hcb:=UK c b.size
    .have e11:=o.cell f g (r:=q+1) (k:=c+1) (by have:=d.o;omega) (by have:=d.o;omega) (by omega);(have e10:=o.cell f g (r:=q+1) (k:=c) (by have:=d.o;omega) (by have:=d.o;omega) (by omega);have F:=o.cell f g (r:=q) (k:=c+1) (by have:=d.o;omega) (by have:=d.o;omega) (by omega);have y:aU (A.drop q) (B.drop c)=if a[q]=b[c]then aU (A.drop (q+1)) (B.drop (c+1))else 1+min (aU (A.drop (q+1)) (B.drop (c+1))) (min (aU (A.drop (q+1)) (B.drop c)) (aU (A.drop q) (B.drop (c+1)))):=by have g1:=HG.o.1 q hqa;have g2:=HG.o.2 c hcb;rw[g1,g2,mV]);(have T:aU (A.drop (q+1)) (B.drop (c+1))<=2000:=UJ (nF _ _) (by rw[UY,UY];have:=d.o;omega);have U:aU (A.drop (q+1)) (B.drop c)<=2000:=UJ (nF _ _) (by rw[UY,UY];have:=d.o;omega);have V:aU (A.drop q) (B.drop (c+1))<=2000:=UJ (nF _ _) (by rw[UY,UY];have:=d.o;omega);rw[y]at HS;obtain⟨ak,G⟩:=ex (aU (A.drop (q+1)) (B.drop (c+1)));obtain⟨an,H⟩:=ex (aU (A.drop (q+1)) (B.drop c));obtain⟨ao,I⟩:=ex (aU (A.drop q) (B.drop (c+1)));rw[<-G]at e11 T HS;rw[<-H]at e10 U HS;rw[<-I]at F V HS;rw[<-HN.o]at e11 e10 F;have ar:((q:Int)==a.size)=false:=by rw[Ve];omega);(have ax:((c:Int)==b.size)=false:=by rw[Ve];omega);(have af:¬(q:Int)=a.size:=by omega);(have W:(q:Int)+1<49:=by omega);(have X:(c:Int)+1<49:=by omega);clear o y s t G H I;by_cases m:a[q]=b[c]
     .rw[UH m]at HS;(have Y:((a[q].toNat:Int)==(b[c].toNat:Int))=true:=by rw[m];simp);clear m;go_wp2;go_quiet (fail);go_wp2
      (go_region);go_wp2;exact⟨⟨c,_,by omega,rfl,by go_num,HS.o.drewN (nq+1)⟩,by simp[intOf]⟩
     rw[UG m]at HS;(have Y:((a[q].toNat:Int)==(b[c].toNat:Int))=false:=by rw[Ve];intro h;exact m (XG.1 (by omega)));clear m;go_wp2;go_quiet (fail);go_wp2
     (go_big_region);go_wp2;refine⟨⟨c,_,by omega,rfl,by go_num,?_⟩,by simp[intOf]⟩;refine(Vj (λv=>jK w ((wr.drewN _).setCell ⟨N,q*49+c,none⟩ (Value.int .i64 v)) A B q c) ?_).mp (HS.o.drewN (nq+1));split<;>split<;>omega
    (have Z:c=b.size:=by omega);(have y:aU (A.drop q) (B.drop c)=a.size-q:=by rw[Vn (by have:=d.o.2;omega:B.length<=c),il,UY,d.o.1]);rw[y,show((a.size-q:Nat):Int)=(a.size:Int)-q by omega]at HS;subst Z;clear o y s t;go_wp2;refine⟨⟨b.size,_,by omega,rfl,by go_num,HS.o⟩,by simp[intOf]⟩
   (have aa:q=a.size:=by omega);(have y:aU (A.drop q) (B.drop c)=b.size-c:=by rw[Vn (by have:=d.o.1;omega:A.length<=q),ft,UY,d.o.2]);rw[y,show((b.size-c:Nat):Int)=(b.size:Int)-c by omega]at HS;subst aa;clear o y s t;go_wp2;refine⟨⟨c,_,by omega,rfl,by go_num,HS.o⟩,by simp[intOf]⟩
def mW(a:Zk):a=⟨#[]⟩↔a.size=0:=by constructor;rintro rfl;rfl;intro h;refine ri ?_;have:a.data.toList=[]:=Wm.1 (by rw[<-Lib.size_eq];exact h);rw[this]
def D5{a:Zk}(h:a≠⟨#[]⟩):a.toList.isEmpty=false:=by rw[Lib.toList_data,fW];exact UN λb=>h ((mW a).2 b)
def Ca(a b:Zk)(w:x6)(u:a.size<=48)(v:b.size<=48):ac fs 231 #[.string a,.string b] w (.i (dQ a.data.toList b.data.toList)):=by
 have e73:=e73 L;have s:=λg=>Jt L a b g u v;have l:Hid _:=Aa a b;have i:=xh _ a.data.toList b.data.toList (UI _);rw[<-Lib.size_eq,<-Lib.size_eq]at i;by_cases m:a=⟨#[]⟩
 .have f:=l.o;rw[UH (.inl ((mW a).1 m))]at f;have c:=jj f;have x:a.toList.isEmpty=true:=by rw[Lib.toList_data];subst m;rfl
  clear f l i m;go_enter (n231 L),Tryz.ntmps231;go_wp2_with fail;go_ret;exact⟨by rw[c.o];rfl,Below.refl _ _⟩
 have y:a.toList.isEmpty=false:=D5 m;by_cases n:b=⟨#[]⟩
 .have f:=l.o;rw[UH (.inr ((mW b).1 n))]at f;have c:=jj f;have x:b.toList.isEmpty=true:=by rw[Lib.toList_data];subst n;rfl
  clear f l i n;go_enter (n231 L),Tryz.ntmps231;go_wp2_with fail;go_ret;exact⟨by rw[c.o];rfl,Below.refl _ _⟩
 have z:b.toList.isEmpty=false:=D5 n;have A:0<a.size:=Yg λh=>m ((mW a).2 h);have B:0<b.size:=Yg λh=>n ((mW b).2 h);have f:=l.o;rw[UG (by omega)]at f;have p:=Lib.size_eq a;have q:=Lib.size_eq b;have j:∀g,Calls (Qs fs) 73 #[.string a,.string b] g λe w'=>e=.returned (.pointer (some ⟨g.heap.size,0,none⟩))/\w'.cell? ⟨g.heap.size,0,none⟩=some (.i (aU a.data.toList b.data.toList))/\xv g w':=λg=>(s g).mono λe w' h=>⟨h.1,by have:=h.2.cell (r:=0) (k:=0) (by omega) (by omega) (UP _) (UP _) (by omega);simpa using this,h.2.below⟩
 obtain⟨d,t⟩:=ex (aU a.data.toList b.data.toList);rw[<-t]at j f i;have c:=jj f;clear f l m n s t p q;go_enter (n231 L),Tryz.ntmps231;go_wp2_with (go_at_call 73;refine(j _).mono ?_;clear j;rintro e w2 ⟨rfl,C,o⟩);go_ret;exact⟨by rw[c.o,show max a.size b.size=b.size by omega];rfl,o⟩;go_ret;exact⟨by rw[c.o,show max a.size b.size=a.size by omega];rfl,o⟩
def MI(s r):Lib.occAt s r 0=r.isPrefixOf s:=rfl
def zl(s r:Zk)(w:x6):ap fs 163 #[.string s,.string r] w (.bool (r.data.toList.isPrefixOf s.data.toList)):=by
 obtain h|h:=UK s.size r.size
 .have c:decide ((r.size:Int)<=(s.size:Int))=false:=UN (by omega);have a:decide (r.size<=s.size)=false:=UN (by omega);have b:Hid (r.data.toList.isPrefixOf s.data.toList=false):=by rw[Hid];cases d:r.data.toList.isPrefixOf s.data.toList with|false=>rfl|true=>have f:=(Wb.1 d).length_le;rw[<-Lib.size_eq,<-Lib.size_eq]at f;omega
  clear h;go_enter (n163 L),Tryz.ntmps163;go_wp2;go_ret;exact⟨by rw[b.o];rfl,rfl⟩
 have c:(r.size:Int)<=(s.size:Int):=by omega
 have a:r.size<=s.size:=h;have b:Hid _:=Lib.occ_of_piece s r 0 (by omega);clear h;go_enter (n163 L),Tryz.ntmps163;go_wp2;go_ret;refine⟨?_,rfl⟩;rw[<-MI,b.o,UR];rfl
def oN(s r:Zk)(w:x6):Calls (Qs fs) 133 #[.string s,.string r] w λe w'=>e=.returned (.bool (r.data.toList.isPrefixOf s.data.toList))/\w'=w:=by have SY:=SY L;have c:=zl L s r w;obtain⟨z,a⟩:=ex (r.data.toList.isPrefixOf s.data.toList);rw[<-a]at c⊢;clear a;go_enter (n133 L),Tryz.ntmps133;go_wp2_with (go_at_call 163;refine c.mono ?_;clear c;rintro e w2 ⟨rfl,rfl⟩);go_ret;exact⟨rfl,rfl⟩
def mz(a:List Pr2):Nat->Bs->List Zk
 |0,_=>[]
 |_,[]=>[]
 |n+1,c::cs=>
  match bP a (c::cs)with
  |some p=>p.2::mz a n ((c::cs).drop p.1.size)
  |none=>(if bh c then⟨#[c]⟩else⟨#[]⟩)::mz a n cs
def eG(a:List Pr2)(w:Bs):List Zk:=mz a w.length w
theorem rm(a):∀(n) (s),(mz a n s).flatMap (λx=>x.data.toList)=lR a n s
 |0,s=>rfl
 |n+1,[]=>rfl
 |n+1,c::cs=>by
  unfold mz lR;cases bP a (c::cs)with
  |some p=>simp only[VE];rw[rm a n]
  |none=>
   simp only[VE];rw[rm a n]
   congr 1
   cases bh c<;>rfl
def xj(a s):(eG a s).flatMap (λx=>x.data.toList)=aT a s:=rm a _ s
theorem oO(a:List Pr2)(b:∀p∈a,1<=p.1.size):∀(n m) (s),s.length<=n->s.length<=m->mz a n s=mz a m s
 |n,m,[],_,_=>by cases n<;>cases m<;>rfl
 |0,m,c::cs,h,_=>by simp at h
 |n,0,c::cs,_,h=>by simp at h
 |n+1,m+1,c::cs,d,e=>by
  simp only[UM]at d e;unfold mz;cases f:bP a (c::cs)with
  |some p=>have g:=b p (ik f);simp only[];rw[oO a b n m _ (by rw[UY,UM];omega) (by rw[UY,UM];omega)]
  |none=>simp only[];rw[oO a b n m cs (by omega) (by omega)]
def GQ{a:List Pr2}(b:∀p∈a,1<=p.1.size){c}{s:Bs}{p}(d:bP a (c::s)=some p):eG a (c::s)=p.2::eG a ((c::s).drop p.1.size):=by have h:=b p (ik d);unfold eG;rw[UM];(conv=>lhs;unfold mz);rw[d];simp only[];rw[oO a b _ ((c::s).drop p.1.size).length _ (by rw[UY,UM];omega) (UI _)]
def D6{a c}{s:Bs}(b:bP a (c::s)=none):eG a (c::s)=(if bh c then⟨#[c]⟩else⟨#[]⟩)::eG a s:=by unfold eG;rw[UM];(conv=>lhs;unfold mz);rw[b]
def az.blocks{K}{w w':x6}{v l}(h:az K 2 dA w v l)(j:∀b,K b->w'.heap[b]? =w.heap[b]?):az K 2 dA w' v l:=by (obtain⟨n,c,rfl,p,q,f,r⟩:=h;have m:∀b o,K b->w'.cell? ⟨b,o,none⟩=w.cell? ⟨b,o,none⟩:=λb o d=>by unfold World.cell?;rw[show w'.heap[(⟨b,o,none⟩:Addr).block]? =w.heap[(⟨b,o,none⟩:Addr).block]? from j b d]);refine⟨n,c,rfl,p,q,f.imp id λf a s=>?_,λk d=>?_⟩;obtain⟨k1,g,t⟩:=f a s;exact⟨k1,g,by rw[j _ g];exact t⟩;obtain⟨b,i,e,k1,g⟩:=r k d;have d:=((f.resolve_left (by omega)) _ e).2.1;exact⟨b,i,e,(m b _ d).trans k1,(m b _ d).trans g⟩
def az.below{K w v l}(h:az K 2 dA w v l):az (λb=>b<w.heap.size) 2 dA w v l:=by obtain⟨j,c,rfl,m,n,d,o⟩:=h;refine⟨j,c,rfl,m,n,d.imp id λd a p=>?_,λk q=>?_⟩;obtain⟨k1,g,cs,e,F,i⟩:=d a p;exact⟨k1,(UO.1 i).1,cs,e,F,i⟩;obtain⟨b,f,e,k1,g⟩:=o k q;exact⟨b,f,e,k1,g⟩
def im(rest:Zk):Option Pr2->Zk×Zk×Int
 |some p=>(p.1,p.2,p.1.size)
 |none=>(rest.extract 0 1,if(rest.data.toList.head?.any bh)then rest.extract 0 1 else⟨#[]⟩,0)
theorem F3{b}{chk:List b->b->Int}:∀{seen l:List b} {i:Nat} (h:i<l.length),(∀j (e:j<i),chk (seen++l.take j) (l[j]'(by omega))=0)->chk (seen++l.take i) l[i]≠0->dZ chk seen l=chk (seen++l.take i) l[i]
 |seen,x::xs,0,h,_,a=>by simp only[Vq,V7,W7]at a⊢;unfold dZ;rw[UH a]
 |seen,x::xs,i+1,h,c,a=>by have d:=c 0 (by omega);simp only[Vq,V7,W7]at d;unfold dZ;rw[UG (by rw[d];simp)];have:=F3 (chk:=chk) (seen:=seen++[x]) (l:=xs) (i:=i) (by simpa using h) (λj e=>by simpa using c (j+1) (by omega)) (by simpa using a);simpa using this
theorem Bh{a}{chk:List a->a->Int}:∀{seen l:List a},(∀j (b:j<l.length),chk (seen++l.take j) l[j]=0)->dZ chk seen l=0
 |seen,[],_=>rfl
 |seen,x::xs,c=>by have d:=c 0 (by simp);simp only[Vq,V7,W7]at d;unfold dZ;rw[UG (by rw[d];simp)];refine Bh λj b=>?_;have:=c (j+1) (by simpa using b);simpa only[Vu,List.getElem_cons_succ,V5,List.singleton_append]using this
def fB{a}{chk:List a->a->Int}{l:List a}{i:Nat}(h:i<l.length)(d:∀j (c:j<i) (g:j<l.length),chk (l.take j) l[j]=0){f:Int}(e:chk (l.take i) l[i]=f)(b:f≠0):dZ chk [] l=f:=by subst e;have:=F3 (chk:=chk) (seen:=[]) h (λj c=>by simpa using d j c (by omega)) (by simpa using b);simpa using this
def fj{a}{chk:List a->a->Int}{l:List a}(c:∀j (b:j<l.length),chk (l.take j) l[j]=0):dZ chk [] l=0:=Bh λj b=>by simpa using c j b
def fC{a}{chk:List a->a->Int}{l:List a}{k:Nat}(c:∀j (_:j<k) (b:j<l.length),chk (l.take j) l[j]=0)(d:k<l.length)(h:chk (l.take k) l[k]=0):∀j (_:j<k+1) (b:j<l.length),chk (l.take j) l[j]=0:=λj e b=>by obtain h2|h2:=UK j k;exact c j h2 b;(have:j=k:=by omega);subst this;exact h
def F4{a}{l:List a}{p:a->Bool}{i:Nat}:(l.take i).any p=false↔∀j (_:j<i) (e:j<l.length),p l[j]=false:=by rw[WK];constructor;intro h j b f;(have c:l[j]∈l.take i:=by rw[X3];exact⟨j,by omega,rfl⟩);simpa using h _ c;intro h x d;obtain⟨j,b,rfl⟩:=X3.1 d;simp[h j (by omega) (by omega)]
def Lz{s:Zk}(h:s.size=0\/10<s.size):dK s=false:=by unfold dK aq;obtain h|h:=h;rw[h];rfl;rw[show decide ((s.size:Int)<=10)=false from UN (by omega),WH,XY,XY]
def head_data{s:Zk}(h:0<s.size):s.data.toList.head?=some s[0]:=by (have a:0<s.data.toList.length:=by rw[<-Lib.size_eq];exact h);rw[List.head?_eq_getElem?,Vb a];rfl
def F5{s:Zk}{p:UInt8->Bool}:s.data.toList.all p=true↔∀j (h:j<s.size),p s[j]=true:=by rw[Vp];constructor;intro h j a;exact h _ (US (l:=s.data.toList) (n:=j) (by rw[<-Lib.size_eq];exact a));intro h x b;obtain⟨j,a,rfl⟩:=Wj b;exact h j (by rw[Lib.size_eq];exact a)
def IZ{s:Zk}(b:s.size≠0)(c:s.size<=10)(a:bh (s[0]'(by omega))=true)(h:∀j (h:j<s.size),(bh s[j]||jG s[j])=true):dK s=true:=by unfold dK aq;rw[head_data (by omega),F5.2 h,UQ (by omega),UQ (by omega)];simpa using a
def yL{s:Zk}{k:Nat}(c:k<s.size)(h:bh s[k]=false)(a:jG s[k]=false\/k=0):dK s=false:=by rw[XH];intro b;unfold dK at b;simp only[UT]at b;obtain⟨⟨_,d⟩,e⟩:=b;obtain a|rfl:=a;have:=F5.1 e k c;rw[h,a]at this;cases this;rw[head_data c]at d;simp[h]at d
def JO(s:Zk)(w:x6)(M:s.size<=9223372036854775807):ac fs 111 #[.string s] w (.bool (dK s)):=by
 have e60:=e60 L;by_cases h0:s.size=0\/10<s.size
 .rw[Lz h0];go_enter (n111 L),Tryz.ntmps111;obtain h0|h0:=h0
  ·(have t:((s.size:Int)==0)=true:=by rw[VA];omega);go_wp2;go_ret;exact⟨rfl,Below.refl _ _⟩
  have t:((s.size:Int)==0)=false:=by rw[Ve];omega
  have F:decide ((10:Int)<(s.size:Int))=true:=UQ (by omega);go_wp2;go_ret;exact⟨rfl,Below.refl _ _⟩
 have t:((s.size:Int)==0)=false:=by rw[Ve];omega
 have F:decide ((10:Int)<(s.size:Int))=false:=UN (by omega);have h0:s.size≠0/\s.size<=10:=by omega
 go_enter (n111 L),Tryz.ntmps111;go_wp2;go_loopw [3] (λi wr=>∃k:Nat,k<=s.size/\i=.i k/\(∀j (h:j<k) (G:j<s.size),(bh s[j]||jG s[j])=true)/\(0<k->bh (s[0]'(by omega))=true)/\xv w wr) (λi _=>s.size-(intOf i).toNat);case atStart=>exact⟨0,UP _,rfl,λj h=>absurd h (UX _),λh=>absurd h (X4 _),Below.refl _ _⟩
 case round=>
  obtain⟨k,N,rfl,u,v,z⟩:=hrel;have A:=jj u;have o:=jj v;have p:=jj z;clear u v z;obtain c|hge:=UK k s.size
  .have O:k<s.size:=c;(obtain⟨m,d⟩:=ex (bh s[k]);obtain⟨n,f⟩:=ex (jG s[k]);have g:wrap64 (s[k].toNat:Int)=s[k].toNat:=by have:=s[k].toNat_lt;unfold wrap64;omega);(have B:∀x:al w wr,Calls (Qs fs) 60 #[.i (wrap64 (s[k].toNat:Int)),.i 97,.i 122] x.val λe w'=>e=.returned (.bool m)/\∃y:al w wr,w'=y.val:=λx=>by rw[d,g];exact al.same (xb L _ _ _ x.val));(have C:∀x:al w wr,Calls (Qs fs) 60 #[.i (wrap64 (s[k].toNat:Int)),.i 48,.i 57] x.val λe w'=>e=.returned (.bool n)/\∃y:al w wr,w'=y.val:=λx=>by rw[f,g];exact al.same (xb L _ _ _ x.val));(have l:Hid _:=(⟨d,f⟩:m=bh s[k]/\n=jG s[k]));(clear d f g;go_upto_region 6 with fail;refine bd (w0:=w) (w1:=wr) 10 (by kernel_rfl) (by kernel_rfl) (ae.refl _) p.o ?_;simp only[Vu,Vq,VB,Vy];haveI q:Nonempty (al w wr):=⟨⟨wr,ae.refl _,p.o⟩⟩);(repeat (go_big_quiet_step ((go_at_call 60;first|exact B _|exact C _))));refine wpQuiet_nil ?_;rintro P ⟨⟨_,H,D⟩,rfl⟩;have a:=jj D;clear B C q H D;by_cases r:k=0
   .subst r
    cases m with
    |true=>(go_wp2;refine⟨⟨1,by omega,by go_num,λj I E=>?_,λ_=>l.o.1.symm,a.o⟩,by simp[intOf];omega⟩;have:j=0:=by omega);subst this;rw[<-l.o.1];rfl
    |false=>cases n<;>(go_wp2;go_ret;exact⟨by rw[yL c l.o.1.symm (.inr rfl)];rfl,a.o⟩)
   (have J:((k:Int)==0)=false:=by rw[Ve];omega);(have b:(m||n)=true->∀j (h:j<k+1) (G:j<s.size),(bh s[j]||jG s[j])=true:=λK j I E=>by obtain h3|h3:=UK j k;exact A.o j h3 E;(have:j=k:=by omega);subst this;rw[<-l.o.1,<-l.o.2];exact K);have HS:=jj b;clear b;cases m with|true=>go_wp2;exact⟨⟨k+1,by omega,by go_num,HS.o rfl,λ_=>o.o (by omega),a.o⟩,by simp[intOf];omega⟩|false=>cases n with|true=>go_wp2;exact⟨⟨k+1,by omega,by go_num,HS.o rfl,λ_=>o.o (by omega),a.o⟩,by simp[intOf];omega⟩|false=>go_wp2;go_ret;exact⟨by rw[yL c l.o.1.symm (.inl l.o.2.symm)];rfl,a.o⟩
  go_wp2;go_ret;exact⟨by rw[IZ h0.1 h0.2 (o.o (by omega)) λj h=>A.o j (by omega) h];rfl,p.o⟩
def I0(l:List Pr2)(i:Nat)(a:i<l.length):letterF (l.take i) l[i]=if !bq l[i].1 4 then 3 else if(l.take i).any (λq=>decide (q.1=l[i].1))then 5 else if !aZ l[i].2 1 3 then 3 else 0:=rfl
def yM{K:Nat->Prop}{v:Zj}{l:List Pr2}(w:x6)(M:az K 2 dA w v l)(Y:∀p∈l,p.1.size<=1000/\p.2.size<=1000)(hn:l.length<=1000):ac fs 58 #[v] w (.i (aI 0 12 letterF l)):=by
 have Pt:=Pt L;have e61:=e61 L;obtain⟨ao,c,rfl,af,hc,_,n⟩:=M;by_cases ag:12<l.length
 .have g:(12:Int)<(l.length:Int):=by omega
  have e:aI 0 12 letterF l=2:=by unfold aI aq;rw[UN (p:=(l.length:Int)<=12) (by omega),WH];rfl
  rw[e];clear Y n;go_enter (n58 L),Tryz.ntmps58;go_wp2;go_ret;exact⟨rfl,Below.refl _ _⟩
 have g:decide ((12:Int)<(l.length:Int))=false:=UN (by omega);have e:aI 0 12 letterF l=dZ letterF [] l:=by unfold aI aq;rw[UQ (by omega),UQ (by omega)];rfl
 rw[e];clear e;have HS:=jj Y;have HC:=jj n;clear Y n;go_enter (n58 L),Tryz.ntmps58;go_wp2;go_loopw [3] (λs wr=>∃k:Nat,k<=l.length/\s=.i k/\(∀j (_:j<k) (Z:j<l.length),letterF (l.take j) l[j]=0)/\xv w wr) (λs _=>l.length-(intOf s).toNat);case atStart=>exact⟨0,UP _,rfl,λj h=>absurd h (UX _),Below.refl _ _⟩
 case round=>
  obtain⟨k,hk,rfl,hf,hb⟩:=hrel;have HF:=jj hf;have U:=jj hb;clear hf hb;obtain t|hge:=UK k l.length
  .obtain⟨b,F,rfl,hx⟩:=HC.o k t;obtain⟨G,C⟩:=HS.o l[k] (US t);obtain⟨u,y⟩:=hx;have a:=I0 l k t;have V:=ae.below U.o;have HR:Hid (∀j (hj:j<l.length),wr.cell? ⟨b,F+j*2,none⟩=some (.string l[j].1)):=λj hj=>by obtain⟨b',o',e',hy⟩:=HC.o j hj;cases e';exact V.cell hy.1
   have u:=V.cell u;have y:=V.cell y;clear V;obtain⟨p,hp⟩:=ex (l[k]);rw[<-hp]at u y G C a;obtain⟨p0,W⟩:=p;simp only[]at u y G C a;have z:=λwx=>uO L p0 4 wx (by omega);have B:=λwx=>nC L W 1 3 wx (by omega);obtain⟨z1,N⟩:=ex (bq p0 4);obtain⟨z2,O⟩:=ex (aZ W 1 3);simp only[<-N]at z a;simp only[<-O]at B a;have HP:=jj hp;have X:=jj a;clear N O hp a;have D:∀{f:Int},letterF (l.take k) (p0,W)=f->f≠0->dZ letterF [] l=f:=λG C=>fB t HF.o (by rw[<-HP.o];exact G) C;have HG:Hid (letterF (l.take k) (p0,W)=0->∀j (_:j<k+1) (Z:j<l.length),letterF (l.take j) l[j]=0):=λh=>fC HF.o t (by rw[<-HP.o];exact h);have H:Hid _:=@D;clear D;cases z1 with
   |false=>have A:=H.o (X.o.trans rfl:_=(3:Int)) (by decide);have HV:=jj A;clear A B;go_wp2_with (go_at_call 110;refine(z _).mono ?_;rintro e w' ⟨rfl,rfl⟩);go_ret;exact⟨by rw[HV.o];rfl,U.o⟩
   |true=>
    (go_upto_block 2 with((go_at_call 110;refine(z _).mono ?_;rintro e w' ⟨rfl,m⟩;rw[m];clear m)));go_wp2;go_loopw [4] (λs wi=>∃j:Nat,j<=k/\s=.i j/\(∀i (_:i<j) (Z:i<l.length),l[i].1≠p0)/\ae wr wi/\xv w wi) (λs _=>k-(intOf s).toNat);case atStart=>exact⟨0,UP _,rfl,λj h=>absurd h (UX _),ae.refl _,U.o⟩
    case round=>
     (obtain⟨j,hj,rfl,P,o,I⟩:=hrel;have HN:=jj P;have Q:Hid _:=(⟨o,I⟩:_/\xv w wr));have y1:=o.cell u;have y2:=o.cell y;clear P;obtain hjk|hjk:=UK j k
     .have y0:=o.cell (HR.o j (by omega));(obtain⟨r,hr⟩:=ex (l[j].1);rw[<-hr]at y0;have l0:∀x:al w wr,x.val.cell? ⟨b,F+j*2,none⟩=some (.string r):=λx=>x.st.cell y0;have l1:∀x:al w wr,x.val.cell? ⟨b,F+k*2,none⟩=some (.string p0):=λx=>x.st.cell y1;obtain⟨d,hd⟩:=ex (decide (r=p0));have J:=ky r p0;rw[<-hd]at J;have HD:=jj hd;have R:=jj hr;clear hd;clear hr o I;go_upto_region 11 with fail;refine aQ (w0:=w) (w1:=wr) (by kernel_rfl) (by kernel_rfl) (ae.refl _) Q.o.2 ?_;haveI aa:Nonempty (al w wr):=⟨⟨wr,ae.refl _,Q.o.2⟩⟩);(repeat (go_big_quiet_step (fail)));(refine wpQuiet_nil ?_;rintro wz ⟨⟨_,Sz,Bz⟩,rfl⟩;have HZ:Hid _:=(⟨Q.o.1.trans Sz,Bz⟩:_/\_));clear l0 l1 aa Sz Bz y0 y1 y2;cases d with|true=>have S:r=p0:=Vl HD.o.symm;have A:=H.o (X.o.trans (by rw[UG (by simp),UH];rw[VO];exact⟨l[j],X3.2 ⟨j,by omega,rfl⟩,UQ (R.o▸S)⟩):_=(5:Int)) (by decide);have HV:=jj A;clear J S A;go_wp2;go_ret;exact⟨by rw[HV.o];rfl,HZ.o.2⟩|false=>(have S:r≠p0:=XR HD.o.symm;have T:∀i (_:i<j+1) (Z:i<l.length),l[i].1≠p0:=λi G C=>by obtain h3|h3:=UK i j;exact HN.o i h3 C;(have:i=j:=by omega);subst this;exact R.o▸S);have ab:=jj T;clear J S T;go_wp2;exact⟨⟨j+1,by omega,by go_num,ab.o,HZ.o.1,HZ.o.2⟩,by simp[intOf];omega⟩
     (have ad:j=k:=by omega);subst ad;have E:(l.take j).any (λq=>decide (q.1=p0))=false:=F4.2 λi G C=>UN (HN.o i G C);have HA:=jj E;clear E o I;cases z2 with|false=>have A:=H.o (X.o.trans (by rw[HA.o];rfl):_=(3:Int)) (by decide);have HV:=jj A;clear A;go_wp2_with (go_at_call 61;refine(B _).mono ?_;rintro e w' ⟨rfl,m⟩;rw[m];clear m);go_ret;exact⟨by rw[HV.o];rfl,Q.o.2⟩|true=>have A:=HG.o (X.o.trans (by rw[HA.o];rfl));have HV:=jj A;clear A;go_wp2_with (go_at_call 61;refine(B _).mono ?_;rintro e w' ⟨rfl,m⟩;rw[m];clear m);exact⟨⟨j+1,by omega,by go_num,HV.o,Q.o.2⟩,by simp[intOf];omega⟩
  go_wp2;go_ret;exact⟨by rw[fj λj h=>HF.o j (by omega) h];rfl,U.o⟩
def I1(l:List jY)(i:Nat)(a:i<l.length)(n:Zk)(ss:List Pr2):dq (l.take i) ⟨n,ss⟩=if !dK n then 4 else if(l.take i).any (λq=>decide (q.name=n))then 5 else aI 0 5 eh ss:=rfl
def yN{K:Nat->Prop}{v:Zj}{l:List jY}(w:x6)(ab:az K 2 fH w v l)(hs:∀t∈l,t.name.size<=1000/\∀p∈t.aX,p.1.size<=1000/\p.2.size<=1000)(hn:l.length<=1000):ac fs 59 #[v] w (.i (aI 0 3 dq l)):=by
 have Pu:=Pu L;have e61:=e61 L;obtain⟨ao,c,rfl,a1,hc,_,C⟩:=ab;by_cases a6:3<l.length
 .have g:(3:Int)<(l.length:Int):=by omega
  have e:aI 0 3 dq l=2:=by unfold aI aq;rw[UN (p:=(l.length:Int)<=3) (by omega),WH];rfl
  rw[e];clear hs C;go_enter (n59 L),Tryz.ntmps59;go_wp2;go_ret;exact⟨rfl,Below.refl _ _⟩
 have g:decide ((3:Int)<(l.length:Int))=false:=UN (by omega);have e:aI 0 3 dq l=dZ dq [] l:=by unfold aI aq;rw[UQ (by omega),UQ (by omega)];rfl
 rw[e];clear e;have HS:=jj hs;have HC:=jj C;clear hs C;go_enter (n59 L),Tryz.ntmps59;go_wp2;go_loopw [3] (λs wr=>∃k:Nat,k<=l.length/\s=.i k/\(∀j (_:j<k) (h':j<l.length),dq (l.take j) l[j]=0)/\xv w wr) (λs _=>l.length-(intOf s).toNat);case atStart=>exact⟨0,UP _,rfl,λj h=>absurd h (UX _),Below.refl _ _⟩
 case round=>
  obtain⟨k,hk,rfl,hf,hb⟩:=hrel;have HF:=jj hf;have HB:=jj hb;clear hf hb;obtain G|hge:=UK k l.length
  .obtain⟨b,P,rfl,hx⟩:=HC.o k G;obtain⟨Q,F⟩:=HS.o l[k] (US G);obtain⟨D,vs,R,H⟩:=hx;have HR:Hid (∀j (hj:j<l.length),w.cell? ⟨b,P+j*2,none⟩=some (.string l[j].name)):=λj hj=>by obtain⟨b',o',e',hy⟩:=HC.o j hj;cases e';exact hy.1
   have S0:=ae.below HB.o;have S:w.cell? ⟨b,P+k*2+1,none⟩=some vs:=R;have D:=S0.cell D;have R:=S0.cell R;clear S0;obtain⟨p,hp⟩:=ex (l[k]);rw[<-hp]at D Q F H;obtain⟨p0,p1⟩:=p;simp only[]at D R Q F H;have a:=I1 l k G p0 p1;have I:=λwx=>JO L p0 wx (by omega);obtain⟨z1,J⟩:=ex (dK p0);simp only[<-J]at I a;have HP:=jj hp;have HL:=jj a;clear J hp a;have U:∀{f:Int},dq (l.take k) ⟨p0,p1⟩=f->f≠0->dZ dq [] l=f:=λQ F=>fB G HF.o (by rw[<-HP.o];exact Q) F;have HG:Hid (dq (l.take k) ⟨p0,p1⟩=0->∀j (_:j<k+1) (h':j<l.length),dq (l.take j) l[j]=0):=λh=>fC HF.o G (by rw[<-HP.o];exact h);have T:Hid _:=@U;clear U;have q1:=I wr;clear I;cases z1 with
   |false=>have B:=T.o (HL.o.trans rfl:_=(4:Int)) (by decide);have HV:=jj B;clear B;go_wp2_with (go_at_call 111;refine q1.mono ?_;rintro e w3 ⟨rfl,M⟩);go_ret;exact⟨by rw[HV.o];rfl,HB.o.trans (M.mono HB.o.size)⟩
   |true=>
    (go_upto_block 2 with((go_at_call 111;refine q1.mono ?_;rintro e w3 ⟨rfl,M⟩)));have an:Hid (xv w w3):=HB.o.trans (M.mono HB.o.size);have D:=(ae.below M).cell D;clear M q1;go_wp2;go_loopw [4] (λs wi=>∃j:Nat,j<=k/\s=.i j/\(∀i (_:i<j) (h':i<l.length),l[i].name≠p0)/\ae w3 wi/\xv w wi) (λs _=>k-(intOf s).toNat);case atStart=>exact⟨0,UP _,rfl,λj h=>absurd h (UX _),ae.refl _,an.o⟩
    case round=>
     (obtain⟨j,hj,rfl,N,A,n⟩:=hrel;have HN:=jj N;have HI:Hid _:=(⟨A,n⟩:_/\xv w wr));have y1:=A.cell D;have y2:=(ae.below n).cell S;clear N;obtain hjk|hjk:=UK j k
     .have y0:=(ae.below n).cell (HR.o j (by omega));(obtain⟨r,X⟩:=ex (l[j].name);rw[<-X]at y0;have l0:∀x:al w wr,x.val.cell? ⟨b,P+j*2,none⟩=some (.string r):=λx=>x.st.cell y0;have l1:∀x:al w wr,x.val.cell? ⟨b,P+k*2,none⟩=some (.string p0):=λx=>x.st.cell y1;obtain⟨d,hd⟩:=ex (decide (r=p0));have Y:=ky r p0;rw[<-hd]at Y;have HD:=jj hd;have O:=jj X;clear hd;clear X A n;go_upto_region 11 with fail;refine aQ (w0:=w) (w1:=wr) (by kernel_rfl) (by kernel_rfl) (ae.refl _) HI.o.2 ?_;haveI ar:Nonempty (al w wr):=⟨⟨wr,ae.refl _,HI.o.2⟩⟩);(repeat (go_big_quiet_step (fail)));(refine wpQuiet_nil ?_;rintro wz ⟨⟨_,Sz,Bz⟩,rfl⟩;have HZ:Hid _:=(⟨HI.o.1.trans Sz,Bz⟩:_/\_));clear l0 l1 ar Sz Bz y0 y1 y2;cases d with|true=>have he:r=p0:=Vl HD.o.symm;have B:=T.o (HL.o.trans (by rw[UG (by simp),UH];rw[VO];exact⟨l[j],X3.2 ⟨j,by omega,rfl⟩,UQ (O.o▸he)⟩):_=(5:Int)) (by decide);have HV:=jj B;clear Y he B;go_wp2;go_ret;exact⟨by rw[HV.o];rfl,HZ.o.2⟩|false=>(have he:r≠p0:=XR HD.o.symm;have ad:∀i (_:i<j+1) (h':i<l.length),l[i].name≠p0:=λi Q F=>by obtain h3|h3:=UK i j;exact HN.o i h3 F;(have:i=j:=by omega);subst this;exact O.o▸he);have ax:=jj ad;clear Y he ad;go_wp2;exact⟨⟨j+1,by omega,by go_num,ax.o,HZ.o.1,HZ.o.2⟩,by simp[intOf];omega⟩
     (have ay:j=k:=by omega);(subst ay;have V:(l.take j).any (λq=>decide (q.name=p0))=false:=F4.2 λi Q F=>UN (HN.o i Q F);have HA:Hid (dq (l.take j) ⟨p0,p1⟩=aI 0 5 eh p1):=by rw[Hid,HL.o,V];rfl);(have H:=H.stays (ae.below n) λx y o z e h=>by subst e;exact⟨(ae.below n).cell h.1,(ae.below n).cell h.2⟩);obtain⟨a7,cs,rfl,a8,ba,_,E⟩:=H;have aK:=jj E;clear V A n E;by_cases h5:5<p1.length
     ·(have g5:(5:Int)<(p1.length:Int):=by omega);have B:=T.o (HA.o.trans (by unfold aI aq;rw[UN (p:=(p1.length:Int)<=5) (by omega),WH];rfl):_=(2:Int)) (by decide);have HV:=jj B;clear B;go_wp2;go_ret;exact⟨by rw[HV.o];rfl,HI.o.2⟩
     have g5:decide ((5:Int)<(p1.length:Int))=false:=UN (by omega);(have e5:aI 0 5 eh p1=dZ eh [] p1:=by unfold aI aq;rw[UQ (by omega),UQ (by omega)];rfl);have af:Hid _:=HA.o.trans e5;clear e5
     (go_upto_block 4 with fail);go_wp2;go_loopw [5] (λs wi=>∃m:Nat,m<=p1.length/\s=.i m/\(∀i (_:i<m) (h':i<p1.length),eh (p1.take i) p1[i]=0)/\ae wr wi/\xv w wi) (λs _=>p1.length-(intOf s).toNat);case atStart=>exact⟨0,UP _,rfl,λj h=>absurd h (UX _),ae.refl _,HI.o.2⟩
     case round=>
      (obtain⟨m,hm,rfl,N,A,n⟩:=hrel;have Z:=jj N;have ag:Hid _:=(⟨A,n⟩:_/\xv w wr));have y3:=A.cell y2;clear N;obtain hmk|hmk:=UK m p1.length
      .obtain⟨b2,o2,rfl,u1,u2⟩:=aK.o m hmk;(obtain⟨k1,k2⟩:=F p1[m] (US hmk);have u1:=A.cell u1;have u2:=A.cell u2;have a:eh (p1.take m) p1[m]=if !aZ p1[m].1 1 3|| !aZ p1[m].2 0 p1[m].1.size then 3 else 0:=rfl);obtain⟨r,X⟩:=ex (p1[m]);rw[<-X]at u1 u2 k1 k2 a;obtain⟨r0,r1⟩:=r;simp only[]at u1 u2 k1 k2 a;have qa:=λwx=>nC L r0 1 3 wx (by omega);have qb:=λwx=>nC L r1 0 r0.size wx (by omega);obtain⟨z1,J⟩:=ex (aZ r0 1 3);obtain⟨z2,S⟩:=ex (aZ r1 0 r0.size);simp only[<-J]at qa a;simp only[<-S]at qb a;have O:=jj X;have aa:=jj a;have S2:Hid _:=ae.alloc wr (.cells #[.string r0,.string r1] 51);have B2:Hid _:=n.alloc n.size (.cells #[.string r0,.string r1] 51);clear J S X a A n;have ak:∀{f:Int},eh (p1.take m) (r0,r1)=f->f≠0->dZ dq [] l=f:=λQ F=>T.o (af.o.trans (fB hmk Z.o (by rw[<-O.o];exact Q) F)) F;have W:Hid _:=@ak;have aM:Hid (eh (p1.take m) (r0,r1)=0->∀i (_:i<m+1) (h':i<p1.length),eh (p1.take i) p1[i]=0):=λh=>fC Z.o hmk (by rw[<-O.o];exact h);clear ak;cases z1 with|false=>have B:=W.o (aa.o.trans rfl:_=(3:Int)) (by decide);have HV:=jj B;clear B;go_wp2_with (go_at_call 61;refine(qa _).mono ?_;rintro e w' ⟨rfl,u⟩;rw[u];clear u);go_ret;exact⟨by rw[HV.o];rfl,B2.o⟩|true=>cases z2 with|false=>have B:=W.o (aa.o.trans rfl:_=(3:Int)) (by decide);have HV:=jj B;clear B;go_wp2_with (go_at_call 61;first|(refine(qa _).mono ?_;rintro e w' ⟨rfl,u⟩;rw[u];clear u)|(refine(qb _).mono ?_;rintro e w' ⟨rfl,u⟩;rw[u];clear u));go_ret;exact⟨by rw[HV.o];rfl,B2.o⟩|true=>have B:=aM.o (aa.o.trans rfl);have HV:=jj B;clear B;go_wp2_with (go_at_call 61;first|(refine(qa _).mono ?_;rintro e w' ⟨rfl,u⟩;rw[u];clear u)|(refine(qb _).mono ?_;rintro e w' ⟨rfl,u⟩;rw[u];clear u));exact⟨⟨m+1,by omega,by go_num,HV.o,ag.o.1.trans S2.o,B2.o⟩,by simp[intOf];omega⟩
      (have aR:m=p1.length:=by omega);subst aR;have B:=HG.o (af.o.trans (fj λi h=>Z.o i h h));have HV:=jj B;clear B A n;go_wp2;exact⟨⟨j+1,by omega,by go_num,HV.o,ag.o.2⟩,by simp[intOf];omega⟩
  go_wp2;go_ret;exact⟨by rw[fj λj h=>HF.o j (by omega) h];rfl,HB.o⟩
end Go.Proofs
namespace Go.Proofs
open Go.Tm Go.RowKit
section
variable (fs:Array Func)
def jf(t):(Qs fs).fieldsOf t=Tryz.prog.fieldsOf t:=by unfold Program.fieldsOf;rw[aJ]
def PQ{t}(h:Tryz.prog.eqGuardType Tryz.prog.depth t=false):(Qs fs).eqGuardType (Qs fs).depth t=false:=by rw[mY,show(Qs fs).depth=Tryz.prog.depth from rfl];exact h
def si{t}(h:Tryz.prog.stoodInHeld t=false):(Qs fs).stoodInHeld t=false:=by rw[eM];exact h
def oP{t l}(h:Tryz.prog.underlying t=some (.struct l)):(Qs fs).underlying t=some (.struct ((Qs fs).fieldsOf t)):=by rw[jf,aJ];unfold Program.fieldsOf;rw[h]
def wO:Tryz.prog.eqGuardType Tryz.prog.depth 86=false:=by kernel_rfl
def Ju:Tryz.prog.stoodInHeld 86=false:=by kernel_rfl
def PR:Tryz.prog.eqGuardType Tryz.prog.depth 66=false:=by kernel_rfl
def PT:Tryz.prog.stoodInHeld 66=false:=by kernel_rfl
def PU:Tryz.prog.eqGuardType Tryz.prog.depth 96=false:=by kernel_rfl
def PV:Tryz.prog.stoodInHeld 96=false:=by kernel_rfl
def Eh(a b c x y z w):(binOp .eql 86 (.agg #[.i a,.i b,.i c]) (.agg #[.i x,.i y,.i z])).run (Qs fs) w=.ok (.bool (decide (a=x/\b=y/\c=z))) w:=by rw[run_eql_struct,run_equalIn_struct w _ 86 _ _ (oP fs Tryz.underlying86) (si fs Ju),jf,Program.fieldsOf,Tryz.underlying86];simp[go_sem];by_cases d:a=x<;>by_cases e:b=y<;>by_cases f:c=z<;>simp[d,e,f]
def Ao(a b c x y z w):(binOp .neq 86 (.agg #[.i a,.i b,.i c]) (.agg #[.i x,.i y,.i z])).run (Qs fs) w=.ok (.bool (!decide (a=x/\b=y/\c=z))) w:=by rw[run_neq_struct,run_equalIn_struct w _ 86 _ _ (oP fs Tryz.underlying86) (si fs Ju),jf,Program.fieldsOf,Tryz.underlying86];simp[go_sem];by_cases d:a=x<;>by_cases e:b=y<;>by_cases f:c=z<;>simp[d,e,f]
def Kh(a b c x y z w):(binOp .neq 66 (.agg #[.i a,.i b,.i c]) (.agg #[.i x,.i y,.i z])).run (Qs fs) w=.ok (.bool (!decide (a=x/\b=y/\c=z))) w:=by rw[run_neq_struct,run_equalIn_struct w _ 66 _ _ (oP fs Tryz.underlying66) (si fs PT),jf,Program.fieldsOf,Tryz.underlying66];simp[go_sem];by_cases d:a=x<;>by_cases e:b=y<;>by_cases f:c=z<;>simp[d,e,f]
def Ki(a b c x y z w):(binOp .neq 96 (.agg #[.i a,.i b,.int .u8 c]) (.agg #[.i x,.i y,.int .u8 z])).run (Qs fs) w=.ok (.bool (!decide (a=x/\b=y/\c=z))) w:=by rw[run_neq_struct,run_equalIn_struct w _ 96 _ _ (oP fs Tryz.underlying96) (si fs PV),jf,Program.fieldsOf,Tryz.underlying96];simp[go_sem];by_cases d:a=x<;>by_cases e:b=y<;>by_cases f:c=z<;>simp[d,e,f]
def jg{t}(h:Tryz.prog.eqGuardType Tryz.prog.depth t=false)(a x y xs b w):(eqGuard a t x y (.agg xs) (.agg b)).run (Qs fs) w=.ok () w:=run_eqGuard_agg w a t x y xs b (PQ fs h)
end
def Nh{s:Array Bool}{i k}(h:(s.setIfInBounds i true).getD k false=true):k=i\/s.getD k false=true:=by by_cases e:k=i;exact .inl e;right;rw[VG,UU (U4 e)]at h;rw[VG];exact h
def aN{s:Array Bool}{i k}(h:(s.setIfInBounds i true).getD k false=true)(a:k≠i):s.getD k false=true:=(Nh h).resolve_left a
section
variable {P:Program} {md:Region.Mode} {ops:Array Oper} {Q:Exit->Act->x6->Prop} {I:Array Bool->Act->x6->Prop}
theorem kO(c:∀s a w i,I s a w->i∈Region.ready md ops s->wpOp P ops Q i (λl w'=>I (s.setIfInBounds i true) l w') a w) (d:∀s a w,I s a w->Region.ready md ops s=[]->Q .normal a w):∀(f) (s) (a) (w),s.toList.count false<=f->I s a w->wpAny P md ops Q f s a w
 |0,s,a,w,r,h=>by
  have o:Region.ready md ops s=[]:=by
   rw[List.eq_nil_iff_forall_not_mem];intro i k;obtain⟨e,_⟩:=mem_ready.1 k;have:false∈s.toList:=by
    rw[VG]at e;cases m:s[i]? with
    |none=>rw[m]at e;cases e
    |some b=>rw[m]at e;have n:b=false:=e;subst n;exact VC (by rw[VM];exact m)
   have:=List.count_pos_iff.2 this;omega
  exact⟨o,d s a w h o⟩
 |f+1,s,a,w,r,h=>by
  refine⟨d s a w h,λi k=>wpOp_mono (λl w' t=>kO c d f _ l w' ?_ t) (c s a w i h k)⟩;obtain⟨e,_⟩:=mem_ready.1 k;rw[VG]at e;have g:i<s.size:=by
   obtain h|h:=UK i s.size
   .exact h
   .rw[Wk h]at e;cases e
  rw[Va g]at e;have n:s[i]=false:=e;have p:i<s.toList.length:=by simpa using g
  have j:s.toList[i]=false:=by rw[Yb];exact n
  rw[YH];have q:=List.count_set (a:=true) (b:=false) p;rw[j]at q;have u:0<s.toList.count false:=List.count_pos_iff.2 (j▸US p);simp only[beq_self_eq_true,UW,VK,show(true==false)=false from rfl,U7,U5]at q;omega
def Tv(ops:Array Oper):Bool:=(List.range ops.size).all λk=>match ops[k]? with
 |some o=>o.after.all λe=>decide (e.on<k)
 |none=>true
theorem ED{s}(a:s.size=ops.size)(d:Tv ops=true)(f:Region.ready md ops s=[]):∀(n k),k<n->k<ops.size->s.getD k false=true
 |0,k,h,_=>absurd h (UX _)
 |n+1,k,h,b=>by
  cases g:s.getD k false with
  |true=>rfl
  |false=>
   exfalso;have c:k<s.size:=by omega
   have l:s.getD k true=false:=by rw[VG,Va c]at g⊢;exact g
   have i:k∈Region.ready md ops s:=mem_ready.2 ⟨l,ops[k],Va b,λe m _=>by have j:=Vp.1 d k (Xv.2 b);rw[Va b]at j;have o:=WJ.1 j e m;have p:e.on<k:=Vl o;exact ED a d f n e.on (by omega) (by omega)⟩
   rw[f]at i;cases i
end
def bl{s:Array Bool}{i k}(h:s.getD k false=true):(s.setIfInBounds i true).getD k false=true:=by rw[VG]at h⊢;by_cases e:k=i;subst e;(have a:k<s.size:=by obtain h'|h':=UK k s.size;exact h';rw[Wk h']at h;cases h);rw[XU a];rfl;rw[UU (U4 e)];exact h
def fZ{s:Array Bool}{k}(h:s.getD k true=false):s.getD k false≠true:=by rw[VG]at h⊢;cases a:s[k]? with|none=>rw[a]at h;cases h|some b=>rw[a]at h;have:b=false:=h;subst this;simp
def gu(w1 W:x6)(ty:TypeId)(X:Nat):Prop:=w1.heap.size<=X/\∃c,W.heap[X]? =some (.cells #[.string c] ty (0,0))
def gu.new{w1 W:x6}{ty}(h:w1.heap.size<=W.heap.size)(c):gu w1 (W.alloc (.cells #[.string c] ty)) ty W.heap.size:=⟨h,c,Vm⟩
def gu.stays{w1 W a ty X}(h:gu w1 W ty X)(b:ae W a):gu w1 a ty X:=⟨h.1,h.2.elim λc d=>⟨c,b _ _ _ _ d⟩⟩
def gu.lt{w1 W ty X}(h:gu w1 W ty X):X<W.heap.size:=h.2.elim λc a=>(UO.1 a).1
def gu.cell{w1 W ty X}(h:gu w1 W ty X):∃v,W.cell? ⟨X,0,none⟩=some (.string v):=h.2.elim λc a=>⟨c,cell_of_heap a 0 _ rfl⟩
def gu.frozen{w1 W ty X}(h:gu w1 W ty X):W.frozen? ⟨X,0,none⟩=false:=h.2.elim λc a=>frozen_of_heap a 0
def gu.set{w1 W ty X}(h:gu w1 W ty X){v}:gu w1 (W.setCell ⟨X,0,none⟩ (.string v)) ty X:=by (obtain⟨a,c,b⟩:=h;refine⟨a,v,?_⟩;have d:(W.heap.modify X λo=>match o with| .cells c e F=>.cells (c.setIfInBounds 0 (.string v)) e F|o=>o)[X]? =some (.cells #[.string v] ty (0,0)):=by rw[VF,b];simp);exact d
def gu.other{w1 W ty X Y}(h:gu w1 W ty Y)(a:Y≠X){v}:gu w1 (W.setCell ⟨X,0,none⟩ v) ty Y:=⟨h.1,h.2.elim λc b=>⟨c,(Below.heap_setCell W ⟨X,0,none⟩ v Y a).trans b⟩⟩
end Go.Proofs
namespace Go.Proofs
open Go.Shelf Go.Tm
def tW:Go.Shelf.Ren:=⟨λ|150=>135|153=>165|152=>175|226=>176|227=>177|228=>178|137=>193|119=>194|224=>195|225=>196|217=>207|266=>211|155=>139|154=>166|138=>179|165=>180|143=>181|166=>94|197=>182|169=>95|195=>197|218=>198|240=>134|241=>199|219=>200|260=>201|276=>164|277=>208|267=>209|314=>212|n=>n,λ|117=>241|116=>240|46=>215|124=>257|72=>153|76=>158|105=>243|70=>151|37=>120|75=>157|127=>203|164=>210|119=>265|139=>268|138=>267|146=>272|51=>193|80=>160|n=>n,λ|1=>2|n=>n⟩
def j7{fs:Array Func}(L:bR fs):Lays.n150 (Qs fs) tW/\Lays.n138 (Qs fs) tW/\Lays.n165 (Qs fs) tW:=by
 refine⟨?_,?_,?_⟩<;>constructor;all_goals first
  |(intro w;first|with_reducible refine(BO _ _ _ w).trans ?_|with_reducible refine(xa _ _ _ w).trans ?_|with_reducible refine(jF _ _ _ w).trans ?_);rfl
  |(with_reducible refine(aJ _ _ _).trans ?_);kernel_rfl
  |exact(L.1 _ (by decide) (by decide)).trans (by kernel_rfl)
  |kernel_rfl
end Go.Proofs
namespace Go.Proofs
open Go.Tm
variable {fs:Array Func} (L:bR fs)
def en(b:Bool)(f:Int)(w:x6):ap fs 52 #[.bool b,.int .i64 f] w (.i (if b then f else 0)):=by go_enter (n52 L),Tryz.ntmps52;go_wp2;all_goals (go_ret;simp_all)
def iJ:List Int->Int
 | []=>0
 |f::l=>if f≠0 then f else iJ l
def sH(a:List Int)(k)(b:k<a.length):iJ (a.drop k)=if a.getD k 0≠0 then a.getD k 0 else iJ (a.drop (k+1)):=by rw[WW b];simp[iJ,Xt,Vb b]
open Go.RowKit in
def Cn(b f c:Nat)(zs:List Int)(w:x6)(n:zs.length<=9223372036854775807)(l:∀k,k<zs.length->w.cell? ⟨b,f+k,none⟩=some (.i (zs.getD k 0))):ap fs 51 #[.slice (some ⟨b,f,none⟩) zs.length c] w (.i (iJ zs)):=by
 go_enter (n51 L),Tryz.ntmps51;go_wp2
 go_loop [7] (λi=>∃k:Nat,k<=zs.length/\i=.i k/\iJ zs=iJ (zs.drop k)) (λi=>zs.length-(intOf i).toNat)
 case atStart=>exact⟨0,UP _,rfl,rfl⟩
 case round=>
  obtain⟨k,o,rfl,g⟩:=hrel;have j:k<zs.length->w.cell? ⟨b,f+k,none⟩=some (.i (zs.getD k 0)):=λh=>l k h;go_wp2
  ·(have a:k<zs.length:=by assumption);(have d:(zs[k]!=0)=true:=by assumption);(go_ret;refine⟨?_,rfl⟩;try rw[g]);rw[sH zs k a];simp only[WO]at d;simp[Xt,Vb a,d]
  have a:k<zs.length:=by assumption
  have d:(zs[k]!=0)=false:=by assumption
  refine⟨⟨k+1,by omega,by go_num,?_⟩,by simp[intOf];omega⟩;rw[g,sH zs k a];simp only[bne_eq_false_iff_eq]at d;simp[Xt,Vb a,d];have m:¬k<zs.length:=by assumption
  go_ret;refine⟨?_,rfl⟩;try rw[g]
  rw[Vn (by omega)];rfl
end Go.Proofs
namespace Go.Proofs
def pH(X Y:Nat->Nat)(k:Nat):Nat:=((List.range k).map λn=>min (X n) (Y n)).sum
def lJ(X Y k):pH X Y (k+1)=pH X Y k+min (X k) (Y k):=by unfold pH;rw[Xq,WN,List.sum_append];simp
theorem pI{X Y Z}:∀{k},(∀n,n<k->Y n=Z n)->pH X Y k=pH X Z k
 |0,_=>rfl
 |k+1,h=>by rw[lJ,lJ,pI λn a=>h n (by omega),h k (by omega)]
theorem yR(X Y h):∀k,h<k->pH X (λn=>if n=h then Y n+1 else Y n) k=pH X Y k+if Y h<X h then 1 else 0
 |0,a=>by omega
 |k+1,a=>by
  rw[lJ,lJ];by_cases e:h=k
  .subst e
   rw[pI (Z:=Y) λn b=>UG (by omega)];simp only[UW];split<;>omega
  .rw[yR X Y h k (by omega),UG (U4 e)]
   omega
theorem yS(X):∀k,pH X (λ_=>0) k=0
 |0=>rfl
 |k+1=>by rw[lJ,yS X k];simp
def I4(a b):(b.filter λn=>a.contains n).length+(bw b a).length=b.length:=by unfold bw;induction b with|nil=>rfl|cons x b c=>rw[V9,V9];cases a.contains x<;>simp only[Wx,XT,UW,U7,U5,UM]<;>omega
def Dt{a b:List Int}(c:a.Nodup)(d:b.Nodup):(a.filter λn=>b.contains n).length=(b.filter λn=>a.contains n).length:=by (have h:(a.filter λn=>b.contains n).Perm (b.filter λn=>a.contains n):=(YM (c.filter _) (d.filter _)).2 λx=>by rw[WX,WX];simp[and_comm]);exact h.length_eq
def JQ(x y k):od x y k=pH (λn=>aO x n) (λn=>aO y n) k:=rfl
def pJ(l x n):aO (l++[x]) n=aO l n+if x/100=n then 1 else 0:=by unfold aO;rw[WU,U6];congr 1;by_cases h:x/100=n;rw[UH h,V9];simp[h];rw[UG h,V9];simp[h]
end Go.Proofs

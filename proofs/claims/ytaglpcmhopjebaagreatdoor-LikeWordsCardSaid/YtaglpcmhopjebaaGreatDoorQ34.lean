import Derived.Maps.RangeWalk
import Derived.Test.YtaglpcmhopjebaaGreatDoorQ32
import Derived.Test.YtaglpcmhopjebaaGreatDoorQ33
set_option linter.all false
set_option maxRecDepth 100000
set_option maxHeartbeats 20000000
namespace Go.Proofs
open Go.Tm Go.RowKit
variable {fs:Array Func} (L:bU fs)
theorem xC{c}{chk:List c->c->Int}:∀{seen l:List c},eY chk seen l=0->∀j (b:j<l.length),chk (seen++l.take j) l[j]=0
 |seen,[],_,j,b=>absurd b (Sm _)
 |seen,x::xs,h,j,b=>by
  unfold eY at h;by_cases a:chk seen x≠0
  ·rw[RZ a]at h
   exact absurd h a
  ·rw[RY a]at h
   have a:chk seen x=0:=by omega
   cases j with
   |zero=>simpa using a
   |succ j=>have:=xC h j (by simpa using b);simpa using this
def kO{a}{b c}{chk:List a->a->Int}{l:List a}(h:aP b c chk l=0):(b<=l.length/\(l.length:Int)<=c)/\∀j (d:j<l.length),chk (l.take j) l[j]=0:=by
 unfold aP aD at h;split at h
 ·rename_i e
  simp only[Sf,Sq]at e;exact⟨e,λj d=>by simpa using xC h j d⟩
 ·cases h
def xD{a}{c b}{chk:List a->a->Int}{l:List a}(h:aP c b chk l=0){x}(d:x∈l):∃seen,chk seen x=0:=by obtain⟨i,b,rfl⟩:=T3 d;exact⟨_,(kO h).2 i b⟩
def lS{s a hi}(h:aX s a hi=true):a<=s.size/\(s.size:Int)<=hi:=by unfold aX aD at h;simp only[Sf,Sq]at h;exact h.1
def BJ{t}(h:bH t=0):aP 0 12 letterF t.au=0/\aP 0 3 da t.az=0/\aP 0 4 fY t.bl=0:=by
 unfold bH at h;simp only[]at h;split at h
 ·rename_i a;exact absurd h a
 ·rename_i b
  split at h
  ·rename_i a;exact absurd h a
  ·rename_i c
   exact⟨by simpa using b,by simpa using c,h⟩
def BK{t}(h:bH t=0):OkT t:=by
 obtain⟨i,j,k⟩:=BJ h;have l:=(kO i).1;have m:=(kO j).1;have n:=(kO k).1;have a:∀x∈t.az,aP 0 5 dQ x.aT=0:=λx b=>by
  obtain⟨seen,e⟩:=xD j b;unfold da at e;split at e
  ·cases e
  ·split at e
   ·cases e
   ·exact e
 refine⟨λp d=>?_,by omega,λx b p d=>?_,λx b=>?_,by omega,by omega⟩
 ·obtain⟨seen,e⟩:=xD i d
  unfold letterF at e;split at e
  ·cases e
  ·rename_i c
   split at e
   ·cases e
   ·split at e
    ·cases e
    ·rename_i f
     have f:=lS (by simpa using f);have c:bD p.1 4=true:=by simpa using c
     unfold bD aD at c;simp only[Sf,Sq]at c;omega
 ·obtain⟨seen,e⟩:=xD (a x b) d
  unfold dQ at e;split at e
  ·cases e
  ·rename_i g
   simp only[Bool.not_eq_eq_eq_not,TD,TP,not_or,UL,ne_eq,Decidable.not_not]at g;have c:=lS g.1;have f:=lS g.2;omega
 ·have:=(kO (a x b)).1
  omega
def fL(t:Table)(s:ByteArray):Int:=if bH t≠0 then bH t else if 16<s.size then 2 else 0
def uf(t:Table)(s:ByteArray):ByteArray:=if fL t s=0 then bs (aQ t.au s.data.toList)else⟨#[]⟩
def dU(t:Table)(k:Int)(s:ByteArray):Int:=if bH t≠0 then bH t else if !aD k 0 ((t.az.length:Int)-1)then 6 else if 16<s.size then 2 else 0
def nf(t:Table)(k:Int)(s:ByteArray):ByteArray:=if dU t k s=0 then bs (bt t k.toNat s.data.toList)else⟨#[]⟩
def ED{t s}(h:fL t s=0):bH t=0/\s.size<=16:=by
 unfold fL at h;split at h
 ·rename_i a;exact absurd h a
 ·rename_i b
  split at h
  ·cases h
  ·exact⟨by simpa using b,by omega⟩
def BL{t k s}(h:dU t k s=0):bH t=0/\(0<=k/\k<t.az.length)/\s.size<=16:=by
 unfold dU at h;split at h
 ·rename_i b;exact absurd h b
 ·rename_i c
  split at h
  ·cases h
  ·rename_i a
   split at h
   ·cases h
   ·unfold aD at a
    simp only[Bool.not_eq_eq_eq_not,TD,Bool.not_eq_false,Sf,Sq]at a;exact⟨by simpa using c,by omega,by omega⟩
def OC{K:Nat->Prop}{v0 v1 v2:Value}{t:Table}(s:ByteArray)(w:World)(l:IsTable K w v0 v1 v2 t):
 Calls (Qs fs) 18 #[.agg #[v0,v1,v2],.string s] w λe w'=>e=.returned (.tuple #[.string (uf t s),.int .i64 (fL t s)])/\Below w.heap.size w w':=by
 by_cases c:fL t s=0
 ·obtain⟨r,C⟩:=ED c
  have e:uf t s=bs (aQ t.au s.data.toList):=RZ c;rw[e,c];exact Mx L s w l (BK r).lets r C
 have e20:=e20 L;have e51:=e51 L;have e52:=e52 L;have u:uf t s=⟨#[]⟩:=RY c;rw[u];obtain⟨w1,a⟩:=ex (w.alloc (.cells #[v0,v1,v2] 26));have x:ae w w1:=by rw[a];exact ae.alloc _ _
 have y:Below w.heap.size w w1:=by rw[a];exact aG _ _
 have ct:∀i v,(#[v0,v1,v2]:Array Value)[i]? =some v->w1.cell? ⟨w.heap.size,i,none⟩=some v:=λi v h=>by rw[a];exact aw w _ 26 i v h
 have j:=eD L w1 (l.stays x);obtain⟨m,d⟩:=ex (bH t);obtain⟨z,f⟩:=ex (decide ((16:Int)<(s.size:Int)));have n:=λo=>dz L z 2 o;have g:=λo=>cJ L m (if z=true then 2 else 0) o;have k:(if m≠0 then m else if z=true then 2 else 0)=fL t s:=by
  rw[f,d];unfold fL;by_cases h:16<s.size
  ·rw[Sd (by omega),RZ h];rfl
  ·rw[R8 (by omega),RY h];rfl
 simp only[k]at g;obtain⟨D,b⟩:=ex (fL t s);rw[<-d]at j;rw[<-b]at c⊢;simp only[<-b]at g;have E:(D !=0)=true:=by simpa using c
 obtain⟨N,p⟩:=ex (w.heap.size);rw[<-p]at ct;have F:=ct 0 _ rfl;have G:=ct 1 _ rfl;have H:=ct 2 _ rfl;have A:Hid _:=y;replace f:=f.symm;clear l x y ct d b c u k;go_enter (n18 L),Tryz.ntmps18;go_upto_region 1 with fail;rw[<-a,<-p];clear a p;go_wp2_with (first|(go_at_call 20;refine j.mono ?_;rintro e w2 ⟨rfl,q⟩)|(go_at_call 52;refine(n _).mono ?_;rintro e w3 ⟨rfl,rfl⟩)|(go_at_call 51;refine(g _).mono ?_;rintro e w4 ⟨rfl,rfl⟩))
 all_goals (
  go_ret2
  have B:=A.out.trans (q.mono A.out.size);exact⟨rfl,B.alloc B.size _⟩)
def OD{K:Nat->Prop}{v0 v1 v2:Value}{t:Table}(s:ByteArray)(w:World)(l:IsTable K w v0 v1 v2 t)(u:oH t):
 Calls (Qs fs) 19 #[.agg #[v0,v1,v2],.string s] w λe w'=>e=.returned (.tuple #[.string (uf t s),.int .i64 (fL t s)])/\Below w.heap.size w w':=by
 have e21:=e21 L;have e54:=e54 L;obtain⟨w1,a⟩:=ex (w.alloc (.cells #[v0,v1,v2] 26));have m:ae w w1:=by rw[a];exact ae.alloc _ _
 have r:Below w.heap.size w w1:=by rw[a];exact aG _ _
 have ct:∀i v,(#[v0,v1,v2]:Array Value)[i]? =some v->w1.cell? ⟨w.heap.size,i,none⟩=some v:=λi v h=>by rw[a];exact aw w _ 26 i v h
 have c:=lR L w1 (l.stays m) u;obtain⟨N,j⟩:=ex (w.heap.size);rw[<-j]at ct;have A:=ct 0 _ rfl;have B:=ct 1 _ rfl;have C:=ct 2 _ rfl;have k:Hid _:=r;by_cases d:bH t=0
 ·rw[d]at c
  by_cases D:16<s.size
  ·have x:(16:Int)<(s.size:Int):=by omega
   have e1:fL t s=2:=by unfold fL;rw[RY (by simpa using d),RZ D]
   have g:uf t s=⟨#[]⟩:=RY (by rw[e1];decide);rw[e1,g];clear l d m r ct e1 g;go_enter (n19 L),Tryz.ntmps19;go_upto_region 1 with fail;rw[<-a,<-j];clear a j;go_wp2_with (first|(go_at_call 21;refine c.mono ?_;rintro e w2 ⟨rfl,b⟩))
   go_ret2
   exact⟨rfl,k.out.trans (b.mono k.out.size)⟩
  ·have x:decide ((16:Int)<(s.size:Int))=false:=R8 (by omega)
   have e1:fL t s=0:=by unfold fL;rw[RY (by simpa using d),RY D]
   have g:uf t s=bs (aQ t.au s.data.toList):=RZ e1;rw[e1,g];have n:=λE (h:ae w1 E)=>uW L s E (l.stays (m.trans h)) (BK d) (by omega);clear l d m r ct e1 g;go_enter (n19 L),Tryz.ntmps19;go_upto_region 1 with fail;rw[<-a,<-j];clear a j;go_upto_region 2 with(first|(go_at_call 21;refine c.mono ?_;rintro e w2 ⟨rfl,b⟩))
   have o:=ae.below b;have q:=n w2 o;have A:=o.cell A;have B:=o.cell B;have C:=o.cell C;have p:Hid (Below w.heap.size w w2):=k.out.trans (b.mono k.out.size);clear c n o b;go_wp2_with (first|(go_at_call 54;refine q.mono ?_;rintro e G ⟨rfl,y⟩))
   go_ret2
   exact⟨rfl,p.out.trans (y.mono p.out.size)⟩
 ·have z:(bH t !=0)=true:=by simpa using d
  have e1:fL t s=bH t:=by unfold fL;rw[RZ d]
  have g:uf t s=⟨#[]⟩:=RY (by rw[e1];exact d);rw[e1,g];obtain⟨f,F⟩:=ex (bH t);rw[<-F]at z c⊢;clear l d m r ct e1 g F;go_enter (n19 L),Tryz.ntmps19;go_upto_region 1 with fail;rw[<-a,<-j];clear a j;go_wp2_with (first|(go_at_call 21;refine c.mono ?_;rintro e w2 ⟨rfl,b⟩))
  go_ret2
  exact⟨rfl,k.out.trans (b.mono k.out.size)⟩
def MW{K:Nat->Prop}{v0 v1 v2:Value}{t:Table}(k:Int)(s:ByteArray)(w:World)(u:IsTable K w v0 v1 v2 t)(G:gJ w):
 Calls (Qs fs) 22 #[.agg #[v0,v1,v2],.int .i64 k,.string s] w λe w'=>e=.returned (.tuple #[.string (nf t k s),.int .i64 (dU t k s)])/\Below w.heap.size w w':=by
 by_cases j:dU t k s=0
 ·obtain⟨H,⟨T,U⟩,V⟩:=BL j
  have e:nf t k s=bs (bt t k.toNat s.data.toList):=RZ j;rw[e,j];have h:=Hw L k.toNat s w u (BK H) H V (by omega) G;rw[show((k.toNat:Nat):Int)=k by omega]at h;exact h
 have e20:=e20 L;have e51:=e51 L;have e52:=e52 L;have e63:=e63 L;have I:nf t k s=⟨#[]⟩:=RY j;rw[I];obtain⟨A,B,rfl,W,X,_⟩:=id u.2.1;obtain⟨w1,a⟩:=ex (w.alloc (.cells #[v0,.slice A t.az.length B,v2] 26));have J:ae w w1:=by rw[a];exact ae.alloc _ _
 have M:Below w.heap.size w w1:=by rw[a];exact aG _ _
 have ct:∀i v,(#[v0,.slice A t.az.length B,v2]:Array Value)[i]? =some v->w1.cell? ⟨w.heap.size,i,none⟩=some v:=λi v h=>by rw[a];exact aw w _ 26 i v h
 have Y:IntKind.i64.wrap ((t.az.length:Int)-1)=(t.az.length:Int)-1:=wrap_i64 _ (by omega);obtain⟨o,l⟩:=ex (bH t);obtain⟨z,m⟩:=ex (decide ((16:Int)<(s.size:Int)));obtain⟨y,C⟩:=ex (aD k 0 ((t.az.length:Int)-1));have p:∀x:aj w w1,Calls (Qs fs) 20 #[.agg #[v0,.slice A t.az.length B,v2]] x.val λe w'=>e=.returned (.int .i64 o)/\∃y:aj w w1,w'=y.val:=λx=>by have h:=eD L x.val (u.stays (J.trans x.st));rw[<-l]at h;exact aj.calls h
 have q:∀x:aj w w1,Calls (Qs fs) 63 #[.int .i64 k,.int .i64 0,.int .i64 ((t.az.length:Int)-1)] x.val λe w'=>e=.returned (.bool y)/\∃y:aj w w1,w'=y.val:=λx=>by have h:=dv fs (n63 L) k 0 ((t.az.length:Int)-1) x.val;rw[C];exact aj.same h
 have b:∀x:aj w w1,Calls (Qs fs) 52 #[.bool (!y),.int .i64 6] x.val λe w'=>e=.returned (.int .i64 (if(!y)=true then 6 else 0))/\∃y:aj w w1,w'=y.val:=λx=>aj.same (dz L (!y) 6 x.val);have c:∀x:aj w w1,Calls (Qs fs) 52 #[.bool z,.int .i64 2] x.val λe w'=>e=.returned (.int .i64 (if z=true then 2 else 0))/\∃y:aj w w1,w'=y.val:=λx=>aj.same (dz L z 2 x.val);have d:(if o≠0 then o else if(if(!y)=true then 6 else 0)≠(0:Int)then(if(!y)=true then 6 else 0)else(if z=true then 2 else 0))=dU t k s:=by
  rw[m,l,C];unfold dU;by_cases h:16<s.size
  ·rw[Sd (by omega),RZ h]
   cases aD k 0 ((t.az.length:Int)-1)<;>rfl
  ·rw[R8 (by omega),RY h]
   cases aD k 0 ((t.az.length:Int)-1)<;>rfl
 obtain⟨O,n⟩:∃f:Int,f=if(!y)=true then 6 else 0:=⟨_,rfl⟩
 obtain⟨fb,hfb⟩:∃f:Int,f=if z=true then 2 else 0:=⟨_,rfl⟩
 have r:=λZ=>vJ L o O fb Z;rw[<-n,<-hfb]at d;simp only[<-n]at b;simp only[<-hfb]at c;obtain⟨fl,g⟩:=ex (dU t k s);rw[<-g]at j⊢d;simp only[d]at r;have aa:(fl !=0)=true:=by simpa using j
 obtain⟨N,D⟩:=ex (w.heap.size);rw[<-D]at ct;have P:=ct 0 _ rfl;have Q:=ct 1 _ rfl;have R:=ct 2 _ rfl;have l0:=λx:aj w w1=>x.cell P;have l1:=λx:aj w w1=>x.cell Q;have l2:=λx:aj w w1=>x.cell R;have S:Hid _:=M;replace m:=m.symm;clear u J M ct G l g j I d C n hfb;go_enter (n22 L),Tryz.ntmps22;go_upto_region 1 with fail;rw[<-a,<-D];clear a D P Q R;refine aU (w0:=w) (w1:=w1) 14 (by kernel_rfl) (by kernel_rfl) (ae.refl _) S.out ?_;simp only[SN,SI,SZ,SP];haveI E:Nonempty (aj w w1):=⟨⟨w1,ae.refl _,S.out⟩⟩
 repeat (go_big_quiet_step (first|(go_at_call 20;exact p _)|(go_at_call 63;exact q _)|(go_at_call 52;first|exact b _|exact c _)))
 refine wpQuiet_nil ?_;rintro wy ⟨⟨_,Sy,F⟩,rfl⟩;have B4:Hid _:=F.alloc F.size (.cells #[.int .i64 o,.int .i64 O,.int .i64 fb] 29);clear p q b c Sy F l0 l1 l2 E;go_wp2_with (first|(go_at_call 51;refine(r _).mono ?_;rintro e w4 ⟨rfl,rfl⟩))
 go_ret2
 exact⟨rfl,B4.out⟩
def MY{K:Nat->Prop}{v0 v1 v2:Value}{t:Table}(k:Int)(s:ByteArray)(w:World)(u:IsTable K w v0 v1 v2 t)(E:oH t):
 Calls (Qs fs) 23 #[.agg #[v0,v1,v2],.int .i64 k,.string s] w λe w'=>e=.returned (.tuple #[.string (nf t k s),.int .i64 (dU t k s)])/\Below w.heap.size w w':=by
 have e21:=e21 L;have e60:=e60 L;have e65:=e65 L;obtain⟨I,J,rfl,P,Q,_⟩:=id u.2.1;obtain⟨w1,b⟩:=ex (w.alloc (.cells #[v0,.slice I t.az.length J,v2] 26));have y:ae w w1:=by rw[b];exact ae.alloc _ _
 have C:Below w.heap.size w w1:=by rw[b];exact aG _ _
 have ct:∀i v,(#[v0,.slice I t.az.length J,v2]:Array Value)[i]? =some v->w1.cell? ⟨w.heap.size,i,none⟩=some v:=λi v h=>by rw[b];exact aw w _ 26 i v h
 have R:IntKind.i64.wrap ((t.az.length:Int)-1)=(t.az.length:Int)-1:=wrap_i64 _ (by omega);have d:=lR L w1 (u.stays y) E;obtain⟨N,p⟩:=ex (w.heap.size);rw[<-p]at ct;have z:=ct 0 _ rfl;have A:=ct 1 _ rfl;have B:=ct 2 _ rfl;have r:Hid _:=C;have n:=λD=>Im L k 0 ((t.az.length:Int)-1) D;by_cases m:bH t=0
 ·rw[m]at d
  cases c:aD k 0 ((t.az.length:Int)-1)with
  |false=>
   have e1:dU t k s=6:=by unfold dU;rw[RY (by simpa using m),c];rfl
   have o:nf t k s=⟨#[]⟩:=RY (by rw[e1];decide);rw[e1,o];simp only[c]at n;clear u m y C ct e1 o c;go_enter (n23 L),Tryz.ntmps23;go_upto_region 1 with fail;rw[<-b,<-p];clear b p;go_upto_region 2 with(first|(go_at_call 21;refine d.mono ?_;rintro e w2 ⟨rfl,a⟩))
   have j:=ae.below a;have z:=j.cell z;have A:=j.cell A;have B:=j.cell B;have l:Hid (Below w.heap.size w w2):=r.out.trans (a.mono r.out.size);clear d j a;go_wp2_with (first|(go_at_call 60;refine(n _).mono ?_;rintro e w' ⟨rfl,g⟩;rw[g];clear g))
   go_ret2
   exact⟨rfl,l.out⟩
  |true=>
   simp only[c]at n;by_cases M:16<s.size
   ·have F:(16:Int)<(s.size:Int):=by omega
    have e1:dU t k s=2:=by unfold dU;rw[RY (by simpa using m),c,RY (by decide),RZ M]
    have o:nf t k s=⟨#[]⟩:=RY (by rw[e1];decide);rw[e1,o];clear u m y C ct e1 o c;go_enter (n23 L),Tryz.ntmps23;go_upto_region 1 with fail;rw[<-b,<-p];clear b p;go_upto_region 2 with(first|(go_at_call 21;refine d.mono ?_;rintro e w2 ⟨rfl,a⟩))
    have j:=ae.below a;have z:=j.cell z;have A:=j.cell A;have B:=j.cell B;have l:Hid (Below w.heap.size w w2):=r.out.trans (a.mono r.out.size);clear d j a;go_wp2_with (first|(go_at_call 60;refine(n _).mono ?_;rintro e w' ⟨rfl,g⟩;rw[g];clear g))
    go_ret2
    exact⟨rfl,l.out⟩
   ·have F:decide ((16:Int)<(s.size:Int))=false:=R8 (by omega)
    have e1:dU t k s=0:=by unfold dU;rw[RY (by simpa using m),c,RY (by decide),RY M]
    have o:nf t k s=bs (bt t k.toNat s.data.toList):=RZ e1;rw[e1,o];have S:0<=k/\k<t.az.length:=by unfold aD at c;simp only[Sf,Sq]at c;omega
    have x:=λD (h:ae w1 D)=>yA L k.toNat s D (u.stays (y.trans h)) (BK m) (by omega) (by omega);rw[show((k.toNat:Nat):Int)=k by omega]at x;clear u m y C ct e1 o c S;go_enter (n23 L),Tryz.ntmps23;go_upto_region 1 with fail;rw[<-b,<-p];clear b p;go_upto_region 2 with(first|(go_at_call 21;refine d.mono ?_;rintro e w2 ⟨rfl,a⟩))
    have j:=ae.below a;have q:=x w2 j;have z:=j.cell z;have A:=j.cell A;have B:=j.cell B;have l:Hid (Below w.heap.size w w2):=r.out.trans (a.mono r.out.size);clear d x j a;go_wp2_with (first|(go_at_call 60;refine(n _).mono ?_;rintro e w' ⟨rfl,g⟩;rw[g];clear g)|(go_at_call 65;refine q.mono ?_;rintro e T ⟨rfl,G⟩))
    go_ret2
    exact⟨rfl,l.out.trans (G.mono l.out.size)⟩
 ·have H:(bH t !=0)=true:=by simpa using m
  have e1:dU t k s=bH t:=by unfold dU;rw[RZ m]
  have o:nf t k s=⟨#[]⟩:=RY (by rw[e1];exact m);rw[e1,o];obtain⟨f,O⟩:=ex (bH t);rw[<-O]at H d⊢;clear u m y C ct e1 o O;go_enter (n23 L),Tryz.ntmps23;go_upto_region 1 with fail;rw[<-b,<-p];clear b p;go_wp2_with (first|(go_at_call 21;refine d.mono ?_;rintro e w2 ⟨rfl,a⟩))
  go_ret2
  exact⟨rfl,r.out.trans (a.mono r.out.size)⟩
end Go.Proofs
namespace Go.Proofs
open Go.Tm Go.RowKit Go.MapKept
section
variable (fs:Array Func)
end
end Go.Proofs
namespace Go.Proofs
open Go.Tm Go.RowKit Go.MapKept
open Go.ChangeMaps (setBlock)
def Rng(w:World)(b r:Nat)(f:EK->Nat)(left:EK->Bool)(cnt:Nat):Prop:=∃es d c seen e,w.heap[b]? =some (.map es d)/\Cnt es.toList d f/\w.heap[r]? =some (.mapIter (some b) c seen e)/\(∀x∈es.toList,x.born<c)/\c<=e/\c<=d/\(leftOf es seen).size=cnt/\(∀x∈es.toList,∀p,x.key=en p->left p= !seen.contains x.born)/\∀p,left p=true->∃x∈es.toList,x.key=en p
variable {w:World} {b r cnt:Nat} {f:EK->Nat} {left:EK->Bool}
def Rng.Ex(h:Rng w b r f left cnt):eO w b f:=by obtain⟨es,c,d,seen,i,e,g,_⟩:=h;exact⟨es,c,e,g⟩
def Rng.ne(h:Rng w b r f left cnt):r≠b:=by obtain⟨es,c,d,seen,i,g,j,e,_⟩:=h;rintro rfl;rw[g]at e;cases e
def Rng.lt(h:Rng w b r f left cnt):r<w.heap.size:=by obtain⟨es,c,d,seen,g,i,j,e,_⟩:=h;exact(R7.1 e).1
def Rng.keep{w'}(h:Rng w b r f left cnt)(e:w'.heap[b]? =w.heap[b]?)(g:w'.heap[r]? =w.heap[r]?):Rng w' b r f left cnt:=by obtain⟨es,c,d,seen,i,j,k,l,m⟩:=h;exact⟨es,c,d,seen,i,e.trans j,k,g.trans l,m⟩
def Rng.left_eq(h:Rng w b r f left cnt):w.rangeLeft b r=cnt:=by obtain⟨es,c,d,seen,j,e,k,g,_,_,_,i,_⟩:=h;simp only[World.rangeLeft,e,g];exact i
def GP{es c}(h:Cnt es c f){x e}(d:x∈es)(g:e∈es){p q:EK}(i:x.key=en p)(j:e.key=en q):p=q↔x.born=e.born:=by
 constructor
 ·rintro rfl
  have:x=e:=entry_eq_of_key h.keys d g (i.trans j.symm);rw[this]
 ·intro k
  have:x=e:=born_inj h.born d g k;subst this;exact Es (i.symm.trans j)
def zQ(es seen):(leftOf es seen).size=((es.toList.map kb).filter λq=> !seen.contains q.2).length:=by unfold leftOf;rw[<-Array.length_toList,Array.toList_filter,List.filter_map,Th];rfl
section
variable (fs:Array Func)
open Classical in
def J7(h:eO w b f):∃w' left cnt,(Instr.range 291 (.map (some b))).run (Qs fs) w=.ok (.pointer (some ⟨w.heap.size,0,none⟩)) w'/\Rng w' b w.heap.size f left cnt/\(∀p,f p≠0->left p=true)/\Below w.heap.size w w'/\w'.heap.size=w.heap.size+1:=by
 obtain⟨es,c,k,i⟩:=id h;refine⟨_,λp=>es.toList.any λe=>decide (e.key=en p),_,run_range_map w 291 293 3 b es c (tx fs) k,⟨es,c,c,#[],c,((MapKept.heap_alloc w _).2 b h.lt).trans k,i,(MapKept.heap_alloc w _).1,λx d=>?_,R2 _,R2 _,rfl,λx d p g=>?_,λp g=>?_⟩,λp g=>?_,aG _ _,by simp⟩
 ·obtain⟨q,_,_,_,h⟩:=i.ent x d
  exact h
 ·have:(es.toList.any λe=>decide (e.key=en p))=true:=Tj.2 ⟨x,d,Sd g⟩
  simpa using this
 ·obtain⟨x,d,j⟩:=Tj.1 g
  exact⟨x,d,SO j⟩
 ·obtain⟨x,d,j⟩:=i.all p g
  exact Tj.2 ⟨x,d,Sd j⟩
def Rng.next(h:Rng w b r f left cnt)(ty):
 ((∀p,left p=false)/\(Instr.next (.pointer (some ⟨r,0,none⟩)) false ty).run (Qs fs) w=.ok (.tuple #[.bool false]) w)\/
 ∃p w' t,wfE p/\left p=true/\(Instr.next (.pointer (some ⟨r,0,none⟩)) false ty).run (Qs fs) w=.ok (.tuple #[.bool true,en p,.int .i64 (f p)]) w'/\Rng w' b r f (λq=>left q&& !decide (q=p)) t/\t<cnt/\w'.os=w.os/\w'.tape=w.tape/\w'.output=w.output/\w'.heap.size=w.heap.size/\(∀k,k≠r->w'.heap[k]? =w.heap[k]?)/\(∀(k:Nat) c e F,w.heap[k]? =some (Obj.cells c e F)->w'.heap[k]? =some (Obj.cells c e F))/\(Instr.entry (.pointer (some ⟨r,0,none⟩))).run (Qs fs) w'=.ok (.tuple #[en p,.int .i64 (f p)]) w':=by
 have G:=h.ne;obtain⟨es,d,g,seen,O,R,F,H,u,I,A,rfl,y,B⟩:=h;rcases run_next_at (P:=Qs fs) w ty r b g O seen es d H R u I with⟨T,l⟩|⟨e,S,w1,i,l⟩
 ·refine .inl ⟨λp=>?_,l⟩
  cases m:left p with
  |false=>rfl
  |true=>obtain⟨x,C,J⟩:=B p m;rw[y x C p J,all_seen es seen T x C]at m;cases m
 ·obtain⟨n,K⟩:=mem_left S
  obtain⟨p,U,m,V,W⟩:=F.ent e n;have L:w1.heap[r]? =some (.mapIter (some b) g seen O):=by rcases i with rfl|rfl<;>exact H
  have M:w1.heap[b]? =some (.map es d):=by rcases i with rfl|rfl<;>exact R
  have j:=heap_set (o':=.mapIter (some b) g (seen.push e.born) d) L;have D:(setBlock w1 r (.mapIter (some b) g (seen.push e.born) d)).heap[b]? =some (.map es d):=(j.2 b (λe1=>G e1.symm)).trans M;have v:=run_entry_at (P:=Qs fs) _ r b g seen es d e j.1 D n F.born;rw[m,V]at l v;refine .inr ⟨p,_,_,U,by rw[y e n p m,K];rfl,l,⟨es,d,g,seen.push e.born,d,D,F,j.1,u,A,A,rfl,λx C q E=>?_,λq E=>B q (by simp at E;exact E.1)⟩,left_shrinks es seen e S,?_,?_,?_,?_,λk m=>?_,λk c e0 X m=>?_,v⟩
  ·show(left q&& !decide (q=p))=_
   rw[y x C q E,contains_push];have:=GP F C n E m;by_cases s:q=p
   ·have z:=this.1 s
    rw[Sd s,z];simp
   ·have z:¬x.born=e.born:=λh=>s (this.2 h)
    rw[R8 s];have:(x.born==e.born)=false:=by simpa using z
    rw[this];simp
  ·rcases i with rfl|rfl<;>rfl
  ·rcases i with rfl|rfl<;>rfl
  ·rcases i with rfl|rfl<;>rfl
  ·rcases i with rfl|rfl<;>simp[setBlock]
  ·exact(j.2 k m).trans (by rcases i with rfl|rfl<;>rfl)
  ·have N:k≠r:=by rintro rfl;rw[H]at m;cases m
   exact((j.2 k N).trans (by rcases i with rfl|rfl<;>rfl)).trans m
def Rng.entry(h:Rng w b r f left cnt){p:EK}(k:wfE p)(l:f p≠0):
 ∃es c,∃st:Nat,(Instr.mapEntry 291 (.map (some b)) (en p)).run (Qs fs) w=.ok (.tuple #[.int .i64 (f p),.int .i64 st]) (dD w b es c)/\Rng (dD w b es c) b r f left cnt/\ik (dD w b es c) b p st:=by
 have i:=h.ne;obtain⟨es,c,d,seen,m,g,F,n,rest⟩:=h;obtain⟨j,e,q,s,t⟩:=GO fs g F k l;exact⟨es,c,e.born,q,⟨es,c,d,seen,m,(cT g).1,F,((cT g).2.1 r i).trans n,rest⟩,⟨es,c,(cT g).1,j,e,s,t,rfl⟩⟩
def Rng.store(h:Rng w b r f left cnt){p:EK}{st}(K:ik w b p st)(L:wfE p)(v:Nat):
 ∃es c,(Instr.entryStore 291 (.map (some b)) (.int .i64 st) (.int .i64 v)).run (Qs fs) w=.ok () (dD w b es c)/\Rng (dD w b es c) b r (λq=>if q=p then v else f q) left cnt:=by
 have A:=h.ne;obtain⟨es,c,d,seen,M,s,F,N,g,B,C,i,D,E⟩:=h;obtain⟨O,t,k,j,e,P,R,G⟩:=K;rw[s]at k;cases k;subst G;obtain⟨l,a1,S,u⟩:=ud fs s F P R L v;refine⟨l,c,a1,l,c,d,seen,M,(cT s).1,S,((cT s).2.1 r A).trans N,λx m=>?_,B,C,?_,λx m q H=>?_,λq H=>?_⟩
 ·obtain⟨y,n,_,z⟩:=Cnt.shape u x m
  rw[<-z];exact g y n
 ·rw[zQ,u,<-zQ]
  exact i
 ·obtain⟨y,n,I,z⟩:=Cnt.shape u x m
  rw[<-z];exact D y n q (I.trans H)
 ·obtain⟨x,m,J⟩:=E q H
  obtain⟨y,n,I,z⟩:=Cnt.shape u.symm x m;exact⟨y,n,I.trans J⟩
end
section
variable {fs:Array Func} {ops:Array Oper} {rest:List Oper} {o:Oper} {a:Act} {Q:Exit->Act->World->Prop}
end
end Go.Proofs

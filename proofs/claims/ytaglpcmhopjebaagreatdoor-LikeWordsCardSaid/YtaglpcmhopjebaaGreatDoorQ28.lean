import Derived.Laws.IdiomStrings
import Derived.MapKept
import Derived.Test.YtaglpcmhopjebaaGreatDoorQ27
set_option linter.all false
set_option maxRecDepth 100000
set_option maxHeartbeats 20000000
namespace Go.Proofs
open Go.Tm Go.RowKit
variable {fs:Array Func} (L:bU fs)
def Ar(w:World)(v:Value)(s:ByteArray):Prop:=∃g cap,v=.slice (some ⟨g,0,none⟩) s.size cap/\s.size<=cap/\∀j (h:j<s.size),w.cell? ⟨g,j,none⟩=some (.int .u8 (s[j]'h).toNat)
def yU(fs s w):∃v w',(convert 9 120 (.string s)).run (Qs fs) w=.ok v w'/\Ar w' v s/\Below w.heap.size w w':=by have h:=run_bytes_of_string (P:=Qs fs) w 9 120 5 s (by rw[aI];exact Tryz.underlying9) (by rw[aI];exact Tryz.underlying120) (by rw[aI];exact Tryz.underlying5);refine⟨_,_,h,⟨w.heap.size,_,rfl,grownCap_ge _ _ _ _,λj a=>?_⟩,((Below.refl _ _).drew.alloc (R2 _) _)⟩;exact cell_of_heap (w:=(w.drew.alloc _)) (b:=w.heap.size) SY j _ (bytesRow_at s _ j a)
def CH(f p v s w)(H:∀a w,(callFunc f a).run (Qs fs) w=.ok (.enter f a) w)(C:Ar w v s)(I:s.size<=1000000)
 (u:∀(c) wx,Calls (Qs fs) f (#[.int .u8 c.toNat]++#[]) wx λe w'=>e=.returned (.bool (p c))/\w'=wx):
 Calls (Qs fs) 143 #[v,.func (.func f) #[] #[]] w λe w'=>(∃z,e=.returned (.int .i64 z)/\decide (0<=z)=s.data.toList.any p)/\w'=w:=by
 obtain⟨g,cap,rfl,y,t⟩:=C;have D:Hid _:=t;have m:∀(c:UInt8) wx,Calls (Qs fs) f #[.int .u8 c.toNat] wx λe w'=>e=.returned (.bool (p c))/\w'=wx:=u;have E:Hid _:=m;clear t u m;go_enter (n143 L),Tryz.ntmps143;go_wp2;go_loopw [8] (λz wr=>∃j:Nat,j<=s.size/\z=.int .i64 j/\wr=w/\∀i (k:i<s.size),i<j->p s[i]=false) (λz _=>s.size-(intOf z).toNat)
 case atStart=>exact⟨0,R9 _,rfl,rfl,λi k h=>by omega⟩
 case round=>
  obtain⟨j,J,rfl,rfl,n⟩:=hrel;have A:Hid _:=n;clear n;obtain d|hge:=R5 j s.size
  ·have t:=D.out j d
   have o:=E.out (s[j]'d) wr;have F:(j:Int)<(s.size:Int):=by omega
   obtain⟨x,q⟩:=ex (s[j]'d);rw[<-q]at t o;have B:Hid _:=q;clear q;cases b:p x with
   |true=>
    rw[b]at o;have l:Hid _:=b;clear b;go_wp2_with (first|(go_at_fn f;refine o.mono ?_;rintro e w3 ⟨rfl,rfl⟩))
    go_ret;refine⟨⟨(j:Int),rfl,?_⟩,rfl⟩;rw[Sd (by omega),TX,Tj];exact⟨x,by rw[B.out];exact Ts (Lib.data_getElem? s j d),l.out⟩
   |false=>
    rw[b]at o;have l:Hid _:=b;clear b;go_wp2_with (first|(go_at_fn f;refine o.mono ?_;rintro e w3 ⟨rfl,rfl⟩))
    refine⟨⟨j+1,by omega,by go_num,trivial,λi k G=>?_⟩,by simp[intOf];omega⟩;by_cases h:i<j
    ·exact A.out i k h
    ·obtain rfl:i=j:=by omega
     exact B.out▸l.out
  ·go_wp2
   go_ret;refine⟨⟨-1,rfl,?_⟩,rfl⟩;rw[R8 (by decide),TX,T5];intro x q;obtain⟨i,k⟩:=Ty.1 q;have r:i<s.size:=by have:=(TC.1 k).1;rw[<-Lib.size_eq]at this;exact this
   rw[Lib.data_getElem? s i r]at k;cases k;rw[A.out i r (by omega)];exact Ut
def nL(f p v s w)(i:∀a w,(callFunc f a).run (Qs fs) w=.ok (.enter f a) w)(j:Ar w v s)(b:s.size<=1000000)
 (d:∀(c) g,Calls (Qs fs) f (#[.int .u8 c.toNat]++#[]) g λe w'=>e=.returned (.bool (p c))/\w'=g):
 Calls (Qs fs) 120 #[v,.func (.func f) #[] #[]] w λe w'=>e=.returned (.bool (s.data.toList.any p))/\w'=w:=by
 have Ql:=Ql L;have h:=CH L f p v s w i j b d;clear d;go_enter (n120 L),Tryz.ntmps120;go_wp2_with (first|(go_at_call 143;refine h.mono ?_;clear h;rintro e w2 ⟨⟨z,rfl,b⟩,rfl⟩;have k:Hid _:=b;clear b))
 go_ret;exact⟨by rw[<-k.out];rfl,rfl⟩
def Fp(c:UInt8)(w:World):Calls (Qs fs) 121 #[.int .u8 c.toNat] w λe w'=>e=.returned (.bool (!bc c))/\w'=w:=by
 have e91:=e91 L;have a:=mG fs (n91 L) (c.toNat:Int) w;have d:Hid (bc c=(decide (97<=(c.toNat:Int))&&decide ((c.toNat:Int)<=122))):=rfl;rw[<-d]at a;obtain⟨b,f⟩:=ex (bc c);rw[<-f]at a⊢;clear f d;go_enter (n121 L),Tryz.ntmps121;go_wp2_with (first|(go_at_call 91;refine a.mono ?_;clear a;rintro e w2 ⟨rfl,rfl⟩))
 go_ret;exact⟨rfl,rfl⟩
def KX(c:UInt8)(w:World):Calls (Qs fs) 136 #[.int .u8 c.toNat] w λe w'=>e=.returned (.bool (!(bc c||jc c)))/\w'=w:=by
 have e91:=e91 L;have a:=mG fs (n91 L) (c.toNat:Int) w;have f:bc c=(decide (97<=(c.toNat:Int))&&decide ((c.toNat:Int)<=122)):=rfl;rw[<-f]at a;have g:jc c=(decide (48<=(c.toNat:Int))&&decide ((c.toNat:Int)<=57)):=rfl;cases d:bc c with
 |true=>
  rw[d]at a;clear d f g;go_enter (n136 L),Tryz.ntmps136;go_wp2_with (first|(go_at_call 91;refine a.mono ?_;clear a;rintro e w2 ⟨rfl,rfl⟩))
  go_ret;exact⟨rfl,rfl⟩
 |false=>
  rw[d]at a;have h:Hid _:=g;clear d f g;by_cases i:(c.toNat:Int)<48
  ·have b:Hid (jc c=false):=by rw[Hid,h.out];simp;omega
   go_enter (n136 L),Tryz.ntmps136;go_wp2_with (first|(go_at_call 91;refine a.mono ?_;clear a;rintro e w2 ⟨rfl,rfl⟩))
   go_ret;exact⟨by rw[b.out];rfl,rfl⟩
  ·have j:decide ((c.toNat:Int)<48)=false:=R8 i
   by_cases k:(57:Int)<(c.toNat:Int)
   ·have b:Hid (jc c=false):=by rw[Hid,h.out];simp;omega
    go_enter (n136 L),Tryz.ntmps136;go_wp2_with (first|(go_at_call 91;refine a.mono ?_;clear a;rintro e w2 ⟨rfl,rfl⟩))
    go_ret;exact⟨by rw[b.out];rfl,rfl⟩
   ·have l:decide ((57:Int)<(c.toNat:Int))=false:=R8 k
    have b:Hid (jc c=true):=by rw[Hid,h.out];simp;omega
    go_enter (n136 L),Tryz.ntmps136;go_wp2_with (first|(go_at_call 91;refine a.mono ?_;clear a;rintro e w2 ⟨rfl,rfl⟩))
    go_ret;exact⟨by rw[b.out];rfl,rfl⟩
def tF(l:List UInt8)(p):l.any (λc=> !p c)= !l.all p:=by
 induction l with
 |nil=>rfl
 |cons x l a=>rw[List.any_cons,Um,a,Bool.not_and]
def j6(s:ByteArray)(d a:Int)(w:World)(o:a<=1000):Calls (Qs fs) 72 #[.string s,.int .i64 d,.int .i64 a] w λe w'=>e=.returned (.bool (aX s d a))/\Below w.heap.size w w':=by
 have Na:=Na L;have e63:=e63 L;have f:=dv fs (n63 L) (s.size:Int) d a w;have m:Hid (aX s d a=(aD s.size d a&&s.data.toList.all bc)):=rfl;cases b:aD s.size d a with
 |false=>
  have i:Hid (aX s d a=false):=by rw[Hid,m.out,b];rfl
  unfold aD at b;rw[b]at f;clear b;go_enter (n72 L),Tryz.ntmps72;go_wp2_with (first|(go_at_call 63;refine f.mono ?_;clear f;rintro e w2 ⟨rfl,rfl⟩))
  go_ret;exact⟨by rw[i.out];rfl,Below.refl _ _⟩
 |true=>
  have i:Hid (aX s d a=s.data.toList.all bc):=by rw[Hid,m.out,b];rfl
  unfold aD at b;rw[b]at f;have k:s.size<=1000000:=by rw[Sf,Sq,Sq]at b;omega
  clear b;obtain⟨v,w1,p,g,h⟩:=yU fs s w;have l:Hid _:=h;have j:=nL L 121 (λc=> !bc c) v s w1 (Rs L) g k (λc q=>Fp L c q);rw[tF]at j;obtain⟨z,n⟩:=ex (s.data.toList.all bc);rw[<-n]at j i;clear n g h;go_enter (n72 L),Tryz.ntmps72;go_wp2_with (first|(go_at_call 63;refine f.mono ?_;clear f;rintro e w2 ⟨rfl,rfl⟩)|(go_at_call 120;refine j.mono ?_;clear j;rintro e w3 ⟨rfl,rfl⟩))
  go_ret;exact⟨by rw[i.out];simp,l.out⟩
def Hf(s:ByteArray)(w:World):Calls (Qs fs) 102 #[.string s] w λe w'=>e=.returned (.bool (dP s))/\Below w.heap.size w w':=by
 have Na:=Na L;have e63:=e63 L;have e91:=e91 L;have g:=dv fs (n63 L) (s.size:Int) 1 10 w;have r:Hid (dP s=(aD s.size 1 10&&(s.data.toList.head?.any bc)&&s.data.toList.all λc=>bc c||jc c)):=rfl;cases b:aD s.size 1 10 with
 |false=>
  have d:Hid (dP s=false):=by rw[Hid,r.out,b];rfl
  unfold aD at b;rw[b]at g;clear b;go_enter (n102 L),Tryz.ntmps102;go_wp2_with (first|(go_at_call 63;refine g.mono ?_;clear g;rintro e w2 ⟨rfl,rfl⟩))
  go_ret;exact⟨by rw[d.out];rfl,Below.refl _ _⟩
 |true=>
  have d:(dP s=((s.data.toList.head?.any bc)&&s.data.toList.all λc=>bc c||jc c)):=by rw[r.out,b];rfl
  unfold aD at b;rw[b]at g;have m:1<=s.size/\s.size<=1000000:=by rw[Sf,Sq,Sq]at b;omega
  clear b;have n:0<s.size:=by omega
  obtain⟨x,o⟩:=ex (s[0]'n);have a:s.data.toList.head?.any bc=bc x:=by have u:=Lib.data_getElem? s 0 n;rw[List.head?_eq_getElem?,u,o];rfl
  rw[a]at d;have h:=λp=>mG fs (n91 L) (x.toNat:Int) p;have i:bc x=(decide (97<=(x.toNat:Int))&&decide ((x.toNat:Int)<=122)):=rfl;rw[<-i]at h;have y:s[0]'n=x:=o.symm;clear i a o;cases f:bc x with
  |false=>
   rw[f]at h d;have HV:Hid _:=d;clear d f;go_enter (n102 L),Tryz.ntmps102;go_wp2_with (first|(go_at_call 63;refine g.mono ?_;clear g;rintro e w2 ⟨rfl,rfl⟩)|(go_at_call 91;refine(h _).mono ?_;clear h;rintro e w3 ⟨rfl,rfl⟩))
   go_ret;exact⟨by rw[HV.out];rfl,Below.refl _ _⟩
  |true=>
   rw[f]at h d;have HV:Hid _:=d;clear d f;obtain⟨v,w1,A,j,k⟩:=yU fs s w;have q:Hid _:=k;have l:=nL L 136 (λc=> !(bc c||jc c)) v s w1 (Ru L) j m.2 (λc p=>KX L c p);rw[tF _ (λc=>bc c||jc c)]at l;obtain⟨z,t⟩:=ex (s.data.toList.all (λc=>bc c||jc c));rw[<-t]at l HV;clear t j k;go_enter (n102 L),Tryz.ntmps102;go_wp2_with (first|(go_at_call 63;refine g.mono ?_;clear g;rintro e w2 ⟨rfl,rfl⟩)|(go_at_call 91;refine(h _).mono ?_;clear h;rintro e w3 ⟨rfl,rfl⟩)|(go_at_call 120;refine l.mono ?_;clear l;rintro e w3 ⟨rfl,rfl⟩))
   go_ret;exact⟨by rw[HV.out];simp,q.out⟩
def JK(i a y b)(h:aO a b+1=aO a (y::b)):aZ i a (y::b)=((i:Int),0,codeOf y)::aZ i a b:=by
 cases a with
 |nil=>rw[aZ]
 |cons x a=>rw[aZ,RY (by omega),RZ h]
def GB(i x)(a b:Bs)(d:∀y c,b=y::c->aO (x::a) c+1≠aO (x::a) b)(h:aO a b+1=aO (x::a) b):aZ i (x::a) b=((i:Int),1,0)::aZ (i+1) a b:=by
 cases b with
 |nil=>rw[aZ]
 |cons y b=>rw[aZ,RY (by omega),RY (d y b rfl),RZ h]
def GC(a b)(c:aO a b≠0)(f:∀y d,b=y::d->aO a d+1≠aO a b)(g:∀x e,a=x::e->aO e b+1≠aO a b):a≠[]/\b≠[]:=by
 constructor
 ·rintro rfl
  cases b with
  |nil=>exact c (eL [])
  |cons y b=>exact f y b rfl (by rw[eL,eL];rfl)
 ·rintro rfl
  cases a with
  |nil=>exact c (eL [])
  |cons x a=>exact g x a rfl (by rw[gz,gz];rfl)
def GD(i x y)(a b:Bs)(c:aO (x::a) (y::b)≠0)(d:aO (x::a) b+1≠aO (x::a) (y::b))(e:aO a (y::b)+1≠aO (x::a) (y::b)):
 aZ i (x::a) (y::b)=if x=y then aZ (i+1) a b else((i),2,codeOf y)::aZ (i+1) a b:=by
 rw[aZ,RY c,RY d,RY e];by_cases h:x=y
 ·rw[RY (λg=>g h),RZ h]
 ·rw[RZ h,RY h]
def pK(l:List Ed):List Value:=l.flatMap λe=>[.int .i64 e.1,.int .i64 e.2.1,.int .u8 e.2.2]
def GF(l e):pK (l++[e])=pK l++[.int .i64 e.1,.int .i64 e.2.1,.int .u8 e.2.2]:=by unfold pK;rw[Uy];rfl
def Pu:((Tryz.prog).info? 96).map (λi=>(i.zero,i.size,i.bytes))=some (some (.agg #[.int .i64 0,.int .i64 0,.int .u8 0]),3,24):=by kernel_rfl
def Mk(fs):((Qs fs).info? 96).map (λi=>(i.zero,i.size,i.bytes))=some (some (.agg #[.int .i64 0,.int .i64 0,.int .u8 0]),3,24):=Pu
def jg.keep{w wr w' a b q p}(h:jg w wr a b q p)(c:Below (w.heap.size+1) wr w'):jg w w' a b q p:=⟨h.row.of_block (c.block _ (by omega)),h.below.trans (c.mono (by omega))⟩
def rM{w:World}{B B' e k v n xs}(h:w.ownsRow B' e k v n xs)(i:B<=B'):w.ownsRow B e k v n xs:=by
 refine⟨h.1,?_⟩;obtain b|⟨g,cap,a,c,j,d,f⟩:=h.2
 ·exact .inl b
 ·exact .inr ⟨g,cap,a,c,by omega,d,f⟩
def my(a b:ByteArray):Int:=if 48<a.size\/48<b.size then 2 else if a.data.toList.all bc&&b.data.toList.all bc then 0 else 3
def iP(a b:ByteArray):List Ed:=if my a b=0 then jF a.data.toList b.data.toList else[]
def Bl(s):aX s 0 s.size=s.data.toList.all bc:=by unfold aX aD;simp
def Hv(a b:ByteArray)(w:World)(b7:a.size<1000000)(b8:b.size<1000000):
 Calls (Qs fs) 29 #[.string a,.string b] w λe w'=>∃v,e=.returned (.tuple #[v,.int .i64 (my a b)])/\w'.ownsRow w.heap.size 96 3 v (iP a b).length (pK (iP a b))/\Below w.heap.size w w':=by
 have e72:=e72 L;have e73:=e73 L;by_cases W:48<a.size\/48<b.size
 ·have hF:my a b=2:=RZ W
  have hR:iP a b=[]:=by unfold iP;rw[hF];rfl
  have O:Hid (my a b=2/\iP a b=[]):=⟨hF,hR⟩
  clear hF hR;obtain h1|h1:=R5 48 a.size
  ·have g1:(48:Int)<(a.size:Int):=by omega
   clear W h1;go_enter (n29 L),Tryz.ntmps29;go_wp2
   go_ret2
   exact⟨_,by rw[O.out.1];rfl,by rw[O.out.2];exact World.ownsRow_nil _ _ _ _,Below.refl _ _⟩
  ·have g1:decide ((48:Int)<(a.size:Int))=false:=R8 (by omega)
   have g2:(48:Int)<(b.size:Int):=by omega
   clear W h1;go_enter (n29 L),Tryz.ntmps29;go_wp2
   go_ret2
   exact⟨_,by rw[O.out.1];rfl,by rw[O.out.2];exact World.ownsRow_nil _ _ _ _,Below.refl _ _⟩
 ·have g1:decide ((48:Int)<(a.size:Int))=false:=R8 (by omega)
  have g2:decide ((48:Int)<(b.size:Int))=false:=R8 (by omega);have q1:=λwx=>j6 L a 0 a.size wx (by omega);have q2:=λwx=>j6 L b 0 b.size wx (by omega);rw[Bl]at q1 q2;have HP:Hid (my a b=if a.data.toList.all bc&&b.data.toList.all bc then 0 else 3):=RY W;have bk:a.size<=48:=by omega
  have bm:b.size<=48:=by omega
  clear W;cases E:a.data.toList.all bc with
  |false=>
   rw[E]at q1;have O:Hid (my a b=3/\iP a b=[]):=by
    have h:my a b=3:=by rw[HP.out,E];rfl
    exact⟨h,by unfold iP;rw[h];rfl⟩
   clear E;go_enter (n29 L),Tryz.ntmps29;go_wp2_with (first|(go_at_call 72;refine(q1 _).mono ?_;clear q1;rintro e w2 ⟨rfl,F⟩))
   go_ret2
   exact⟨_,by rw[O.out.1];rfl,by rw[O.out.2];exact World.ownsRow_nil _ _ _ _,F⟩
  |true=>
   rw[E]at q1;cases M:b.data.toList.all bc with
   |false=>
    rw[M]at q2;have O:Hid (my a b=3/\iP a b=[]):=by
     have h:my a b=3:=by rw[HP.out,E,M];rfl
     exact⟨h,by unfold iP;rw[h];rfl⟩
    clear E M;go_enter (n29 L),Tryz.ntmps29;go_wp2_with (first|(go_at_call 72;refine(q1 _).mono ?_;clear q1;rintro e w2 ⟨rfl,F⟩)|(go_at_call 72;refine(q2 _).mono ?_;clear q2;rintro e w3 ⟨rfl,ad⟩))
    go_ret2
    exact⟨_,by rw[O.out.1];rfl,by rw[O.out.2];exact World.ownsRow_nil _ _ _ _,F.trans (ad.mono F.size)⟩
   |true=>
    rw[M]at q2;have O:Hid (my a b=0/\iP a b=jF a.data.toList b.data.toList):=by
     have h:my a b=0:=by rw[HP.out,E,M];rfl
     exact⟨h,by unfold iP;rw[h];rfl⟩
    have ay:=λwx=>Ha L a b wx bk bm;obtain⟨i0,hi,P,Q,R⟩:=info_parts (Mk fs);have hA:=Lib.size_eq a;have hB:=Lib.size_eq b;have aM:∀q (h:q<a.size),a.data.toList.drop q=a[q]::a.data.toList.drop (q+1):=λq h=>drop_cons a q h;have a1:∀q (h:q<b.size),b.data.toList.drop q=b[q]::b.data.toList.drop (q+1):=λq h=>drop_cons b q h;obtain⟨A,a6⟩:=ex (a.data.toList);obtain⟨B,af⟩:=ex (b.data.toList);rw[<-a6]at hA aM;rw[<-af]at hB a1;rw[<-a6,<-af]at ay O;have m:Hid (a.size=A.length/\b.size=B.length):=⟨hA,hB⟩
    have HG:Hid ((∀q (h:q<a.size),A.drop q=a[q]::A.drop (q+1))/\(∀q (h:q<b.size),B.drop q=b[q]::B.drop (q+1))):=⟨aM,a1⟩
    have f:Hid (A.length<=48/\B.length<=48):=⟨by omega,by omega⟩
    have HL:Hid ((jF A B).length<=48):=by rw[Hid,yu A B (by rw[af];exact M)];have:=tZ A B;omega
    clear hA hB a6 af aM a1 E M HP;go_enter (n29 L),Tryz.ntmps29;go_wp2_with (first|(go_at_call 72;refine(q1 _).mono ?_;clear q1;rintro e w2 ⟨rfl,F⟩)|(go_at_call 72;refine(q2 _).mono ?_;clear q2;rintro e w3 ⟨rfl,ad⟩)|(go_at_call 73;refine(ay _).mono ?_;clear ay;rintro e w4 ⟨rfl,g⟩))
    have a7:Hid (Below w.heap.size w w3):=F.trans (ad.mono F.size);have bs:Hid _:=g;clear F ad g;obtain⟨N,hN⟩:=ex (w3.heap.size);have HN:Hid _:=hN;rw[<-hN];clear hN;go_loopw [7,8,9] (λv s8 s9 wr=>∃(vF:Value) (i k:Nat) (K:List Ed),vF=v/\s8=.int .i64 i/\s9=.int .i64 k/\i<=A.length/\k<=B.length/\K++aZ i (A.drop i) (B.drop k)=jF A B/\wr.ownsRow (w3.heap.size+1) 96 3 vF K.length (pK K)/\jg w3 wr A B 0 0) (λv s8 s9 _=>(A.length-(intOf s8).toNat)+(B.length-(intOf s9).toNat))
    case atStart=>exact⟨_,0,0,[],rfl,rfl,rfl,R9 _,R9 _,rfl,World.ownsRow_nil _ _ _ _,bs.out⟩
    case round=>
     obtain⟨vF,i,k,K,rfl,rfl,rfl,X,ag,p,l,g⟩:=hrel;have HT:Hid _:=p;have HO:Hid (wr.ownsRow (w3.heap.size+1) 96 3 vF K.length (pK K)/\jg w3 wr A B 0 0):=⟨l,g⟩
     have hd:=g.cell f.out.1 f.out.2 X ag (by omega);rw[<-HN.out]at hd;have b1:(i:Int)<49:=by have:=f.out;omega
     have b2:(k:Int)<49:=by have:=f.out;omega
     have bx:aO (A.drop i) (B.drop k)<=2000:=R3 (mK _ _) (by rw[Sk,Sk];have:=f.out;omega);obtain⟨D,hD⟩:=ex (aO (A.drop i) (B.drop k));rw[<-hD]at hd bx;have HD:Hid _:=hD;by_cases ak:D=0
     ·subst ak
      clear p l g hD;go_wp2
      go_ret2
      have he:K=jF A B:=by have:=HT.out;rw[qp _ _ HD.out.symm,JJ,Tx]at this;exact this
      subst he;exact⟨_,by rw[O.out.1];rfl,by rw[O.out.2];exact rM HO.out.1 (by have:=a7.out.size;omega),a7.out.trans (HO.out.2.below.mono a7.out.size)⟩
     ·have bA:(0:Int)<(D:Int):=by omega
      have ar:=X;have S:=ag;have b3:w3.heap.size<wr.heap.size:=g.row.lt;have G:Hid (∀(W0:World),Below (w3.heap.size+1) wr W0->∀(o:Obj) (Y:Value) (U:World) (e:Ed) (i2 k2:Nat),i2<=A.length->k2<=B.length->aZ i (A.drop i) (B.drop k)=e::aZ i2 (A.drop i2) (B.drop k2)->U.ownsRow (w3.heap.size+1) 96 3 Y (K.length+1) (pK K++[.int .i64 e.1,.int .i64 e.2.1,.int .u8 e.2.2])->(W0.alloc o).grownBy U vF.ownBlock->
       ∃s:List Ed,s++aZ i2 (A.drop i2) (B.drop k2)=jF A B/\U.ownsRow (w3.heap.size+1) 96 3 Y s.length (pK s)/\jg w3 U A B 0 0):=by
       intro W0 a8 o Y U e i2 k2 h1 h2 h3 h4 h5;refine⟨K++[e],?_,?_,?_⟩
       ·rw[<-HT.out,h3,Tw];rfl
       ·rw[GF,Sr];exact h4
       ·exact HO.out.2.keep ((a8.alloc (by have:=a8.size;omega) o).grown h5 (by have:=a8.size;simp;omega) (eo HO.out.1))
      have H:Hid (K.length<=48):=by have h:=SL List.length HT.out;rw[Sr]at h;have:=HL.out;show K.length<=48;omega
      by_cases T:k<b.size/\aO (A.drop i) (B.drop (k+1))+1=D
      ·have I:=g.cell f.out.1 f.out.2 (r:=i) (k:=k+1) X (by have:=m.out;omega) (by omega)
       rw[<-HN.out]at I;have hkb:(k:Int)<(b.size:Int):=by omega
       have b4:=T.1;have HE:Hid (aZ i (A.drop i) (B.drop k)=((i:Int),0,codeOf b[k])::aZ i (A.drop i) (B.drop (k+1))):=by rw[Hid,HG.out.2 k T.1];refine JK i _ _ _ ?_;rw[<-HG.out.2 k T.1,<-HD.out];exact T.2
       have bo:=T.2;obtain⟨d1,z⟩:=ex (aO (A.drop i) (B.drop (k+1)));rw[<-z]at I bo;have hq:((d1:Int)==(D:Int)-1)=true:=by rw[S9];omega
       have Z:(k:Int)+1<49:=by have:=f.out;have:=m.out;omega
       clear p g hD T z bo;go_wp2_with (first|(at_builtin;refine wpList_append_own _ rfl _ _ 53 rfl (w3.heap.size+1) 96 i0 (.agg #[.int .i64 0,.int .i64 0,.int .u8 0]) 3 24 Tryz.underlying53 hi P Q R rfl (by decide) _ _ _ rfl (l.alloc _) ⟨_,0,none⟩ 1 1 [.int .i64 i,.int .i64 0,.int .u8 (b[k].toNat:Int)] rfl rfl ?c1 ?c2 ?c3 ?c4 ?c5 ?_))
       case c1=>intro j u C;rw[e9,Se];exact aw wr _ 96 j u (by simpa using C)
       case c2=>intro u C;simp at C;rcases C with rfl|rfl|rfl<;>rfl
       case c3=>have:=H.out;unfold maxLen;omega
       case c4=>have:=H.out;omega
       case c5=>simp;omega
       intro Y U c d _;obtain⟨s,z1,z2,z3⟩:=G.out _ (Below.refl _ wr) _ Y U ((i:Int),0,codeOf b[k]) i (k+1) ar (by have:=m.out;omega) HE.out c d;clear G l c d;go_wp2;exact⟨⟨_,i,k+1,s,rfl,rfl,by go_num,ar,by have:=m.out;omega,z1,z2,z3⟩,by simp[intOf];have:=m.out;omega⟩
      ·by_cases n:i<a.size/\aO (A.drop (i+1)) (B.drop k)+1=D
       ·have e10:=g.cell f.out.1 f.out.2 (r:=i+1) (k:=k) (by have:=m.out;omega) ag (by omega)
        rw[<-HN.out]at e10;have ba:(i:Int)<(a.size:Int):=by omega
        have b5:=n.1;have HE:Hid (aZ i (A.drop i) (B.drop k)=((i:Int),1,0)::aZ (i+1) (A.drop (i+1)) (B.drop k)):=by
         rw[Hid,HG.out.1 i n.1];refine GB i _ _ _ (λy b' hy he=>T ?_) ?_
         ·have hk:k<b.size:=by
           obtain h|h:=R5 k b.size
           ·exact h
           ·rw[SJ (by have:=m.out;omega)]at hy;cases hy
          have an:=hy;rw[HG.out.2 k hk]at an;injection an with _ an;subst an;rw[<-HG.out.1 i n.1,<-HD.out]at he;exact⟨hk,he⟩
         ·rw[<-HG.out.1 i n.1,<-HD.out]
          exact n.2
        have aa:=n.2;obtain⟨d2,t⟩:=ex (aO (A.drop (i+1)) (B.drop k));rw[<-t]at e10 aa;have bB:((d2:Int)==(D:Int)-1)=true:=by rw[S9];omega
        have bb:(i:Int)+1<49:=by have:=f.out;have:=m.out;omega
        obtain hkb|hkb:=R5 k b.size
        ·have I:=g.cell f.out.1 f.out.2 (r:=i) (k:=k+1) X (by have:=m.out;omega) (by omega)
         rw[<-HN.out]at I;have J:aO (A.drop i) (B.drop (k+1))+1≠D:=λh=>T ⟨hkb,h⟩;obtain⟨d1,z⟩:=ex (aO (A.drop i) (B.drop (k+1)));rw[<-z]at I J;have hq:((d1:Int)==(D:Int)-1)=false:=by rw[Sw];omega
         have ax:(k:Int)<(b.size:Int):=by omega
         have Z:(k:Int)+1<49:=by have:=f.out;have:=m.out;omega
         clear p g hD T z J n t aa;go_wp2_with (first|(at_builtin;refine wpList_append_own _ rfl _ _ 53 rfl (w3.heap.size+1) 96 i0 (.agg #[.int .i64 0,.int .i64 0,.int .u8 0]) 3 24 Tryz.underlying53 hi P Q R rfl (by decide) _ _ _ rfl (l.alloc _) ⟨_,0,none⟩ 1 1 [.int .i64 i,.int .i64 1,.int .u8 0] rfl rfl ?c1 ?c2 ?c3 ?c4 ?c5 ?_))
         case c1=>intro j u C;rw[e9,Se];exact aw wr _ 96 j u (by simpa using C)
         case c2=>intro u C;simp at C;rcases C with rfl|rfl|rfl<;>rfl
         case c3=>have:=H.out;unfold maxLen;omega
         case c4=>have:=H.out;omega
         case c5=>simp;omega
         intro Y U c d _;obtain⟨s,z1,z2,z3⟩:=G.out _ (Below.refl _ wr) _ Y U ((i:Int),1,0) (i+1) k (by have:=m.out;omega) S HE.out c d;clear G l c d;go_wp2;exact⟨⟨_,i+1,k,s,rfl,by go_num,by go_num,(by have:=m.out;omega),S,z1,z2,z3⟩,by simp[intOf];have:=m.out;omega⟩
        ·have ax:decide ((k:Int)<(b.size:Int))=false:=R8 (by omega)
         clear p g hD T n t aa;go_wp2_with (first|(at_builtin;refine wpList_append_own _ rfl _ _ 53 rfl (w3.heap.size+1) 96 i0 (.agg #[.int .i64 0,.int .i64 0,.int .u8 0]) 3 24 Tryz.underlying53 hi P Q R rfl (by decide) _ _ _ rfl (l.alloc _) ⟨_,0,none⟩ 1 1 [.int .i64 i,.int .i64 1,.int .u8 0] rfl rfl ?c1 ?c2 ?c3 ?c4 ?c5 ?_))
         case c1=>intro j u C;rw[e9,Se];exact aw wr _ 96 j u (by simpa using C)
         case c2=>intro u C;simp at C;rcases C with rfl|rfl|rfl<;>rfl
         case c3=>have:=H.out;unfold maxLen;omega
         case c4=>have:=H.out;omega
         case c5=>simp;omega
         intro Y U c d _;obtain⟨s,z1,z2,z3⟩:=G.out _ (Below.refl _ wr) _ Y U ((i:Int),1,0) (i+1) k (by have:=m.out;omega) S HE.out c d;clear G l c d;go_wp2;exact⟨⟨_,i+1,k,s,rfl,by go_num,by go_num,(by have:=m.out;omega),S,z1,z2,z3⟩,by simp[intOf];have:=m.out;omega⟩
       ·have ao:=GC (A.drop i) (B.drop k) (by rw[<-HD.out];exact ak) (λy b' hy he=>T (by
         have hk:k<b.size:=by
          obtain h|h:=R5 k b.size
          ·exact h
          ·rw[SJ (by have:=m.out;omega)]at hy;cases hy
         rw[HG.out.2 k hk]at hy;injection hy with _ hy;subst hy;rw[<-HD.out]at he;exact⟨hk,he⟩)) (λx a' hx he=>n (by
         have hk:i<a.size:=by
          obtain h|h:=R5 i a.size
          ·exact h
          ·rw[SJ (by have:=m.out;omega)]at hx;cases hx
         rw[HG.out.1 i hk]at hx;injection hx with _ hx;subst hx;rw[<-HD.out]at he;exact⟨hk,he⟩))
        have ba:i<a.size:=by
         obtain h|h:=R5 i a.size
         ·exact h
         ·exact absurd (SJ (by have:=m.out;omega)) ao.1
        have hkb:k<b.size:=by
         obtain h|h:=R5 k b.size
         ·exact h
         ·exact absurd (SJ (by have:=m.out;omega)) ao.2
        have J:aO (A.drop i) (B.drop (k+1))+1≠D:=λh=>T ⟨hkb,h⟩;have ab:aO (A.drop (i+1)) (B.drop k)+1≠D:=λh=>n ⟨ba,h⟩;have br:Hid (aZ i (A.drop i) (B.drop k)=if a[i]=b[k]then aZ (i+1) (A.drop (i+1)) (B.drop (k+1))else((i:Int),2,codeOf b[k])::aZ (i+1) (A.drop (i+1)) (B.drop (k+1))):=by
         have k1:=HG.out.1 i ba;have k2:=HG.out.2 k hkb;rw[HD.out,k1,k2]at J ab ak;rw[Hid,k1,k2];refine GD i _ _ _ _ ak ?_ ?_
         ·rw[<-k1];exact(by rw[k1];exact J)
         ·rw[<-k2];exact(by rw[k2];exact ab)
        have I:=g.cell f.out.1 f.out.2 (r:=i) (k:=k+1) X (by have:=m.out;omega) (by omega);have e10:=g.cell f.out.1 f.out.2 (r:=i+1) (k:=k) (by have:=m.out;omega) ag (by omega);rw[<-HN.out]at I e10;obtain⟨d1,z⟩:=ex (aO (A.drop i) (B.drop (k+1)));rw[<-z]at I J;obtain⟨d2,t⟩:=ex (aO (A.drop (i+1)) (B.drop k));rw[<-t]at e10 ab;have hq:((d1:Int)==(D:Int)-1)=false:=by rw[Sw];omega
        have bB:((d2:Int)==(D:Int)-1)=false:=by rw[Sw];omega
        have b6:(i:Int)<(a.size:Int):=by omega
        have ax:(k:Int)<(b.size:Int):=by omega
        have bb:(i:Int)+1<49:=by have:=f.out;have:=m.out;omega
        have Z:(k:Int)+1<49:=by have:=f.out;have:=m.out;omega
        by_cases V:a[i]=b[k]
        ·have bC:((a[i].toNat:Int)!=(b[k].toNat:Int))=false:=by rw[V];simp
         have b0:Hid (K++aZ (i+1) (A.drop (i+1)) (B.drop (k+1))=jF A B):=by have h:=br.out;rw[RZ V]at h;rw[Hid,<-h];exact HT.out
         clear p g l hD T z J ab n t ao V;go_wp2;go_quiet (fail);go_wp2;exact⟨⟨_,i+1,k+1,K,rfl,by go_num,by go_num,by have:=m.out;omega,by have:=m.out;omega,b0.out,HO.out.1,HO.out.2.drewN _⟩,by simp[intOf];have:=m.out;omega⟩
        ·have bC:((a[i].toNat:Int)!=(b[k].toNat:Int))=true:=by rw[TQ];intro h;exact V (UK.1 (by omega))
         have HE:Hid (aZ i (A.drop i) (B.drop k)=((i:Int),2,codeOf b[k])::aZ (i+1) (A.drop (i+1)) (B.drop (k+1))):=by have h:=br.out;rw[RY V]at h;exact h
         clear p g hD T z J ab n t ao V;go_wp2;go_quiet (fail);go_wp2_with (first|(at_builtin;refine wpList_append_own _ rfl _ _ 53 rfl (w3.heap.size+1) 96 i0 (.agg #[.int .i64 0,.int .i64 0,.int .u8 0]) 3 24 Tryz.underlying53 hi P Q R rfl (by decide) _ _ _ rfl ((show World.ownsRow (wr.drewN nq) (w3.heap.size+1) 96 3 vF K.length (pK K)from l).alloc _) ⟨_,0,none⟩ 1 1 [.int .i64 i,.int .i64 2,.int .u8 (b[k].toNat:Int)] rfl rfl ?c1 ?c2 ?c3 ?c4 ?c5 ?_))
         case c1=>intro j u C;rw[e9,Se];exact aw (wr.drewN nq) _ 96 j u (by simpa using C)
         case c2=>intro u C;simp at C;rcases C with rfl|rfl|rfl<;>rfl
         case c3=>have:=H.out;unfold maxLen;omega
         case c4=>have:=H.out;omega
         case c5=>simp;omega
         intro Y U c d _;obtain⟨s,z1,z2,z3⟩:=G.out _ ((Below.refl _ wr).fK nq) _ Y U ((i:Int),2,codeOf b[k]) (i+1) (k+1) (by have:=m.out;omega) (by have:=m.out;omega) HE.out c d;clear G l c d;go_wp2;exact⟨⟨_,i+1,k+1,s,rfl,by go_num,by go_num,(by have:=m.out;omega),(by have:=m.out;omega),z1,z2,z3⟩,by simp[intOf];have:=m.out;omega⟩
end Go.Proofs
namespace Go.Proofs
open Go.Tm Go.RowKit Go.MapKept
def bL(w:World)(b:Nat)(p:ByteArray->Bool):Prop:=∃es a,w.heap[b]? =some (.map es a)/\(∀e∈es.toList,∃s,e.key=.string s/\e.val=.bool true)/\∀s,p s=true↔∃e∈es.toList,e.key=.string s
def bL.new(w:World):bL (w.alloc (.map #[] 0)) w.heap.size (λ_=>false):=⟨#[],0,SY,λe a=>(by cases a),λs=>⟨λh=>(by cases h),λ⟨e,a,_⟩=>(by cases a)⟩⟩
def bL.keep{w w' b p}(h:bL w b p)(c:w'.heap[b]? =w.heap[b]?):bL w' b p:=by obtain⟨es,a,d,e,f⟩:=h;exact⟨es,a,c.trans d,e,f⟩
def bL.lt{w b p}(h:bL w b p):b<w.heap.size:=by obtain⟨es,a,c,_⟩:=h;exact(R7.1 c).1
def bL.iff{w b p q}(h:bL w b p)(c:∀s,p s=q s):bL w b q:=by obtain⟨es,a,d,e,f⟩:=h;exact⟨es,a,d,e,λs=>by rw[<-c];exact f s⟩
theorem nM(s):∀(es) (i),(∀e∈es,∃t,e.key=.string t/\e.val=.bool true)->
 (∃j,∃h,Instr.findNow .string (.string s) es i=some (some (i+j,.bool true))/\es[j].key=.string s)\/(Instr.findNow .string (.string s) es i=some none/\∀e∈es,e.key≠ .string s)
 | [],i,_=>.inr ⟨rfl,λe p=>(by cases p)⟩
 |e::es,i,h=>by
  obtain⟨t,k,q⟩:=h e (Vh ..);obtain⟨r,l,g⟩:=sameNow_of_keys (d:=.string) (a:=.string s) (b:=.string t) (by simp[IsKey]) (by simp[IsKey]);by_cases c:s=t
  ·subst c
   rw[g.2 rfl]at l;refine .inl ⟨0,by simp,?_,k⟩;rw[Instr.findNow,k,l,q];rfl
  ·have m:r=false:=by
    cases r with
    |false=>rfl
    |true=>have:=g.1 rfl;cases this;exact absurd rfl c
   rw[m]at l;have f:Instr.findNow .string (.string s) (e::es) i=Instr.findNow .string (.string s) es (i+1):=by rw[Instr.findNow,k,l]
   rw[f];obtain⟨j,u,n,o⟩|⟨n,o⟩:=nM s es (i+1) (λx hx=>h x (UT _ hx))
   ·refine .inl ⟨j+1,by simpa using u,?_,by simpa using o⟩
    rw[n]
    congr 3
    omega
   ·refine .inr ⟨n,λx hx=>?_⟩
    obtain rfl|hx:=SE.1 hx
    ·rw[k]
     intro e;cases e;exact c rfl
    ·exact o x hx
section
variable (fs:Array Func)
def As:(Qs fs).underlying 133=some (.map 9 4):=by rw[aI];exact Tryz.underlying133
def IK:(Qs fs).underlying 9=some .string:=by rw[aI];exact Tryz.underlying9
def QJ(w):(zeroValue 4).run (Qs fs) w=.ok (.bool false) w:=by
 rw[jb];have h:((Tryz.prog.info? 4).bind (·.zero))=some (.bool false):=by kernel_rfl
 cases a:Tryz.prog.info? 4 with
 |none=>rw[a]at h;cases h
 |some i=>rw[a]at h;simp only[Ua]at h;simp[zeroValue,typeInfo,a,h]
def sL{w b p}(h:bL w b p)(s):(Instr.lookup 133 (.map (some b)) (.string s) false).run (Qs fs) w=.ok (.bool (p s)) w:=by
 obtain⟨es,c,m,o,n⟩:=h;have a:=λe=>MapKept.run_checkKey (P:=Qs fs) (w:=w) (kt:=9) (k:=.string s) (IK fs) (by simp[IsKey]) e 9999;obtain⟨j,q,d,f⟩|⟨d,f⟩:=nM s es.toList 0 o
 ·have g:p s=true:=(n s).2 ⟨_,Sg q,f⟩
  rw[g];simp[Instr.lookup,run_underlying (As fs),MapKept.run_getObj_map (P:=Qs fs) m,a,MapKept.run_findKey (P:=Qs fs) (w:=w) (IK fs) d,Result.andThen]
 ·have g:p s=false:=by
   cases i:p s with
   |false=>rfl
   |true=>obtain⟨e,r,l⟩:=(n s).1 i;exact absurd l (f e r)
  rw[g];simp[Instr.lookup,run_underlying (As fs),MapKept.run_getObj_map (P:=Qs fs) m,a,MapKept.run_findKey (P:=Qs fs) (w:=w) (IK fs) d,Result.andThen,QJ]
def kv{w b p}(h:bL w b p)(s):
 ∃w',(Instr.mapUpdate 133 (.map (some b)) (.string s) (.bool true)).run (Qs fs) w=.ok () w'/\bL w' b (λt=>p t||decide (t=s))/\(∀B,B<=b->Below B w w')/\ae w w':=by
 obtain⟨es,m,n,E,C⟩:=h;have y:=λe=>MapKept.run_checkKey (P:=Qs fs) (w:=w) (kt:=9) (k:=.string s) (IK fs) (by simp[IsKey]) e 9999;have far:∀o:Obj,(∀B,B<=b->Below B w {w with heap:=w.heap.setIfInBounds b o})/\ae w {w with heap:=w.heap.setIfInBounds b o}:=λo=>by
  refine⟨λB M=>⟨rfl,rfl,rfl,by simp,λk q=>(heap_set n).2 k (by omega)⟩,λk c e f q=>?_⟩;have F:k≠b:=by rintro rfl;rw[n]at q;cases q
  exact((heap_set n).2 k F).trans q
 obtain⟨j,K,D,q⟩|⟨D,q⟩:=nM s es.toList 0 E
 ·have u:j<es.size:=by simpa using K
  have v:es[j].key=.string s:=by simpa using q
  rw[Se]at D;have G:(Instr.keyThatStays (.string s) (.string s)).run (Qs fs) w=.ok (.string s) w:=by
   have L:Instr.sameBits 10000 (.string s) (.string s)=true:=by obtain⟨r,J,H⟩:=sameNow_of_keys (d:=.string) (a:=.string s) (b:=.string s) (by simp[IsKey]) (by simp[IsKey]);rw[H.2 rfl]at J;simpa[Instr.sameNow,Instr.sameBits]using J
   simp[Instr.keyThatStays,L]
  refine⟨{w with heap:=w.heap.setIfInBounds b (.map (es.modify j λe=>{e with key:=.string s,val:=.bool true}) m)},?_,⟨_,_,(heap_set n).1,?_,?_⟩,far _⟩
  ·simp[Instr.mapUpdate,run_underlying (As fs),MapKept.run_getObj_map (P:=Qs fs) n,y,MapKept.run_findKey (P:=Qs fs) (w:=w) (IK fs) D,Result.andThen,u,v,G,MapKept.run_setObj_map (P:=Qs fs) _ n]
  ·intro e he
   obtain⟨i,g⟩:=Ty.1 he;rw[Tg,Tb]at g;split at g
   ·cases z:es[i]? with
    |none=>rw[z]at g;cases g
    |some x=>rw[z]at g;cases g;exact⟨s,rfl,rfl⟩
   ·exact E e (by rw[<-Tg]at g;exact Ts g)
  ·intro t
   rw[TP,Sq];constructor
   ·rintro(I|rfl)
    ·obtain⟨e,he,l⟩:=(C t).1 I
     obtain⟨i,g⟩:=Ty.1 he;rw[Tg]at g;by_cases A:j=i
     ·subst A
      have:es[j]=e:=by rw[Sv u]at g;exact SD g
      rw[this,l]at v;refine⟨{e with key:=.string s,val:=.bool true},Ty.2 ⟨j,?_⟩,v.symm⟩;rw[Tg,Tb,RZ rfl,g];rfl
     ·refine⟨e,Ty.2 ⟨i,?_⟩,l⟩
      rw[Tg,Tb,RY A,g]
    ·refine⟨{es[j]with key:=.string t,val:=.bool true},Ty.2 ⟨j,?_⟩,rfl⟩
     rw[Tg,Tb,RZ rfl,Sv u];rfl
   ·rintro⟨e,he,l⟩
    obtain⟨i,g⟩:=Ty.1 he;rw[Tg,Tb]at g;split at g
    ·cases z:es[i]? with
     |none=>rw[z]at g;cases g
     |some x=>rw[z]at g;cases g;cases l;exact .inr rfl
    ·exact .inl ((C t).2 ⟨e,by rw[<-Tg]at g;exact Ts g,l⟩)
 ·refine⟨{w with heap:=w.heap.setIfInBounds b (.map (es.push {key:=.string s,val:=.bool true,born:=m}) (m+1))},?_,⟨_,_,(heap_set n).1,?_,?_⟩,far _⟩
  ·simp[Instr.mapUpdate,run_underlying (As fs),MapKept.run_getObj_map (P:=Qs fs) n,y,MapKept.run_findKey (P:=Qs fs) (w:=w) (IK fs) D,Result.andThen,MapKept.run_setObj_map (P:=Qs fs) _ n]
  ·intro e he
   rw[Vr]at he;obtain he|he:=TS.1 he
   ·exact E e he
   ·cases TW.1 he
    exact⟨s,rfl,rfl⟩
  ·intro t
   rw[TP,Sq,Vr];constructor
   ·rintro(I|rfl)
    ·obtain⟨e,he,l⟩:=(C t).1 I
     exact⟨e,UC _ he,l⟩
    ·exact⟨_,Vs _ (TW.2 rfl),rfl⟩
   ·rintro⟨e,he,l⟩
    obtain he|he:=TS.1 he
    ·exact .inl ((C t).2 ⟨e,he,l⟩)
    ·cases TW.1 he
     cases l;exact .inr rfl
end
end Go.Proofs

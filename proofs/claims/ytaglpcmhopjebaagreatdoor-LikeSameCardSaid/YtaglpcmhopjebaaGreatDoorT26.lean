import Derived.Shelf.Strings.IndexAnyAll
import Derived.Laws.RangeAny
import Derived.Laws.Runes
import Derived.Lib.OthersKept
import Derived.Laws.IdiomStrings
import Derived.Test.YtaglpcmhopjebaaGreatDoorT25
set_option linter.all false
set_option maxRecDepth 100000
set_option maxHeartbeats 20000000
namespace Go.Proofs
open Go.Tm Go.RowKit
variable {fs:Array Func} (L:bQ fs)
def fe(kd:IntKind)(K:Nat->Prop)(w:World)(b o:Nat)(x:Int×Int×Int):Prop:=w.cell? ⟨b,o,none⟩=some (.int .i64 x.1)/\w.cell? ⟨b,o+1,none⟩=some (.int .i64 x.2.1)/\w.cell? ⟨b,o+2,none⟩=some (.int kd x.2.2)
def fe.keep{kd K w w'}(a:ae w w'){b o x}(h:fe kd K w b o x):fe kd K w' b o x:=⟨a.cell h.1,a.cell h.2.1,a.cell h.2.2⟩
def FK{a:Type}[DecidableEq a]{l m:List a}(b:l.length=m.length){j}(c:j<l.length)(h:l[j]≠m[j]'(b▸c)):decide (l=m)=false:=by refine S9 λe=>?_;subst e;exact h rfl
def FL{a:Type}[DecidableEq a]{l m:List a}(b:l.length=m.length)(h:∀j (c:j<l.length),l[j]=m[j]'(b▸c)):decide (l=m)=true:=Ta (Wk b λj d e=>h j d)
def FO{K:Nat->Prop}{v0 v1:Value}{l m:List (Int×Int×Int)}(w:World)(O:aE K 3 (fe .i64) w v0 l)(P:aE K 3 (fe .i64) w v1 m):Calls (Qs fs) 36 #[v0,v1] w λe w'=>e=.returned (.bool (decide (l=m)))/\Below w.heap.size w w':=by
 obtain⟨Q,c0,rfl,R,S,_,g0⟩:=O;obtain⟨a1,c1,rfl,T,U,_,D⟩:=P;obtain hlen|hlen:=Decidable.em (l.length=m.length)
 ·have f:((l.length:Int)!=(m.length:Int))=false:=by rw[hlen];simp
  have V:((m.length:Int)!=(m.length:Int))=false:=by simp
  have u:Hid (l.length=m.length):=hlen;have E:Hid ((∀j (F:j<l.length),∃b o,Q=some ⟨b,o,none⟩/\fe .i64 K w b (o+j*3) l[j])/\(∀j (F:j<m.length),∃b o,a1=some ⟨b,o,none⟩/\fe .i64 K w b (o+j*3) m[j])):=⟨g0,D⟩
  clear g0 D;go_enter (n36 L),Tryz.ntmps36;go_wp2;go_loopw [5] (λs wr=>∃j:Nat,j<=l.length/\s=.int .i64 j/\(∀q (d:q<l.length),q<j->l[q]=m[q]'(u.out▸d))/\Below w.heap.size w wr) (λs _=>l.length-(intOf s).toNat);case atStart=>exact⟨0,Tb _,rfl,λq d h=>by omega,Below.refl _ _⟩
  case round=>
   (obtain⟨j,F,rfl,f,a⟩:=hrel;have g:Hid ((∀q (d:q<l.length),q<j->l[q]=m[q]'(u.out▸d))/\Below w.heap.size w wr):=⟨f,a⟩);obtain i|hge:=S6 j l.length
   ·(have k:j<m.length:=by omega);(obtain⟨b,o,rfl,v,x,y⟩:=E.out.1 j i;obtain⟨b2,o2,rfl,z,A,B⟩:=E.out.2 j k;have c:=ae.below a;have v:=c.cell v;have x:=c.cell x;have y:=c.cell y;have z:=c.cell z;have A:=c.cell A;have B:=c.cell B;obtain⟨p,n⟩:=ex (l[j]);obtain⟨q,d⟩:=ex (m[j]);rw[<-n]at v x y;rw[<-d]at z A B;obtain⟨G,H,I⟩:=p;obtain⟨J,M,N⟩:=q;simp only[]at v x y z A B;have W:Hid _:=n;have X:Hid _:=d;have C:=I2 fs G H I J M N;have hG:=iF fs Og .neq (.tmp 20) (.tmp 24);have Y:(j:Int)<(l.length:Int):=by omega);(have Z:(j:Int)<(m.length:Int):=by omega);by_cases r:G=J/\H=M/\I=N
    ·rw[Ta r]at C;obtain⟨rfl,rfl,rfl⟩:=r;simp only[Ud]at C;clear f a c n d;go_wp2;go_quiet (fail);go_wp2;refine⟨⟨j+1,by omega,by go_num,λq d aa=>?_,g.out.2.fM _⟩,by simp[intOf];omega⟩;by_cases h:q<j;exact g.out.1 q d h;(obtain rfl:q=j:=by omega);exact W.out.symm.trans X.out
    (have t:l[j]≠m[j]:=λe=>by rw[<-n,<-d]at e;cases e;exact r ⟨rfl,rfl,rfl⟩);have HN:Hid _:=FK u.out i t;rw[S9 r]at C;simp only[U6]at C;clear f a c n d t r;go_wp2;go_quiet (fail);go_wp2;go_ret;exact⟨by rw[HN.out];rfl,g.out.2.fM _⟩
   clear f a;have HT:Hid _:=FL u.out λq d=>g.out.1 q d (by omega);go_wp2;go_ret;exact⟨by rw[HT.out];rfl,g.out.2⟩
 have f:((l.length:Int)!=(m.length:Int))=true:=by rw[UA];omega
 have hN:Hid (decide (l=m)=false):=S9 λe=>hlen (by rw[e]);clear g0 D;go_enter (n36 L),Tryz.ntmps36;go_wp2;go_ret;exact⟨by rw[hN.out];rfl,Below.refl _ _⟩
def C4{K:Nat->Prop}{v0 v1:Value}{l m:List (Int×Int×Int)}(w:World)(O:aE K 3 (fe .i64) w v0 l)(P:aE K 3 (fe .i64) w v1 m):Calls (Qs fs) 40 #[v0,v1] w λe w'=>e=.returned (.bool (decide (l=m)))/\Below w.heap.size w w':=by
 obtain⟨Q,c0,rfl,R,S,_,g0⟩:=O;obtain⟨a1,c1,rfl,T,U,_,D⟩:=P;obtain hlen|hlen:=Decidable.em (l.length=m.length)
 ·have f:((l.length:Int)!=(m.length:Int))=false:=by rw[hlen];simp
  have V:((m.length:Int)!=(m.length:Int))=false:=by simp
  have u:Hid (l.length=m.length):=hlen;have E:Hid ((∀j (F:j<l.length),∃b o,Q=some ⟨b,o,none⟩/\fe .i64 K w b (o+j*3) l[j])/\(∀j (F:j<m.length),∃b o,a1=some ⟨b,o,none⟩/\fe .i64 K w b (o+j*3) m[j])):=⟨g0,D⟩
  clear g0 D;go_enter (n40 L),Tryz.ntmps40;go_wp2;go_loopw [5] (λs wr=>∃j:Nat,j<=l.length/\s=.int .i64 j/\(∀q (d:q<l.length),q<j->l[q]=m[q]'(u.out▸d))/\Below w.heap.size w wr) (λs _=>l.length-(intOf s).toNat);case atStart=>exact⟨0,Tb _,rfl,λq d h=>by omega,Below.refl _ _⟩
  case round=>
   (obtain⟨j,F,rfl,f,a⟩:=hrel;have g:Hid ((∀q (d:q<l.length),q<j->l[q]=m[q]'(u.out▸d))/\Below w.heap.size w wr):=⟨f,a⟩);obtain i|hge:=S6 j l.length
   ·(have k:j<m.length:=by omega);(obtain⟨b,o,rfl,v,x,y⟩:=E.out.1 j i;obtain⟨b2,o2,rfl,z,A,B⟩:=E.out.2 j k;have c:=ae.below a;have v:=c.cell v;have x:=c.cell x;have y:=c.cell y;have z:=c.cell z;have A:=c.cell A;have B:=c.cell B;obtain⟨p,n⟩:=ex (l[j]);obtain⟨q,d⟩:=ex (m[j]);rw[<-n]at v x y;rw[<-d]at z A B;obtain⟨G,H,I⟩:=p;obtain⟨J,M,N⟩:=q;simp only[]at v x y z A B;have W:Hid _:=n;have X:Hid _:=d;have C:=za fs G H I J M N;have hG:=iF fs vc .neq (.tmp 20) (.tmp 24);have Y:(j:Int)<(l.length:Int):=by omega);(have Z:(j:Int)<(m.length:Int):=by omega);by_cases r:G=J/\H=M/\I=N
    ·rw[Ta r]at C;obtain⟨rfl,rfl,rfl⟩:=r;simp only[Ud]at C;clear f a c n d;go_wp2;go_quiet (fail);go_wp2;refine⟨⟨j+1,by omega,by go_num,λq d aa=>?_,g.out.2.fM _⟩,by simp[intOf];omega⟩;by_cases h:q<j;exact g.out.1 q d h;(obtain rfl:q=j:=by omega);exact W.out.symm.trans X.out
    (have t:l[j]≠m[j]:=λe=>by rw[<-n,<-d]at e;cases e;exact r ⟨rfl,rfl,rfl⟩);have HN:Hid _:=FK u.out i t;rw[S9 r]at C;simp only[U6]at C;clear f a c n d t r;go_wp2;go_quiet (fail);go_wp2;go_ret;exact⟨by rw[HN.out];rfl,g.out.2.fM _⟩
   clear f a;have HT:Hid _:=FL u.out λq d=>g.out.1 q d (by omega);go_wp2;go_ret;exact⟨by rw[HT.out];rfl,g.out.2⟩
 have f:((l.length:Int)!=(m.length:Int))=true:=by rw[UA];omega
 have hN:Hid (decide (l=m)=false):=S9 λe=>hlen (by rw[e]);clear g0 D;go_enter (n40 L),Tryz.ntmps40;go_wp2;go_ret;exact⟨by rw[hN.out];rfl,Below.refl _ _⟩
def C5{K:Nat->Prop}{v0 v1:Value}{l m:List (Int×Int×Int)}(w:World)(O:aE K 3 (fe .u8) w v0 l)(P:aE K 3 (fe .u8) w v1 m):Calls (Qs fs) 46 #[v0,v1] w λe w'=>e=.returned (.bool (decide (l=m)))/\Below w.heap.size w w':=by
 obtain⟨Q,c0,rfl,R,S,_,g0⟩:=O;obtain⟨a1,c1,rfl,T,U,_,D⟩:=P;obtain hlen|hlen:=Decidable.em (l.length=m.length)
 ·have f:((l.length:Int)!=(m.length:Int))=false:=by rw[hlen];simp
  have V:((m.length:Int)!=(m.length:Int))=false:=by simp
  have u:Hid (l.length=m.length):=hlen;have E:Hid ((∀j (F:j<l.length),∃b o,Q=some ⟨b,o,none⟩/\fe .u8 K w b (o+j*3) l[j])/\(∀j (F:j<m.length),∃b o,a1=some ⟨b,o,none⟩/\fe .u8 K w b (o+j*3) m[j])):=⟨g0,D⟩
  clear g0 D;go_enter (n46 L),Tryz.ntmps46;go_wp2;go_loopw [5] (λs wr=>∃j:Nat,j<=l.length/\s=.int .i64 j/\(∀q (d:q<l.length),q<j->l[q]=m[q]'(u.out▸d))/\Below w.heap.size w wr) (λs _=>l.length-(intOf s).toNat);case atStart=>exact⟨0,Tb _,rfl,λq d h=>by omega,Below.refl _ _⟩
  case round=>
   (obtain⟨j,F,rfl,f,a⟩:=hrel;have g:Hid ((∀q (d:q<l.length),q<j->l[q]=m[q]'(u.out▸d))/\Below w.heap.size w wr):=⟨f,a⟩);obtain i|hge:=S6 j l.length
   ·(have k:j<m.length:=by omega);(obtain⟨b,o,rfl,v,x,y⟩:=E.out.1 j i;obtain⟨b2,o2,rfl,z,A,B⟩:=E.out.2 j k;have c:=ae.below a;have v:=c.cell v;have x:=c.cell x;have y:=c.cell y;have z:=c.cell z;have A:=c.cell A;have B:=c.cell B;obtain⟨p,n⟩:=ex (l[j]);obtain⟨q,d⟩:=ex (m[j]);rw[<-n]at v x y;rw[<-d]at z A B;obtain⟨G,H,I⟩:=p;obtain⟨J,M,N⟩:=q;simp only[]at v x y z A B;have W:Hid _:=n;have X:Hid _:=d;have C:=I3 fs G H I J M N;have hG:=iF fs Oi .neq (.tmp 20) (.tmp 24);have Y:(j:Int)<(l.length:Int):=by omega);(have Z:(j:Int)<(m.length:Int):=by omega);by_cases r:G=J/\H=M/\I=N
    ·rw[Ta r]at C;obtain⟨rfl,rfl,rfl⟩:=r;simp only[Ud]at C;clear f a c n d;go_wp2;go_quiet (fail);go_wp2;refine⟨⟨j+1,by omega,by go_num,λq d aa=>?_,g.out.2.fM _⟩,by simp[intOf];omega⟩;by_cases h:q<j;exact g.out.1 q d h;(obtain rfl:q=j:=by omega);exact W.out.symm.trans X.out
    (have t:l[j]≠m[j]:=λe=>by rw[<-n,<-d]at e;cases e;exact r ⟨rfl,rfl,rfl⟩);have HN:Hid _:=FK u.out i t;rw[S9 r]at C;simp only[U6]at C;clear f a c n d t r;go_wp2;go_quiet (fail);go_wp2;go_ret;exact⟨by rw[HN.out];rfl,g.out.2.fM _⟩
   clear f a;have HT:Hid _:=FL u.out λq d=>g.out.1 q d (by omega);go_wp2;go_ret;exact⟨by rw[HT.out];rfl,g.out.2⟩
 have f:((l.length:Int)!=(m.length:Int))=true:=by rw[UA];omega
 have hN:Hid (decide (l=m)=false):=S9 λe=>hlen (by rw[e]);clear g0 D;go_enter (n46 L),Tryz.ntmps46;go_wp2;go_ret;exact⟨by rw[hN.out];rfl,Below.refl _ _⟩
def eM(a:Nat->Int):Nat->Nat->Int
 |0,_=>0
 |n+1,j=>if a j≠0 then a j else eM a n (j+1)
def wj(a b:Int)(c:Nat->Int)(n:Nat):Int:=if aD n a b then eM c n 0 else 2
def yp{a n j}(h:a j=0)(c:0<n):eM a n j=eM a (n-1) (j+1):=by (obtain⟨n,rfl⟩:∃k,n=k+1:=⟨n-1,by omega⟩);(conv=>lhs;unfold eM);rw[SQ (λb=>b h)];rfl
def yq{a n j}(h:a j≠0)(b:0<n):eM a n j=a j:=by (obtain⟨n,rfl⟩:∃k,n=k+1:=⟨n-1,by omega⟩);unfold eM;rw[SS h]
def aE.zg{K v l w w'}(h:aE K 2 dB w v l)(a:ae w w'):aE K 2 dB w' v l:=h.stays a λb c o x e h=>by subst e;exact dB.carry (Carry.keep a) b b o x rfl h
def aE.strs{K v l w w'}(h:aE K 1 ks w v l)(a:ae w w'):aE K 1 ks w' v l:=h.stays a λb c o x e h=>by subst e;exact ks.carry (Carry.keep a) b b o x rfl h
def aE.Pn{K v l w w'}(h:aE K 1 dj w v l)(a:ae w w'):aE K 1 dj w' v l:=h.ints a
abbrev py(fs:Array Func)(f:FuncId)(a:Array Value)(c:Nat->Int)(b:Nat->World->Prop)(j:Nat)(x:Value)(wr:World):Prop:=Calls (Qs fs) f (#[.int .i64 j,x]++a) wr λe w'=>e=.returned (.int .i64 (c j))/\b (j+1) w'
abbrev nj(fs:Array Func)(f:FuncId)(a:Array Value)(g:Nat->Int)(b:Nat->World->Prop)(c d:Int)(n:FuncId)(v:Value)(k:Nat)(w:World):Prop:=Calls (Qs fs) n #[v,.int .i64 c,.int .i64 d,.func (.func f) #[] a] w λe w'=>e=.returned (.int .i64 (wj c d g k))/\∃j,b j w'
def jQ{K:Nat->Prop}{v:Value}(f:FuncId)(h:Array Value)(t u:Int)(w:World)(g:Nat->World->Prop)(m:Nat->Int)(ef:∀a w,(callFunc f a).run (Qs fs) w=.ok (.enter f a) w)(X:g 0 w)(P:∀j wr,g j wr->ae w wr)(Q:∀j wr o,g j wr->g j (wr.alloc o)):(∀l:List Pr2,aE K 2 dB w v l->(∀j (D:j<l.length) wr,g j wr->py fs f h m g j (.agg #[.string l[j].1,.string l[j].2]) wr)->nj fs f h m g t u 97 v l.length w)/\(∀l:List Pr2,aE K 2 dB w v l->(∀j (D:j<l.length) wr,g j wr->py fs f h m g j (.agg #[.string l[j].1,.string l[j].2]) wr)->nj fs f h m g t u 103 v l.length w)/\(∀l:List uD,aE K 4 pj w v l->(∀j (D:j<l.length) wr,g j wr->py fs f h m g j (.agg #[.int .i64 l[j].kind,.int .i64 l[j].least,.int .i64 l[j].plain,.int .i64 l[j].known]) wr)->nj fs f h m g t u 78 v l.length w)/\(∀l:List (Int×Int×Int),aE K 3 (fe .u8) w v l->(∀j (D:j<l.length) wr,g j wr->py fs f h m g j (.agg #[.int .i64 l[j].1,.int .i64 l[j].2.1,.int .u8 l[j].2.2]) wr)->nj fs f h m g t u 89 v l.length w)/\(∀l:List Int,aE K 1 dj w v l->(∀j (D:j<l.length) wr,g j wr->py fs f h m g j (.int .i64 l[j]) wr)->nj fs f h m g t u 82 v l.length w)/\(∀l:List ByteArray,aE K 1 ks w v l->(∀j (D:j<l.length) wr,g j wr->py fs f h m g j (.string l[j]) wr)->nj fs f h m g t u 107 v l.length w)/\(∀l:List Mark,aE K 5 pg w v l->(∀j (D:j<l.length) wr,g j wr->∀x,(aE K 1 dj wr x l[j].aJ)->py fs f h m g j (.agg #[.string l[j].name,.string l[j].word,x,.int .i64 l[j].day,.bool l[j].known]) wr)->nj fs f h m g t u 80 v l.length w)/\(∀l:List ly,aE K 2 fA w v l->(∀j (D:j<l.length) wr,g j wr->∀x,(aE K 2 dB wr x l[j].aU)->py fs f h m g j (.agg #[.string l[j].name,x]) wr)->nj fs f h m g t u 100 v l.length w)/\(∀l:List (List ByteArray),aE K 1 js w v l->(∀j (D:j<l.length) wr,g j wr->∀x,(aE K 1 ks wr x l[j])->py fs f h m g j (x) wr)->nj fs f h m g t u 105 v l.length w):=by
 have Y:Hid _:=X;have J:Hid ((∀j wr,g j wr->ae w wr)/\(∀j wr o,g j wr->g j (wr.alloc o))):=⟨P,Q⟩
 clear P Q X;refine⟨?_,?_,?_,?_,?_,?_,?_,?_,?_⟩;all_goals
  intro l R y;unfold py at y;unfold nj;have e63:=e63 L;have N:=dA fs (n63 L) (l.length:Int) t u w;obtain⟨ao,c,rfl,aa,hc,ab,z⟩:=R;have E:Hid _:=y;have F:Hid _:=z;clear y z;first
  |(go_enter (n97 L),Tryz.ntmps97;have C:Fin 1:=0)
  |(go_enter (n103 L),Tryz.ntmps103;have C:Fin 2:=0)
  |(go_enter (n78 L),Tryz.ntmps78;have C:Fin 3:=0)
  |(go_enter (n89 L),Tryz.ntmps89;have C:Fin 3:=0)
  |(go_enter (n82 L),Tryz.ntmps82;have C:Fin 3:=0)
  |(go_enter (n107 L),Tryz.ntmps107;have C:Fin 3:=0)
  |(go_enter (n80 L),Tryz.ntmps80;have C:Fin 3:=0)
  |(go_enter (n100 L),Tryz.ntmps100;have C:Fin 3:=0)
  |(go_enter (n105 L),Tryz.ntmps105;have C:Fin 3:=0)
  cases H:aD l.length t u with
  |false=>
   have U:Hid (wj t u m l.length=2):=by unfold Hid wj;rw[H];rfl
   unfold aD at H;rw[H]at N;clear H;go_wp2_with (first|(go_at_call 63;refine N.mono ?_;clear N;rintro e w2 ⟨rfl,rfl⟩))
   go_ret;exact⟨by rw[U.out];rfl,0,Y.out⟩
  |true=>
   have U:Hid (wj t u m l.length=eM m l.length 0):=by unfold Hid wj;rw[H];rfl
   unfold aD at H;rw[H]at N;clear H;go_wp2_with (first|(go_at_call 63;refine N.mono ?_;clear N;rintro e w2 ⟨rfl,rfl⟩))
   go_loopw [20] (λs wr=>∃j:Nat,j<=l.length/\s=.int .i64 j/\g j wr/\eM m l.length 0=eM m (l.length-j) j) (λs _=>l.length-(intOf s).toNat)
   case atStart=>exact⟨0,Tb _,rfl,Y.out,rfl⟩
   case round=>
    obtain⟨j,D,rfl,r,O⟩:=hrel;have HF:Hid _:=O;have HI:Hid _:=r;obtain i|hge:=S6 j l.length
    ·have d:=J.out.1 j wr r
     first
     |(obtain⟨b,p,rfl,k,q,I,S⟩:=F.out j i;have k:=d.cell k;have q:=d.cell q;have I:=d.cell I;have S:=d.cell S;have n:=E.out j i _ (J.out.2 j wr (.cells #[.int .i64 l[j].kind,.int .i64 l[j].least,.int .i64 l[j].plain,.int .i64 l[j].known] 69) r))
     |(obtain⟨b,p,rfl,k,q,I⟩:=F.out j i;have k:=d.cell k;have q:=d.cell q;have I:=d.cell I;have n:=E.out j i _ (J.out.2 j wr (.cells #[.int .i64 l[j].1,.int .i64 l[j].2.1,.int .u8 l[j].2.2] 96) r))
     |(obtain⟨b,p,rfl,k⟩:=F.out j i;have k:=d.cell k;rw[TY]at k;have n:=E.out j i _ r)
     |(obtain⟨b,p,rfl,k⟩:=F.out j i;have k:=d.cell k;rw[TY]at k;have n:=E.out j i _ r)
     |(obtain⟨b,p,rfl,k,q,⟨x,I,A⟩,S,Z⟩:=F.out j i;have k:=d.cell k;have q:=d.cell q;have I:=d.cell I;have S:=d.cell S;have Z:=d.cell Z;obtain⟨G,V,rfl,xl,_⟩:=A.Pn d;have n:=E.out j i _ (J.out.2 j wr (.cells #[.string l[j].name,.string l[j].word,.slice G l[j].aJ.length V,.int .i64 l[j].day,.bool l[j].known] 38) r) _ (A.Pn (d.trans (ae.alloc _ _)));clear A)
     |(obtain⟨b,p,rfl,k,x,q,A⟩:=F.out j i;have k:=d.cell k;have q:=d.cell q;obtain⟨G,V,rfl,xl,_⟩:=A.zg d;have n:=E.out j i _ (J.out.2 j wr (.cells #[.string l[j].name,.slice G l[j].aU.length V] 50) r) _ (A.zg (d.trans (ae.alloc _ _)));clear A)
     |(obtain⟨b,p,rfl,x,k,A⟩:=F.out j i;have k:=d.cell k;rw[TY]at k;obtain⟨G,V,rfl,xl,_⟩:=A.strs d;have n:=E.out j i _ r _ (A.strs d);clear A)
     |(have _:Fin 1:=C;obtain⟨b,p,rfl,k,q⟩:=F.out j i;have k:=d.cell k;have q:=d.cell q;have n:=E.out j i _ (J.out.2 j wr (.cells #[.string l[j].1,.string l[j].2] 46) r))
     |(have _:Fin 2:=C;obtain⟨b,p,rfl,k,q⟩:=F.out j i;have k:=d.cell k;have q:=d.cell q;have n:=E.out j i _ (J.out.2 j wr (.cells #[.string l[j].1,.string l[j].2] 51) r))
     by_cases T:m j=0
     ·have W:Hid _:=(O.trans (yp T (by omega)))
      rw[T]at n;clear O r d T;go_wp2_with (first|(go_at_fn f;refine n.mono ?_;rintro e w3 ⟨rfl,B⟩;have M:Hid _:=B;clear B))
      exact⟨⟨j+1,by omega,by go_num,M.out,W.out⟩,by simp[intOf];omega⟩
     ·have W:Hid _:=(O.trans (yq T (by omega)))
      have ad:(m j !=0)=true:=by simpa using T
      clear O r d;go_wp2_with (first|(go_at_fn f;refine n.mono ?_;rintro e w3 ⟨rfl,B⟩;have M:Hid _:=B;clear B))
      go_ret;exact⟨by rw[U.out,W.out];rfl,_,M.out⟩
    ·clear O r
     go_wp2;go_ret;have hx:=HF.out;rw[show l.length-j=0 by omega]at hx;exact⟨by rw[U.out,hx];rfl,_,HI.out⟩
end Go.Proofs
namespace Go.Proofs
open Go.Shelf Go.Tm Go.RowKit
variable {fs:Array Func} (L:bQ fs)
def On:((Tryz.prog.info? 240).bind (·.zero))=some (.agg (Array.replicate 256 (.bool false))):=by kernel_rfl
def Oo:(Tryz.prog.info? 240).map (·.size)=some 256:=by kernel_rfl
def CX(fs w):(zeroValue 240).run (Qs fs) w=.ok (.agg (Array.replicate 256 (.bool false))) w:=by rw[jb];have h:=On;cases a:Tryz.prog.info? 240 with|none=>rw[a]at h;cases h|some i=>rw[a]at h;simp only[UO]at h;simp[zeroValue,typeInfo,a,h]
def CY(s:ByteArray)(c:Int)(w:World):Calls (Qs fs) 193 #[.string s,.int .u8 c] w λe w'=>e=.returned (.int .i64 (Lib.indexByte s.data.toList c.toNat.toUInt8))/\w'=w:=Any.strings_IndexByte {(jv L).1 with} s c w
def uJ(s a:ByteArray)(w:World)(d:2<=a.size)(g:8<s.size)(h:s.size<4294967281)(f:a.size<4294967281)(c:∀(j:Nat) b,a.data.toList[j]? =some b->b.toNat<128):Calls (Qs fs) 165 #[.string s,.string a] w λe w'=>e=.returned (.int .i64 (Lib.indexAny s.data.toList a.data.toList))/\Below w.heap.size w w':=
 (Any.strings_IndexAny_long {(jv L).1 with} (CX fs) Oo s a w d g h f c).mono λe w' ⟨i,d⟩=>⟨i,by rw[d];exact((Below.refl _ _).alloc (SU _) _).alloc (by simp) _⟩
def wh(w s pos):Below w.heap.size w (w.iter s pos):=(Below.refl _ _).alloc (SU _) _
def indexByte_none(l c)(h:∀b∈l,b≠c):Lib.indexByte l c= -1:=by (have a:=Lib.contains_iff_indexByte l c;have d:l.contains c=false:=by cases e:l.contains c with|false=>rfl|true=>exact absurd rfl (h c (by simpa using e)));rw[d]at a;have f:=of_decide_eq_false a.symm;have g:=Lib.indexByte_ge l c;omega
def CZ(s:ByteArray)(k){b}(h:b∈(s.extract k s.size).data.toList):b∈s.data.toList:=by (have e:(s.extract k s.size).data=s.data.extract k s.size:=by simp);rw[e,Array.toList_extract]at h;exact List.mem_of_mem_drop (List.mem_of_mem_take h)
def C3(r:Int)(w:World):Calls (Qs fs) 194 #[.int .i32 r] w λe w'=>e=.returned (.bool (Utf8.valid r))/\w'=w:=by
 by_cases c:0<=r
 ·by_cases b:r<55296
  ·(have a:Hid (Utf8.valid r=true):=by unfold Hid Utf8.valid;simp;omega);go_enter (n194 L),Tryz.ntmps194;go_wp2;go_ret;exact⟨by rw[a.out];rfl,rfl⟩
  have d:decide (r<55296)=false:=S9 b;by_cases f:57343<r
  ·by_cases g:r<=1114111
   ·(have a:Hid (Utf8.valid r=true):=by unfold Hid Utf8.valid;simp;omega);go_enter (n194 L),Tryz.ntmps194;go_wp2;go_ret;exact⟨by rw[a.out];rfl,rfl⟩
   (have a:Hid (Utf8.valid r=false):=by unfold Hid Utf8.valid;simp;omega);go_enter (n194 L),Tryz.ntmps194;go_wp2;go_ret;exact⟨by rw[a.out];rfl,rfl⟩
  have a:Hid (Utf8.valid r=false):=by unfold Hid Utf8.valid;simp;omega
  go_enter (n194 L),Tryz.ntmps194;go_wp2;go_ret;exact⟨by rw[a.out];rfl,rfl⟩
 have a:Hid (Utf8.valid r=false):=by unfold Hid Utf8.valid;simp;omega
 go_enter (n194 L),Tryz.ntmps194;go_wp2;go_ret;exact⟨by rw[a.out];rfl,rfl⟩
def sV(s:ByteArray)(r:Int)(w:World)(C:∀(j:Nat) b,s.data.toList[j]? =some b->b.toNat<128)(hz:s.size<=1000)(H:128<=r)(h2:r<=2147483647):Calls (Qs fs) 175 #[.string s,.int .i32 r] w λe w'=>e=.returned (.int .i64 (-1))/\Below w.heap.size w w':=by
 have Q4:=Q4 L;have Q5:=Q5 L;have c:=C3 L r w;have HS:Hid _:=C;clear C;have I:decide (r<128)=false:=S9 (by omega);by_cases D:r=65533
 ·subst D;clear c;go_enter (n175 L),Tryz.ntmps175;go_wp2
  go_loopg [5,6] s.size (λg _ _ wx=>∃i:Nat,i+g=s.size/\wx=w.iter s i)
  case atStart=>exact⟨0,by omega,rfl⟩
  case round=>
   obtain⟨i,J,rfl⟩:=hrel;cases gk with
   |zero=>(obtain rfl:i=s.size:=by omega);have l:=λty=>run_next_end (P:=Qs fs) w s s.size ty (by omega);go_wp2;go_ret;exact⟨rfl,wh w s _⟩
   |succ g=>(have n:i<s.size:=by omega);(obtain⟨x,a⟩:∃x:UInt8,s[i]'n=x:=⟨_,rfl⟩);(have d:x.toNat<128:=HS.out i x (by rw[<-a];exact Lib.data_getElem? s i n);have l:=λty=>run_next_ascii (P:=Qs fs) w s i ty n (by rw[a];exact d);rw[a]at l;have K:((x.toNat:Int)==65533)=false:=by rw[Tu];omega);clear a;go_wp2;(go_roundg g);(case measure=>omega);case rel=>exact⟨i+1,by omega,rfl⟩
 have M:(r==65533)=false:=by rw[Tu];exact D
 cases m:Utf8.valid r with
 |false=>rw[m]at c;clear m;go_enter (n175 L),Tryz.ntmps175;go_wp2_with (first|(go_at_call 194;refine c.mono ?_;clear c;rintro e w2 ⟨rfl,rfl⟩));go_ret;exact⟨rfl,Below.refl _ _⟩
 |true=>
  obtain⟨N,O,o⟩:=encode_facts r m H;have p:=λw=>run_convert_int_string (P:=Qs fs) w 21 9 .i32 r (by rw[aL];rfl) (by rw[aL];exact Tryz.underlying9);obtain⟨t,q⟩:=ex (Utf8.encode r);rw[<-q]at N O p;simp only[<-q]at o;obtain⟨k,E⟩:∃k,t.size=k+1:=⟨t.size-1,by omega⟩
  have f:k<t.size:=by omega
  have Q:128<=(t[k]'f).toNat:=by have:=o (by omega);simpa[E]using this
  clear o q;rw[m]at c;clear m;have R:IntKind.i64.wrap ((t.size:Int)-1)=k:=by rw[E];exact(wrap_i64 _ (by omega)).trans (by omega)
  go_enter (n175 L),Tryz.ntmps175;go_wp2_with (first|(go_at_call 194;refine c.mono ?_;clear c;rintro e w2 ⟨rfl,rfl⟩))
  go_step3
  go_wp2;have v:=λu wx=>CY L u ((t[k]'f).toNat:Int) wx;go_loopw [9] (λz wr=>z=.int .i64 k/\wr=w2) (λ_ _=>0);case atStart=>exact⟨rfl,rfl⟩
  case round=>
   obtain⟨rfl,rfl⟩:=hrel;obtain hks|hks:=S6 k s.size
   ·obtain⟨x,a⟩:=ex (s[k]'hks);(obtain⟨y,A⟩:=ex (t[k]'f);have S:x.toNat<128:=HS.out k x (by rw[a];exact Lib.data_getElem? s k hks);rw[<-A]at Q v;have T:((x.toNat:Int)!=(y.toNat:Int))=true:=by rw[UA];omega);(have F:(k:Int)<(s.size:Int):=by omega);(have G:(k:Int)<(t.size:Int):=by omega);(have U:IntKind.i64.wrap ((k:Int)+1)=(k:Int)+1:=wrap_i64 _ (by omega);have V:(k:Int)+1<=(s.size:Int):=by omega);(have W:(0:Int)<=(k:Int)+1:=by omega);(have X:s[k]=x:=a.symm;have Y:t[k]=y:=A.symm;have B:∀wx,Calls (Qs fs) 193 #[.string (s.extract (k+1) s.size),.int .u8 y.toNat] wx λe w'=>e=.returned (.int .i64 (-1))/\w'=wx:=λwx=>by have h:=v (s.extract (k+1) s.size) wx;rw[show((y.toNat:Int)).toNat.toUInt8=y by simp,indexByte_none _ y (λb Z e=>by subst e;obtain⟨j,hj⟩:=Ug.1 (CZ s (k+1) Z);have:=HS.out j b hj;omega)]at h;exact h);clear a A v;go_wp2
    (go_step3);go_wp2;go_quiet (fail);go_wp2;go_quiet (first|(go_at_call 193;exact(B _).mono λe w' h=>⟨h.1,_,h.2⟩));go_wp2;simp(config:={zetaDelta:=true}) only [Exit.noGoto_ret,Exit.inBlock,Exit.then];go_ret;exact⟨rfl,(Below.refl _ _).fM _⟩
   go_wp2;rw[Exit.noGoto_ret];go_ret;exact⟨rfl,Below.refl _ _⟩
def rj(s:ByteArray)(r:Int)(w:World)(a:0<=r)(b:r<128):Calls (Qs fs) 175 #[.string s,.int .i32 r] w λe w'=>e=.returned (.int .i64 (Lib.indexByte s.data.toList r.toNat.toUInt8))/\w'=w:=Any.strings_IndexRune_ascii {(jv L).1 with} s r w a b
def pa(L:bQ fs)(n w):Calls (Qs fs) 176 #[.int .i64 n] w λe w'=>e=.returned (.bool (decide (8<n)))/\w'=w:=Any.strings_shouldUseASCIISet {(jv L).1 with} n w
def jP{w w' B k pos s}(h:Below B w w')(b:B<=k):Below B w (w'.iterAt k s pos):=
 ⟨h.os,h.tape,h.output,by simp[World.iterAt,h.size],λi a=>by
  have:k≠i:=by omega
  simp[World.iterAt,Te this,h.block i a]⟩
def AI(s pos)(h:pos<s.size)(d:128<=(s[pos]'h).toNat):pos+(Utf8.decode s pos).2<=s.size/\∀j,j<(Utf8.decode s pos).2->128<=(s.get! (pos+j)).toNat:=by (have c:128<=(s.get! (pos+0)).toNat:=by rw[get_at s pos h];exact d);(have e:¬(s.get! (pos+0)).toNat<128:=by omega);(have one:∀j,j<1->128<=(s.get! (pos+j)).toNat:=λj a=>by (obtain rfl:j=0:=by omega);exact c);simp only[Utf8.decode,e,Tk];split;rename_i b;simp only[Td,T6,Tj]at b;split;refine⟨by omega,λj a=>?_⟩;(match j,a with|0,_=>exact c|1,_=>omega);exact⟨by omega,one⟩;split;rename_i b;simp only[Td,T6,Tj]at b;split;refine⟨by omega,λj a=>?_⟩;(match j,a with|0,_=>exact c|1,_=>omega|2,_=>omega);exact⟨by omega,one⟩;split;rename_i b;simp only[Td,T6,Tj]at b;split;refine⟨by omega,λj a=>?_⟩;(match j,a with|0,_=>exact c|1,_=>omega|2,_=>omega|3,_=>omega);exact⟨by omega,one⟩;exact⟨by omega,one⟩
def FJ{s a i n}(h:Lib.NoAny s a i)(f:∀c∈a,c.toNat<128)(g:∀j b,j<n->s[i+j]? =some b->128<=b.toNat):Lib.NoAny s a (i+n):=by intro j b k e;obtain h1|h1:=S6 j i;exact h j b h1 e;have:=g (j-i) b (by omega) (by rw[show i+(j-i)=j by omega];exact e);cases d:a.contains b with|false=>rfl|true=>have:=f b (by simpa using d);omega
def sW(s a:ByteArray)(w:World)(h2:2<=a.size)(h8:s.size<=8)(B:a.size<=1000)(V:∀(j:Nat) b,a.data.toList[j]? =some b->b.toNat<128):Calls (Qs fs) 165 #[.string s,.string a] w λe w'=>e=.returned (.int .i64 (Lib.indexAny s.data.toList a.data.toList))/\Below w.heap.size w w':=by
 have QZ:=QZ L;have Q0:=Q0 L;have W:a.toList.isEmpty=false:=by rw[Lib.toList_data];cases h:a.data.toList with|nil=>have:=Lib.size_eq a;rw[h,Th]at this;omega|cons _ _=>rfl
 have aa:((a.size:Int)==1)=false:=Tu.2 (by omega);have R:=pa L (s.size:Int) w;rw[S9 (by omega)]at R;have HS:Hid _:=V;clear V;go_enter (n165 L),Tryz.ntmps165;go_wp2_with (first|(go_at_call 176;refine R.mono ?_;clear R;rintro e w2 ⟨rfl,rfl⟩));obtain⟨N,Q⟩:=ex (w2.heap.size);have S:Hid ((w2.iter s 0).heap[N]? =some (.stringIter s 0)):=by rw[Q];exact World.iter_heap w2 s 0
 rw[<-Q];have p:Hid _:=Q;clear Q
 go_loopg [9,10] s.size (λg _ _ G=>∃i:Nat,s.size<=i+g/\i<=s.size/\G.heap[N]? =some (.stringIter s i)/\Lib.NoAny s.data.toList a.data.toList i/\Below N w2 G)
 case atStart=>exact⟨0,by omega,Tb _,S.out,Lib.NoAny.zero _ _,by rw[p.out];exact wh w2 s 0⟩
 case round=>
  obtain⟨i,ab,ad,f,J,A⟩:=hrel;have K:Hid _:=J;have H:Hid _:=A;have M:N<wr.heap.size:=(S8.1 f).1;clear J A;cases gk with
  |zero=>(obtain rfl:i=s.size:=by omega);have m:=λty=>Lib.run_next_end_at (P:=Qs fs) wr N s s.size ty f (by omega);go_wp2;go_ret;exact⟨by rw[Lib.indexAny_none (by rw[<-Lib.size_eq];exact K.out)];rfl,by have:=H.out;rwa[p.out]at this⟩
  |succ g=>
   (have v:i<s.size\/i=s.size:=by omega);obtain v|rfl:=v
   ·(obtain⟨x,I⟩:∃x:UInt8,s[i]'v=x:=⟨_,rfl⟩);(have C:s.data.toList[i]? =some x:=by rw[<-I];exact Lib.data_getElem? s i v);have X:Hid _:=C;by_cases D:x.toNat<128
    ·have m:=λty=>Lib.run_next_ascii_at (P:=Qs fs) wr N s i ty f v (by rw[I];exact D)
     rw[I]at m;have d:=Lib.contains_iff_indexByte a.data.toList x;have u:=λG=>rj L a (x.toNat:Int) G (by omega) (by omega);rw[show((x.toNat:Int)).toNat.toUInt8=x by simp]at u;have l:=Lib.iterAt_heap wr N s i (i+1) f;have E:Hid _:=l;clear f l C I;cases o:a.data.toList.contains x with
     |false=>rw[o]at d;have y:¬((0:Int)<=Lib.indexByte a.data.toList x):=of_decide_eq_false d.symm;have F:Hid _:=o;clear d o;obtain⟨z,B⟩:=ex (Lib.indexByte a.data.toList x);rw[<-B]at y u;clear B;go_wp2_with (first|(go_at_call 175;refine(u _).mono ?_;clear u;rintro e w3 ⟨rfl,rfl⟩));(go_roundg g);(case measure=>omega);case rel=>exact⟨i+1,by omega,by omega,E.out,Lib.NoAny.succ K.out X.out F.out,jP H.out (SU _)⟩
     |true=>rw[o]at d;have q:(0:Int)<=Lib.indexByte a.data.toList x:=TG d.symm;have F:Hid _:=o;clear d o;obtain⟨z,B⟩:=ex (Lib.indexByte a.data.toList x);rw[<-B]at q u;clear B;go_wp2_with (first|(go_at_call 175;refine(u _).mono ?_;clear u;rintro e w3 ⟨rfl,rfl⟩));go_ret;exact⟨by rw[Lib.indexAny_hit K.out X.out F.out];rfl,by have:=jP (k:=N) (pos:=i+1) (s:=s) H.out (SU _);rwa[show Below N w2=Below w2.heap.size w2 by rw[p.out]]at this⟩
    have q:128<=(s[i]'v).toNat:=by rw[I];omega
    have m:=λty=>Lib.run_next_any_at (P:=Qs fs) wr N s i ty f v;obtain⟨d1,d2⟩:=decode_high s i v q;obtain⟨d3,d4⟩:=AI s i v q;have d5:=decode_le s i;obtain⟨r,Y⟩:=ex ((Utf8.decode s i).1);obtain⟨n,Z⟩:=ex ((Utf8.decode s i).2);rw[<-Y]at m d1 d5;rw[<-Z]at m d2 d3 d4;have t:Lib.NoAny s.data.toList a.data.toList (i+n):=FJ K.out (λc hc=>by
     obtain⟨j,T⟩:=Ug.1 hc;exact HS.out j c T) (λj b T hb=>by
      have:=d4 j T;have y:i+j<s.size:=by omega
      have e:=get_at s (i+j) y;rw[Uc]at e;rw[e]at this;rw[Lib.data_getElem? s (i+j) y]at hb;cases hb;exact this)
    have U:Hid _:=t;have u:=λG=>sV L a (r:Int) G HS.out B (by omega) (by omega);have l:=Lib.iterAt_heap wr N s i (i+n) f;have E:Hid _:=l;clear f l C I q Y Z d4 t;go_wp2_with (first|(go_at_call 175;refine(u _).mono ?_;clear u;rintro e w3 ⟨rfl,O⟩))
    (go_roundg g);(case measure=>omega);case rel=>exact⟨i+n,by omega,by omega,(O.block N (by simpa[World.iterAt]using M)).trans E.out,U.out,(jP H.out (SU _)).trans (O.mono (by have:=(jP (k:=N) (pos:=i+n) (s:=s) H.out (SU _)).size;have:=p.out;omega))⟩
   have m:=λty=>Lib.run_next_end_at (P:=Qs fs) wr N s s.size ty f (by omega);go_wp2;go_ret;exact⟨by rw[Lib.indexAny_none (by rw[<-Lib.size_eq];exact K.out)];rfl,by have:=H.out;rwa[p.out]at this⟩
end Go.Proofs
namespace Go.Proofs
open Go.Tm Go.RowKit
variable {fs:Array Func} (L:bQ fs)
def cs4:ByteArray:=⟨#[10,58,59,44]⟩
def zh:∀(j:Nat) b,cs4.data.toList[j]? =some b->b.toNat<128:=by intro j b h;have a:b∈cs4.data.toList:=Ue h;have:cs4.data.toList=[10,58,59,44]:=rfl;rw[this]at a;simp only[Ts,TB,TC]at a;rcases a with rfl|rfl|rfl|rfl<;>decide
def AJ(l):decide (0<=Lib.indexAny l cs4.data.toList)=l.any qG:=by induction l with|nil=>rfl|cons b l a=>(have c:cs4.data.toList.contains b=qG b:=by have:cs4.data.toList=[10,58,59,44]:=rfl;rw[this];unfold qG;simp only[List.contains_cons,List.contains_nil,Bool.or_false,Bool.or_assoc]);rw[Lib.indexAny,c,List.any_cons,<-a];have:=Lib.indexAny_ge cs4.data.toList l;cases qG b with|true=>simp|false=>simp only[Tn,Tk,Vn];by_cases h:Lib.indexAny l cs4.data.toList= -1;rw[h];rfl;rw[SQ (by simpa using h)];rw[Ta (by omega),Ta (by omega)]
def FP(s:ByteArray)(w:World)(a:s.size<4294967281):Calls (Qs fs) 165 #[.string s,.string cs4] w λe w'=>e=.returned (.int .i64 (Lib.indexAny s.data.toList cs4.data.toList))/\Below w.heap.size w w':=by obtain h|h:=S6 8 s.size;exact uJ L s cs4 w (by decide) h a (by decide) zh;exact sW L s cs4 w (by decide) h (by decide) zh
def yt(s:ByteArray)(w:World)(d:s.size<4294967281):Calls (Qs fs) 135 #[.string s,.string cs4] w λe w'=>e=.returned (.bool (s.data.toList.any qG))/\Below w.heap.size w w':=by have QW:=QW L;have c:=FP L s w d;have a:Hid _:=AJ s.data.toList;obtain⟨z,b⟩:=ex (Lib.indexAny s.data.toList cs4.data.toList);rw[<-b]at c a;clear b;obtain⟨ch,hch⟩:=ex cs4;rw[<-hch]at c⊢;clear hch;go_enter (n135 L),Tryz.ntmps135;go_wp2_with (first|(go_at_call 165;refine c.mono ?_;clear c;rintro e w2 ⟨rfl,f⟩));go_ret;exact⟨by rw[<-a.out];rfl,f⟩
def wm(s:ByteArray)(a:Int)(w:World)(k:a<=1000):Calls (Qs fs) 99 #[.string s,.int .i64 a] w λe w'=>e=.returned (.bool (bS s a))/\Below w.heap.size w w':=by
 have QN:=QN L;have e63:=e63 L;have c:=dA fs (n63 L) (s.size:Int) 1 a w;have i:Hid (bS s a=(aD s.size 1 a&& !s.data.toList.any qG)):=rfl;cases b:aD s.size 1 a with
 |false=>(have d:Hid (bS s a=false):=by rw[i.out,b];rfl);unfold aD at b;rw[b]at c;clear b;go_enter (n99 L),Tryz.ntmps99;go_wp2_with (first|(go_at_call 63;refine c.mono ?_;clear c;rintro e w2 ⟨rfl,rfl⟩));go_ret;exact⟨by rw[d.out];rfl,Below.refl _ _⟩
 |true=>(have d:Hid (bS s a= !s.data.toList.any qG):=by rw[i.out,b];rfl);(unfold aD at b;rw[b]at c;have g:s.size<4294967281:=by rw[Td,Tj,Tj]at b;omega);clear b;have f:=yt L s w g;rw[show cs4=(⟨#[10,58,59,44]⟩:ByteArray)from rfl]at f;obtain⟨z,j⟩:=ex (s.data.toList.any qG);rw[<-j]at f d;clear j;go_enter (n99 L),Tryz.ntmps99;go_wp2_with (first|(go_at_call 63;refine c.mono ?_;clear c;rintro e w2 ⟨rfl,rfl⟩)|(go_at_call 135;refine f.mono ?_;clear f;rintro e w3 ⟨rfl,h⟩));go_ret;exact⟨by rw[d.out];rfl,h⟩
def AK(w:World)(v:Value)(s:ByteArray):Prop:=∃g cap,v=.slice (some ⟨g,0,none⟩) s.size cap/\s.size<=cap/\∀j (h:j<s.size),w.cell? ⟨g,j,none⟩=some (.int .u8 (s[j]'h).toNat)
def zi(fs s w):∃v w',(convert 9 120 (.string s)).run (Qs fs) w=.ok v w'/\AK w' v s/\Below w.heap.size w w':=by have h:=run_bytes_of_string (P:=Qs fs) w 9 120 5 s (by rw[aL];exact Tryz.underlying9) (by rw[aL];exact Tryz.underlying120) (by rw[aL];exact Tryz.underlying5);refine⟨_,_,h,⟨w.heap.size,_,rfl,grownCap_ge _ _ _ _,λj a=>?_⟩,((Below.refl _ _).drew.alloc (SU _) _)⟩;exact cell_of_heap (w:=(w.drew.alloc _)) (b:=w.heap.size) TM j _ (bytesRow_at s _ j a)
def C6(f p v s w)(H:∀a w,(callFunc f a).run (Qs fs) w=.ok (.enter f a) w)(C:AK w v s)(I:s.size<=1000000) (u:∀(c) wx,Calls (Qs fs) f (#[.int .u8 c.toNat]++#[]) wx λe w'=>e=.returned (.bool (p c))/\w'=wx):Calls (Qs fs) 143 #[v,.func (.func f) #[] #[]] w λe w'=>(∃z,e=.returned (.int .i64 z)/\decide (0<=z)=s.data.toList.any p)/\w'=w:=by
 obtain⟨g,cap,rfl,y,t⟩:=C;have D:Hid _:=t;have m:∀(c:UInt8) wx,Calls (Qs fs) f #[.int .u8 c.toNat] wx λe w'=>e=.returned (.bool (p c))/\w'=wx:=u;have E:Hid _:=m;clear t u m;go_enter (n143 L),Tryz.ntmps143;go_wp2;go_loopw [8] (λz wr=>∃j:Nat,j<=s.size/\z=.int .i64 j/\wr=w/\∀i (k:i<s.size),i<j->p s[i]=false) (λz _=>s.size-(intOf z).toNat);case atStart=>exact⟨0,Tb _,rfl,rfl,λi k h=>by omega⟩
 case round=>
  obtain⟨j,J,rfl,rfl,n⟩:=hrel;have A:Hid _:=n;clear n;obtain d|hge:=S6 j s.size
  ·have t:=D.out j d;(have o:=E.out (s[j]'d) wr;have F:(j:Int)<(s.size:Int):=by omega);obtain⟨x,q⟩:=ex (s[j]'d);rw[<-q]at t o;have B:Hid _:=q;clear q;cases b:p x with|true=>rw[b]at o;have l:Hid _:=b;clear b;go_wp2_with (first|(go_at_fn f;refine o.mono ?_;rintro e w3 ⟨rfl,rfl⟩));go_ret;refine⟨⟨(j:Int),rfl,?_⟩,rfl⟩;rw[Ta (by omega),UF,T9];exact⟨x,by rw[B.out];exact Ue (Lib.data_getElem? s j d),l.out⟩|false=>rw[b]at o;have l:Hid _:=b;clear b;go_wp2_with (first|(go_at_fn f;refine o.mono ?_;rintro e w3 ⟨rfl,rfl⟩));refine⟨⟨j+1,by omega,by go_num,trivial,λi k G=>?_⟩,by simp[intOf];omega⟩;by_cases h:i<j;exact A.out i k h;(obtain rfl:i=j:=by omega);exact B.out▸l.out
  go_wp2;go_ret;refine⟨⟨-1,rfl,?_⟩,rfl⟩;rw[S9 (by decide),UF,Vf];intro x q;obtain⟨i,k⟩:=Ug.1 q;have r:i<s.size:=by have:=(Uk.1 k).1;rw[<-Lib.size_eq]at this;exact this
  rw[Lib.data_getElem? s i r]at k;cases k;rw[A.out i r (by omega)];exact Vx
def nN(f p v s w)(i:∀a w,(callFunc f a).run (Qs fs) w=.ok (.enter f a) w)(j:AK w v s)(b:s.size<=1000000) (d:∀(c) g,Calls (Qs fs) f (#[.int .u8 c.toNat]++#[]) g λe w'=>e=.returned (.bool (p c))/\w'=g):Calls (Qs fs) 120 #[v,.func (.func f) #[] #[]] w λe w'=>e=.returned (.bool (s.data.toList.any p))/\w'=w:=by have QU:=QU L;have h:=C6 L f p v s w i j b d;clear d;go_enter (n120 L),Tryz.ntmps120;go_wp2_with (first|(go_at_call 143;refine h.mono ?_;clear h;rintro e w2 ⟨⟨z,rfl,b⟩,rfl⟩;have k:Hid _:=b;clear b));go_ret;exact⟨by rw[<-k.out];rfl,rfl⟩
def FQ(c:UInt8)(w:World):Calls (Qs fs) 121 #[.int .u8 c.toNat] w λe w'=>e=.returned (.bool (!bG c))/\w'=w:=by have e91:=e91 L;have a:=mG fs (n91 L) (c.toNat:Int) w;have d:Hid (bG c=(decide (97<=(c.toNat:Int))&&decide ((c.toNat:Int)<=122))):=rfl;rw[<-d]at a;obtain⟨b,f⟩:=ex (bG c);rw[<-f]at a⊢;clear f d;go_enter (n121 L),Tryz.ntmps121;go_wp2_with (first|(go_at_call 91;refine a.mono ?_;clear a;rintro e w2 ⟨rfl,rfl⟩));go_ret;exact⟨rfl,rfl⟩
def LC(c:UInt8)(w:World):Calls (Qs fs) 136 #[.int .u8 c.toNat] w λe w'=>e=.returned (.bool (!(bG c||nC c)))/\w'=w:=by
 have e91:=e91 L;have a:=mG fs (n91 L) (c.toNat:Int) w;have f:bG c=(decide (97<=(c.toNat:Int))&&decide ((c.toNat:Int)<=122)):=rfl;rw[<-f]at a;have g:nC c=(decide (48<=(c.toNat:Int))&&decide ((c.toNat:Int)<=57)):=rfl;cases d:bG c with
 |true=>rw[d]at a;clear d f g;go_enter (n136 L),Tryz.ntmps136;go_wp2_with (first|(go_at_call 91;refine a.mono ?_;clear a;rintro e w2 ⟨rfl,rfl⟩));go_ret;exact⟨rfl,rfl⟩
 |false=>
  rw[d]at a;have h:Hid _:=g;clear d f g;by_cases i:(c.toNat:Int)<48
  ·(have b:Hid (nC c=false):=by rw[Hid,h.out];simp;omega);go_enter (n136 L),Tryz.ntmps136;go_wp2_with (first|(go_at_call 91;refine a.mono ?_;clear a;rintro e w2 ⟨rfl,rfl⟩));go_ret;exact⟨by rw[b.out];rfl,rfl⟩
  have j:decide ((c.toNat:Int)<48)=false:=S9 i;by_cases k:(57:Int)<(c.toNat:Int)
  ·(have b:Hid (nC c=false):=by rw[Hid,h.out];simp;omega);go_enter (n136 L),Tryz.ntmps136;go_wp2_with (first|(go_at_call 91;refine a.mono ?_;clear a;rintro e w2 ⟨rfl,rfl⟩));go_ret;exact⟨by rw[b.out];rfl,rfl⟩
  have l:decide ((57:Int)<(c.toNat:Int))=false:=S9 k;have b:Hid (nC c=true):=by rw[Hid,h.out];simp;omega
  go_enter (n136 L),Tryz.ntmps136;go_wp2_with (first|(go_at_call 91;refine a.mono ?_;clear a;rintro e w2 ⟨rfl,rfl⟩));go_ret;exact⟨by rw[b.out];rfl,rfl⟩
def tQ(l:List UInt8)(p):l.any (λc=> !p c)= !l.all p:=by induction l with|nil=>rfl|cons x l a=>rw[List.any_cons,U7,a,Bool.not_and]
def j8(s:ByteArray)(d a:Int)(w:World)(o:a<=1000):Calls (Qs fs) 72 #[.string s,.int .i64 d,.int .i64 a] w λe w'=>e=.returned (.bool (bN s d a))/\Below w.heap.size w w':=by
 have NV:=NV L;have e63:=e63 L;have f:=dA fs (n63 L) (s.size:Int) d a w;have m:Hid (bN s d a=(aD s.size d a&&s.data.toList.all bG)):=rfl;cases b:aD s.size d a with
 |false=>(have i:Hid (bN s d a=false):=by rw[Hid,m.out,b];rfl);unfold aD at b;rw[b]at f;clear b;go_enter (n72 L),Tryz.ntmps72;go_wp2_with (first|(go_at_call 63;refine f.mono ?_;clear f;rintro e w2 ⟨rfl,rfl⟩));go_ret;exact⟨by rw[i.out];rfl,Below.refl _ _⟩
 |true=>(have i:Hid (bN s d a=s.data.toList.all bG):=by rw[Hid,m.out,b];rfl);(unfold aD at b;rw[b]at f;have k:s.size<=1000000:=by rw[Td,Tj,Tj]at b;omega);clear b;obtain⟨v,w1,p,g,h⟩:=zi fs s w;have l:Hid _:=h;have j:=nN L 121 (λc=> !bG c) v s w1 (Sj L) g k (λc q=>FQ L c q);rw[tQ]at j;obtain⟨z,n⟩:=ex (s.data.toList.all bG);rw[<-n]at j i;clear n g h;go_enter (n72 L),Tryz.ntmps72;go_wp2_with (first|(go_at_call 63;refine f.mono ?_;clear f;rintro e w2 ⟨rfl,rfl⟩)|(go_at_call 120;refine j.mono ?_;clear j;rintro e w3 ⟨rfl,rfl⟩));go_ret;exact⟨by rw[i.out];simp,l.out⟩
def Ih(s:ByteArray)(w:World):Calls (Qs fs) 102 #[.string s] w λe w'=>e=.returned (.bool (gn s))/\Below w.heap.size w w':=by
 have NV:=NV L;have e63:=e63 L;have e91:=e91 L;have g:=dA fs (n63 L) (s.size:Int) 1 10 w;have r:Hid (gn s=(aD s.size 1 10&&(s.data.toList.head?.any bG)&&s.data.toList.all λc=>bG c||nC c)):=rfl;cases b:aD s.size 1 10 with
 |false=>(have d:Hid (gn s=false):=by rw[Hid,r.out,b];rfl);unfold aD at b;rw[b]at g;clear b;go_enter (n102 L),Tryz.ntmps102;go_wp2_with (first|(go_at_call 63;refine g.mono ?_;clear g;rintro e w2 ⟨rfl,rfl⟩));go_ret;exact⟨by rw[d.out];rfl,Below.refl _ _⟩
 |true=>(have d:(gn s=((s.data.toList.head?.any bG)&&s.data.toList.all λc=>bG c||nC c)):=by rw[r.out,b];rfl);(unfold aD at b;rw[b]at g;have m:1<=s.size/\s.size<=1000000:=by rw[Td,Tj,Tj]at b;omega);(clear b;have n:0<s.size:=by omega);(obtain⟨x,o⟩:=ex (s[0]'n);have a:s.data.toList.head?.any bG=bG x:=by have u:=Lib.data_getElem? s 0 n;rw[List.head?_eq_getElem?,u,o];rfl);rw[a]at d;have h:=λp=>mG fs (n91 L) (x.toNat:Int) p;have i:bG x=(decide (97<=(x.toNat:Int))&&decide ((x.toNat:Int)<=122)):=rfl;rw[<-i]at h;have y:s[0]'n=x:=o.symm;clear i a o;cases f:bG x with|false=>rw[f]at h d;have HV:Hid _:=d;clear d f;go_enter (n102 L),Tryz.ntmps102;go_wp2_with (first|(go_at_call 63;refine g.mono ?_;clear g;rintro e w2 ⟨rfl,rfl⟩)|(go_at_call 91;refine(h _).mono ?_;clear h;rintro e w3 ⟨rfl,rfl⟩));go_ret;exact⟨by rw[HV.out];rfl,Below.refl _ _⟩|true=>rw[f]at h d;have HV:Hid _:=d;clear d f;obtain⟨v,w1,A,j,k⟩:=zi fs s w;have q:Hid _:=k;have l:=nN L 136 (λc=> !(bG c||nC c)) v s w1 (Sk L) j m.2 (λc p=>LC L c p);rw[tQ _ (λc=>bG c||nC c)]at l;obtain⟨z,t⟩:=ex (s.data.toList.all (λc=>bG c||nC c));rw[<-t]at l HV;clear t j k;go_enter (n102 L),Tryz.ntmps102;go_wp2_with (first|(go_at_call 63;refine g.mono ?_;clear g;rintro e w2 ⟨rfl,rfl⟩)|(go_at_call 91;refine(h _).mono ?_;clear h;rintro e w3 ⟨rfl,rfl⟩)|(go_at_call 120;refine l.mono ?_;clear l;rintro e w3 ⟨rfl,rfl⟩));go_ret;exact⟨by rw[HV.out];simp,q.out⟩
end Go.Proofs

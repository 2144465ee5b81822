import Derived.Shelf.Strings.IndexAnyAll
import Derived.Laws.RangeAny
import Derived.Laws.Runes
import Derived.Lib.OthersKept
import Derived.Laws.IdiomStrings
import Derived.Test.YtaglpcmhopjebaaGreatDoorU25
set_option linter.all false
set_option maxRecDepth 100000
set_option maxHeartbeats 20000000
namespace Go.Proofs
open Go.Tm Go.RowKit
variable {fs:Array Func} (L:bT fs)
def fj(kd:IntKind)(K:Nat->Prop)(w:World)(b o:Nat)(x:Int×Int×Int):Prop:=w.cell? ⟨b,o,none⟩=some (.int .i64 x.1)/\w.cell? ⟨b,o+1,none⟩=some (.int .i64 x.2.1)/\w.cell? ⟨b,o+2,none⟩=some (.int kd x.2.2)
def fj.keep{kd K w w'}(a:ae w w'){b o x}(h:fj kd K w b o x):fj kd K w' b o x:=⟨a.cell h.1,a.cell h.2.1,a.cell h.2.2⟩
def GL{a:Type}[DecidableEq a]{l m:List a}(b:l.length=m.length){j}(c:j<l.length)(h:l[j]≠m[j]'(b▸c)):decide (l=m)=false:=by refine Uj λe=>?_;subst e;exact h rfl
def GM{a:Type}[DecidableEq a]{l m:List a}(b:l.length=m.length)(h:∀j (c:j<l.length),l[j]=m[j]'(b▸c)):decide (l=m)=true:=Um (XC b λj d e=>h j d)
def GN{K:Nat->Prop}{v0 v1:Value}{l m:List (Int×Int×Int)}(w:World)(O:aE K 3 (fj .i64) w v0 l)(P:aE K 3 (fj .i64) w v1 m):Calls (Qs fs) 36 #[v0,v1] w λe w'=>e=.returned (.bool (decide (l=m)))/\Below w.heap.size w w':=by
 obtain⟨Q,c0,rfl,R,S,_,g0⟩:=O;obtain⟨a1,c1,rfl,T,U,_,D⟩:=P;obtain hlen|hlen:=Decidable.em (l.length=m.length)
 ·have f:((l.length:Int)!=(m.length:Int))=false:=by rw[hlen];simp
  have V:((m.length:Int)!=(m.length:Int))=false:=by simp
  have u:Hid (l.length=m.length):=hlen;have E:Hid ((∀j (F:j<l.length),∃b o,Q=some ⟨b,o,none⟩/\fj .i64 K w b (o+j*3) l[j])/\(∀j (F:j<m.length),∃b o,a1=some ⟨b,o,none⟩/\fj .i64 K w b (o+j*3) m[j])):=⟨g0,D⟩
  clear g0 D;go_enter (n36 L),Tryz.ntmps36;go_wp2;go_loopw [5] (λs wr=>∃j:Nat,j<=l.length/\s=.int .i64 j/\(∀q (d:q<l.length),q<j->l[q]=m[q]'(u.out▸d))/\Below w.heap.size w wr) (λs _=>l.length-(intOf s).toNat);case atStart=>exact⟨0,Ul _,rfl,λq d h=>by omega,Below.refl _ _⟩
  case round=>
   (obtain⟨j,F,rfl,f,a⟩:=hrel;have g:Hid ((∀q (d:q<l.length),q<j->l[q]=m[q]'(u.out▸d))/\Below w.heap.size w wr):=⟨f,a⟩);obtain i|hge:=Uh j l.length
   ·(have k:j<m.length:=by omega);(obtain⟨b,o,rfl,v,x,y⟩:=E.out.1 j i;obtain⟨b2,o2,rfl,z,A,B⟩:=E.out.2 j k;have c:=ae.below a;have v:=c.cell v;have x:=c.cell x;have y:=c.cell y;have z:=c.cell z;have A:=c.cell A;have B:=c.cell B;obtain⟨p,n⟩:=ex (l[j]);obtain⟨q,d⟩:=ex (m[j]);rw[<-n]at v x y;rw[<-d]at z A B;obtain⟨G,H,I⟩:=p;obtain⟨J,M,N⟩:=q;simp only[]at v x y z A B;have W:Hid _:=n;have X:Hid _:=d;have C:=JY fs G H I J M N;have hG:=iW fs Pe .neq (.tmp 20) (.tmp 24);have Y:(j:Int)<(l.length:Int):=by omega);(have Z:(j:Int)<(m.length:Int):=by omega);by_cases r:G=J/\H=M/\I=N
    ·rw[Um r]at C;obtain⟨rfl,rfl,rfl⟩:=r;simp only[Vu]at C;clear f a c n d;go_wp2;go_quiet (fail);go_wp2;refine⟨⟨j+1,by omega,by go_num,λq d aa=>?_,g.out.2.fU _⟩,by simp[intOf];omega⟩;by_cases h:q<j;exact g.out.1 q d h;(obtain rfl:q=j:=by omega);exact W.out.symm.trans X.out
    (have t:l[j]≠m[j]:=λe=>by rw[<-n,<-d]at e;cases e;exact r ⟨rfl,rfl,rfl⟩);have HN:Hid _:=GL u.out i t;rw[Uj r]at C;simp only[Wt]at C;clear f a c n d t r;go_wp2;go_quiet (fail);go_wp2;go_ret;exact⟨by rw[HN.out];rfl,g.out.2.fU _⟩
   clear f a;have HT:Hid _:=GM u.out λq d=>g.out.1 q d (by omega);go_wp2;go_ret;exact⟨by rw[HT.out];rfl,g.out.2⟩
 have f:((l.length:Int)!=(m.length:Int))=true:=by rw[VP];omega
 have hN:Hid (decide (l=m)=false):=Uj λe=>hlen (by rw[e]);clear g0 D;go_enter (n36 L),Tryz.ntmps36;go_wp2;go_ret;exact⟨by rw[hN.out];rfl,Below.refl _ _⟩
def D5{K:Nat->Prop}{v0 v1:Value}{l m:List (Int×Int×Int)}(w:World)(O:aE K 3 (fj .i64) w v0 l)(P:aE K 3 (fj .i64) w v1 m):Calls (Qs fs) 40 #[v0,v1] w λe w'=>e=.returned (.bool (decide (l=m)))/\Below w.heap.size w w':=by
 obtain⟨Q,c0,rfl,R,S,_,g0⟩:=O;obtain⟨a1,c1,rfl,T,U,_,D⟩:=P;obtain hlen|hlen:=Decidable.em (l.length=m.length)
 ·have f:((l.length:Int)!=(m.length:Int))=false:=by rw[hlen];simp
  have V:((m.length:Int)!=(m.length:Int))=false:=by simp
  have u:Hid (l.length=m.length):=hlen;have E:Hid ((∀j (F:j<l.length),∃b o,Q=some ⟨b,o,none⟩/\fj .i64 K w b (o+j*3) l[j])/\(∀j (F:j<m.length),∃b o,a1=some ⟨b,o,none⟩/\fj .i64 K w b (o+j*3) m[j])):=⟨g0,D⟩
  clear g0 D;go_enter (n40 L),Tryz.ntmps40;go_wp2;go_loopw [5] (λs wr=>∃j:Nat,j<=l.length/\s=.int .i64 j/\(∀q (d:q<l.length),q<j->l[q]=m[q]'(u.out▸d))/\Below w.heap.size w wr) (λs _=>l.length-(intOf s).toNat);case atStart=>exact⟨0,Ul _,rfl,λq d h=>by omega,Below.refl _ _⟩
  case round=>
   (obtain⟨j,F,rfl,f,a⟩:=hrel;have g:Hid ((∀q (d:q<l.length),q<j->l[q]=m[q]'(u.out▸d))/\Below w.heap.size w wr):=⟨f,a⟩);obtain i|hge:=Uh j l.length
   ·(have k:j<m.length:=by omega);(obtain⟨b,o,rfl,v,x,y⟩:=E.out.1 j i;obtain⟨b2,o2,rfl,z,A,B⟩:=E.out.2 j k;have c:=ae.below a;have v:=c.cell v;have x:=c.cell x;have y:=c.cell y;have z:=c.cell z;have A:=c.cell A;have B:=c.cell B;obtain⟨p,n⟩:=ex (l[j]);obtain⟨q,d⟩:=ex (m[j]);rw[<-n]at v x y;rw[<-d]at z A B;obtain⟨G,H,I⟩:=p;obtain⟨J,M,N⟩:=q;simp only[]at v x y z A B;have W:Hid _:=n;have X:Hid _:=d;have C:=zU fs G H I J M N;have hG:=iW fs vZ .neq (.tmp 20) (.tmp 24);have Y:(j:Int)<(l.length:Int):=by omega);(have Z:(j:Int)<(m.length:Int):=by omega);by_cases r:G=J/\H=M/\I=N
    ·rw[Um r]at C;obtain⟨rfl,rfl,rfl⟩:=r;simp only[Vu]at C;clear f a c n d;go_wp2;go_quiet (fail);go_wp2;refine⟨⟨j+1,by omega,by go_num,λq d aa=>?_,g.out.2.fU _⟩,by simp[intOf];omega⟩;by_cases h:q<j;exact g.out.1 q d h;(obtain rfl:q=j:=by omega);exact W.out.symm.trans X.out
    (have t:l[j]≠m[j]:=λe=>by rw[<-n,<-d]at e;cases e;exact r ⟨rfl,rfl,rfl⟩);have HN:Hid _:=GL u.out i t;rw[Uj r]at C;simp only[Wt]at C;clear f a c n d t r;go_wp2;go_quiet (fail);go_wp2;go_ret;exact⟨by rw[HN.out];rfl,g.out.2.fU _⟩
   clear f a;have HT:Hid _:=GM u.out λq d=>g.out.1 q d (by omega);go_wp2;go_ret;exact⟨by rw[HT.out];rfl,g.out.2⟩
 have f:((l.length:Int)!=(m.length:Int))=true:=by rw[VP];omega
 have hN:Hid (decide (l=m)=false):=Uj λe=>hlen (by rw[e]);clear g0 D;go_enter (n40 L),Tryz.ntmps40;go_wp2;go_ret;exact⟨by rw[hN.out];rfl,Below.refl _ _⟩
def D6{K:Nat->Prop}{v0 v1:Value}{l m:List (Int×Int×Int)}(w:World)(O:aE K 3 (fj .u8) w v0 l)(P:aE K 3 (fj .u8) w v1 m):Calls (Qs fs) 46 #[v0,v1] w λe w'=>e=.returned (.bool (decide (l=m)))/\Below w.heap.size w w':=by
 obtain⟨Q,c0,rfl,R,S,_,g0⟩:=O;obtain⟨a1,c1,rfl,T,U,_,D⟩:=P;obtain hlen|hlen:=Decidable.em (l.length=m.length)
 ·have f:((l.length:Int)!=(m.length:Int))=false:=by rw[hlen];simp
  have V:((m.length:Int)!=(m.length:Int))=false:=by simp
  have u:Hid (l.length=m.length):=hlen;have E:Hid ((∀j (F:j<l.length),∃b o,Q=some ⟨b,o,none⟩/\fj .u8 K w b (o+j*3) l[j])/\(∀j (F:j<m.length),∃b o,a1=some ⟨b,o,none⟩/\fj .u8 K w b (o+j*3) m[j])):=⟨g0,D⟩
  clear g0 D;go_enter (n46 L),Tryz.ntmps46;go_wp2;go_loopw [5] (λs wr=>∃j:Nat,j<=l.length/\s=.int .i64 j/\(∀q (d:q<l.length),q<j->l[q]=m[q]'(u.out▸d))/\Below w.heap.size w wr) (λs _=>l.length-(intOf s).toNat);case atStart=>exact⟨0,Ul _,rfl,λq d h=>by omega,Below.refl _ _⟩
  case round=>
   (obtain⟨j,F,rfl,f,a⟩:=hrel;have g:Hid ((∀q (d:q<l.length),q<j->l[q]=m[q]'(u.out▸d))/\Below w.heap.size w wr):=⟨f,a⟩);obtain i|hge:=Uh j l.length
   ·(have k:j<m.length:=by omega);(obtain⟨b,o,rfl,v,x,y⟩:=E.out.1 j i;obtain⟨b2,o2,rfl,z,A,B⟩:=E.out.2 j k;have c:=ae.below a;have v:=c.cell v;have x:=c.cell x;have y:=c.cell y;have z:=c.cell z;have A:=c.cell A;have B:=c.cell B;obtain⟨p,n⟩:=ex (l[j]);obtain⟨q,d⟩:=ex (m[j]);rw[<-n]at v x y;rw[<-d]at z A B;obtain⟨G,H,I⟩:=p;obtain⟨J,M,N⟩:=q;simp only[]at v x y z A B;have W:Hid _:=n;have X:Hid _:=d;have C:=JZ fs G H I J M N;have hG:=iW fs Pg .neq (.tmp 20) (.tmp 24);have Y:(j:Int)<(l.length:Int):=by omega);(have Z:(j:Int)<(m.length:Int):=by omega);by_cases r:G=J/\H=M/\I=N
    ·rw[Um r]at C;obtain⟨rfl,rfl,rfl⟩:=r;simp only[Vu]at C;clear f a c n d;go_wp2;go_quiet (fail);go_wp2;refine⟨⟨j+1,by omega,by go_num,λq d aa=>?_,g.out.2.fU _⟩,by simp[intOf];omega⟩;by_cases h:q<j;exact g.out.1 q d h;(obtain rfl:q=j:=by omega);exact W.out.symm.trans X.out
    (have t:l[j]≠m[j]:=λe=>by rw[<-n,<-d]at e;cases e;exact r ⟨rfl,rfl,rfl⟩);have HN:Hid _:=GL u.out i t;rw[Uj r]at C;simp only[Wt]at C;clear f a c n d t r;go_wp2;go_quiet (fail);go_wp2;go_ret;exact⟨by rw[HN.out];rfl,g.out.2.fU _⟩
   clear f a;have HT:Hid _:=GM u.out λq d=>g.out.1 q d (by omega);go_wp2;go_ret;exact⟨by rw[HT.out];rfl,g.out.2⟩
 have f:((l.length:Int)!=(m.length:Int))=true:=by rw[VP];omega
 have hN:Hid (decide (l=m)=false):=Uj λe=>hlen (by rw[e]);clear g0 D;go_enter (n46 L),Tryz.ntmps46;go_wp2;go_ret;exact⟨by rw[hN.out];rfl,Below.refl _ _⟩
def eT(a:Nat->Int):Nat->Nat->Int
 |0,_=>0
 |n+1,j=>if a j≠0 then a j else eT a n (j+1)
def xn(lo hi:Int)(a:Nat->Int)(n:Nat):Int:=if aw n lo hi then eT a n 0 else 2
def y8{a n j}(h:a j=0)(c:0<n):eT a n j=eT a (n-1) (j+1):=by (obtain⟨n,rfl⟩:∃k,n=k+1:=⟨n-1,by omega⟩);(conv=>lhs;unfold eT);rw[Uc (λb=>b h)];rfl
def y9{a n j}(h:a j≠0)(b:0<n):eT a n j=a j:=by (obtain⟨n,rfl⟩:∃k,n=k+1:=⟨n-1,by omega⟩);unfold eT;rw[Ud h]
def aE.zZ{K v l w w'}(h:aE K 2 dA w v l)(a:ae w w'):aE K 2 dA w' v l:=h.stays a λb c o x e h=>by subst e;exact dA.carry (Carry.keep a) b b o x rfl h
def aE.strs{K v l w w'}(h:aE K 1 kG w v l)(a:ae w w'):aE K 1 kG w' v l:=h.stays a λb c o x e h=>by subst e;exact kG.carry (Carry.keep a) b b o x rfl h
def aE.Qz{K v l w w'}(h:aE K 1 dG w v l)(a:ae w w'):aE K 1 dG w' v l:=h.ints a
abbrev pX(fs:Array Func)(f:FuncId)(a:Array Value)(c:Nat->Int)(b:Nat->World->Prop)(j:Nat)(x:Value)(wr:World):Prop:=Calls (Qs fs) f (#[.int .i64 j,x]++a) wr λe w'=>e=.returned (.int .i64 (c j))/\b (j+1) w'
abbrev nL(fs:Array Func)(f:FuncId)(a:Array Value)(c:Nat->Int)(b:Nat->World->Prop)(lo hi:Int)(n:FuncId)(v:Value)(k:Nat)(w:World):Prop:=Calls (Qs fs) n #[v,.int .i64 lo,.int .i64 hi,.func (.func f) #[] a] w λe w'=>e=.returned (.int .i64 (xn lo hi c k))/\∃j,b j w'
def j9{K:Nat->Prop}{v:Value}(f:FuncId)(h:Array Value)(lo hi:Int)(w:World)(g:Nat->World->Prop)(m:Nat->Int)(ef:∀a w,(callFunc f a).run (Qs fs) w=.ok (.enter f a) w)(V:g 0 w)(N:∀j wr,g j wr->ae w wr)(O:∀j wr o,g j wr->g j (wr.alloc o)):(∀l:List Pr2,aE K 2 dA w v l->(∀j (B:j<l.length) wr,g j wr->pX fs f h m g j (.agg #[.string l[j].1,.string l[j].2]) wr)->nL fs f h m g lo hi 97 v l.length w)/\(∀l:List Pr2,aE K 2 dA w v l->(∀j (B:j<l.length) wr,g j wr->pX fs f h m g j (.agg #[.string l[j].1,.string l[j].2]) wr)->nL fs f h m g lo hi 103 v l.length w)/\(∀l:List vu,aE K 4 pP w v l->(∀j (B:j<l.length) wr,g j wr->pX fs f h m g j (.agg #[.int .i64 l[j].kind,.int .i64 l[j].least,.int .i64 l[j].plain,.int .i64 l[j].known]) wr)->nL fs f h m g lo hi 78 v l.length w)/\(∀l:List (Int×Int×Int),aE K 3 (fj .u8) w v l->(∀j (B:j<l.length) wr,g j wr->pX fs f h m g j (.agg #[.int .i64 l[j].1,.int .i64 l[j].2.1,.int .u8 l[j].2.2]) wr)->nL fs f h m g lo hi 89 v l.length w)/\(∀l:List Int,aE K 1 dG w v l->(∀j (B:j<l.length) wr,g j wr->pX fs f h m g j (.int .i64 l[j]) wr)->nL fs f h m g lo hi 82 v l.length w)/\(∀l:List ByteArray,aE K 1 kG w v l->(∀j (B:j<l.length) wr,g j wr->pX fs f h m g j (.string l[j]) wr)->nL fs f h m g lo hi 107 v l.length w)/\(∀l:List Mark,aE K 5 pO w v l->(∀j (B:j<l.length) wr,g j wr->∀t,(aE K 1 dG wr t l[j].aW)->pX fs f h m g j (.agg #[.string l[j].name,.string l[j].word,t,.int .i64 l[j].day,.bool l[j].known]) wr)->nL fs f h m g lo hi 80 v l.length w)/\(∀l:List fT,aE K 2 eZ w v l->(∀j (B:j<l.length) wr,g j wr->∀t,(aE K 2 dA wr t l[j].aP)->pX fs f h m g j (.agg #[.string l[j].name,t]) wr)->nL fs f h m g lo hi 100 v l.length w)/\(∀l:List (List ByteArray),aE K 1 jJ w v l->(∀j (B:j<l.length) wr,g j wr->∀t,(aE K 1 kG wr t l[j])->pX fs f h m g j (t) wr)->nL fs f h m g lo hi 105 v l.length w):=by
 have W:Hid _:=V;have H:Hid ((∀j wr,g j wr->ae w wr)/\(∀j wr o,g j wr->g j (wr.alloc o))):=⟨N,O⟩
 clear N O V;refine⟨?_,?_,?_,?_,?_,?_,?_,?_,?_⟩;all_goals
  intro l P u;unfold pX at u;unfold nL;have e63:=e63 L;have J:=dI fs (n63 L) (l.length:Int) lo hi w;obtain⟨ao,c,rfl,Z,hc,aa,x⟩:=P;have C:Hid _:=u;have D:Hid _:=x;clear u x;first
  |(go_enter (n97 L),Tryz.ntmps97;have A:Fin 1:=0)
  |(go_enter (n103 L),Tryz.ntmps103;have A:Fin 2:=0)
  |(go_enter (n78 L),Tryz.ntmps78;have A:Fin 3:=0)
  |(go_enter (n89 L),Tryz.ntmps89;have A:Fin 3:=0)
  |(go_enter (n82 L),Tryz.ntmps82;have A:Fin 3:=0)
  |(go_enter (n107 L),Tryz.ntmps107;have A:Fin 3:=0)
  |(go_enter (n80 L),Tryz.ntmps80;have A:Fin 3:=0)
  |(go_enter (n100 L),Tryz.ntmps100;have A:Fin 3:=0)
  |(go_enter (n105 L),Tryz.ntmps105;have A:Fin 3:=0)
  cases F:aw l.length lo hi with
  |false=>
   have S:Hid (xn lo hi m l.length=2):=by unfold Hid xn;rw[F];rfl
   unfold aw at F;rw[F]at J;clear F;go_wp2_with (first|(go_at_call 63;refine J.mono ?_;clear J;rintro e w2 ⟨rfl,rfl⟩))
   go_ret;exact⟨by rw[S.out];rfl,0,W.out⟩
  |true=>
   have S:Hid (xn lo hi m l.length=eT m l.length 0):=by unfold Hid xn;rw[F];rfl
   unfold aw at F;rw[F]at J;clear F;go_wp2_with (first|(go_at_call 63;refine J.mono ?_;clear J;rintro e w2 ⟨rfl,rfl⟩))
   go_loopw [20] (λs wr=>∃j:Nat,j<=l.length/\s=.int .i64 j/\g j wr/\eT m l.length 0=eT m (l.length-j) j) (λs _=>l.length-(intOf s).toNat)
   case atStart=>exact⟨0,Ul _,rfl,W.out,rfl⟩
   case round=>
    obtain⟨j,B,rfl,r,M⟩:=hrel;have HF:Hid _:=M;have HI:Hid _:=r;obtain i|hge:=Uh j l.length
    ·have d:=H.out.1 j wr r
     first
     |(obtain⟨b,p,rfl,k,q,G,Q⟩:=D.out j i;have k:=d.cell k;have q:=d.cell q;have G:=d.cell G;have Q:=d.cell Q;have n:=C.out j i _ (H.out.2 j wr (.cells #[.int .i64 l[j].kind,.int .i64 l[j].least,.int .i64 l[j].plain,.int .i64 l[j].known] 69) r))
     |(obtain⟨b,p,rfl,k,q,G⟩:=D.out j i;have k:=d.cell k;have q:=d.cell q;have G:=d.cell G;have n:=C.out j i _ (H.out.2 j wr (.cells #[.int .i64 l[j].1,.int .i64 l[j].2.1,.int .u8 l[j].2.2] 96) r))
     |(obtain⟨b,p,rfl,k⟩:=D.out j i;have k:=d.cell k;rw[Vd]at k;have n:=C.out j i _ r)
     |(obtain⟨b,p,rfl,k⟩:=D.out j i;have k:=d.cell k;rw[Vd]at k;have n:=C.out j i _ r)
     |(obtain⟨b,p,rfl,k,q,⟨t,G,y⟩,Q,X⟩:=D.out j i;have k:=d.cell k;have q:=d.cell q;have G:=d.cell G;have Q:=d.cell Q;have X:=d.cell X;obtain⟨E,T,rfl,xl,_⟩:=y.Qz d;have n:=C.out j i _ (H.out.2 j wr (.cells #[.string l[j].name,.string l[j].word,.slice E l[j].aW.length T,.int .i64 l[j].day,.bool l[j].known] 38) r) _ (y.Qz (d.trans (ae.alloc _ _)));clear y)
     |(obtain⟨b,p,rfl,k,t,q,y⟩:=D.out j i;have k:=d.cell k;have q:=d.cell q;obtain⟨E,T,rfl,xl,_⟩:=y.zZ d;have n:=C.out j i _ (H.out.2 j wr (.cells #[.string l[j].name,.slice E l[j].aP.length T] 50) r) _ (y.zZ (d.trans (ae.alloc _ _)));clear y)
     |(obtain⟨b,p,rfl,t,k,y⟩:=D.out j i;have k:=d.cell k;rw[Vd]at k;obtain⟨E,T,rfl,xl,_⟩:=y.strs d;have n:=C.out j i _ r _ (y.strs d);clear y)
     |(have _:Fin 1:=A;obtain⟨b,p,rfl,k,q⟩:=D.out j i;have k:=d.cell k;have q:=d.cell q;have n:=C.out j i _ (H.out.2 j wr (.cells #[.string l[j].1,.string l[j].2] 46) r))
     |(have _:Fin 2:=A;obtain⟨b,p,rfl,k,q⟩:=D.out j i;have k:=d.cell k;have q:=d.cell q;have n:=C.out j i _ (H.out.2 j wr (.cells #[.string l[j].1,.string l[j].2] 51) r))
     by_cases R:m j=0
     ·have U:Hid _:=(M.trans (y8 R (by omega)))
      rw[R]at n;clear M r d R;go_wp2_with (first|(go_at_fn f;refine n.mono ?_;rintro e w3 ⟨rfl,z⟩;have I:Hid _:=z;clear z))
      exact⟨⟨j+1,by omega,by go_num,I.out,U.out⟩,by simp[intOf];omega⟩
     ·have U:Hid _:=(M.trans (y9 R (by omega)))
      have ab:(m j !=0)=true:=by simpa using R
      clear M r d;go_wp2_with (first|(go_at_fn f;refine n.mono ?_;rintro e w3 ⟨rfl,z⟩;have I:Hid _:=z;clear z))
      go_ret;exact⟨by rw[S.out,U.out];rfl,_,I.out⟩
    ·clear M r
     go_wp2;go_ret;have Y:=HF.out;rw[show l.length-j=0 by omega]at Y;exact⟨by rw[S.out,Y];rfl,_,HI.out⟩
end Go.Proofs
namespace Go.Proofs
open Go.Shelf Go.Tm Go.RowKit
variable {fs:Array Func} (L:bT fs)
def Pm:((Tryz.prog.info? 240).bind (·.zero))=some (.agg (Array.replicate 256 (.bool false))):=by kernel_rfl
def Pn:(Tryz.prog.info? 240).map (·.size)=some 256:=by kernel_rfl
def D1(fs w):(zeroValue 240).run (Qs fs) w=.ok (.agg (Array.replicate 256 (.bool false))) w:=by rw[jr];have h:=Pm;cases hi:Tryz.prog.info? 240 with|none=>rw[hi]at h;cases h|some i=>rw[hi]at h;simp only[Wc]at h;simp[zeroValue,typeInfo,hi,h]
def D2(s:ByteArray)(c:Int)(w:World):Calls (Qs fs) 193 #[.string s,.int .u8 c] w λe w'=>e=.returned (.int .i64 (Lib.indexByte s.data.toList c.toNat.toUInt8))/\w'=w:=Any.strings_IndexByte {(jL L).1 with} s c w
def vB(s a:ByteArray)(w:World)(d:2<=a.size)(g:8<s.size)(h:s.size<4294967281)(f:a.size<4294967281)(c:∀(j:Nat) b,a.data.toList[j]? =some b->b.toNat<128):Calls (Qs fs) 165 #[.string s,.string a] w λe w'=>e=.returned (.int .i64 (Lib.indexAny s.data.toList a.data.toList))/\Below w.heap.size w w':=
 (Any.strings_IndexAny_long {(jL L).1 with} (D1 fs) Pn s a w d g h f c).mono λe w' ⟨i,d⟩=>⟨i,by rw[d];exact((Below.refl _ _).alloc (Ue _) _).alloc (by simp) _⟩
def xm(w s pos):Below w.heap.size w (w.iter s pos):=(Below.refl _ _).alloc (Ue _) _
def indexByte_none(l c)(h:∀b∈l,b≠c):Lib.indexByte l c= -1:=by (have a:=Lib.contains_iff_indexByte l c;have d:l.contains c=false:=by cases e:l.contains c with|false=>rfl|true=>exact absurd rfl (h c (by simpa using e)));rw[d]at a;have f:=Xa a.symm;have g:=Lib.indexByte_ge l c;omega
def D3(s:ByteArray)(k){b}(h:b∈(s.extract k s.size).data.toList):b∈s.data.toList:=by (have e:(s.extract k s.size).data=s.data.extract k s.size:=by simp);rw[e,Array.toList_extract]at h;exact List.mem_of_mem_drop (List.mem_of_mem_take h)
def D4(r:Int)(w:World):Calls (Qs fs) 194 #[.int .i32 r] w λe w'=>e=.returned (.bool (Utf8.valid r))/\w'=w:=by
 by_cases c:0<=r
 ·by_cases b:r<55296
  ·(have a:Hid (Utf8.valid r=true):=by unfold Hid Utf8.valid;simp;omega);go_enter (n194 L),Tryz.ntmps194;go_wp2;go_ret;exact⟨by rw[a.out];rfl,rfl⟩
  have d:decide (r<55296)=false:=Uj b;by_cases f:57343<r
  ·by_cases g:r<=1114111
   ·(have a:Hid (Utf8.valid r=true):=by unfold Hid Utf8.valid;simp;omega);go_enter (n194 L),Tryz.ntmps194;go_wp2;go_ret;exact⟨by rw[a.out];rfl,rfl⟩
   (have a:Hid (Utf8.valid r=false):=by unfold Hid Utf8.valid;simp;omega);go_enter (n194 L),Tryz.ntmps194;go_wp2;go_ret;exact⟨by rw[a.out];rfl,rfl⟩
  have a:Hid (Utf8.valid r=false):=by unfold Hid Utf8.valid;simp;omega
  go_enter (n194 L),Tryz.ntmps194;go_wp2;go_ret;exact⟨by rw[a.out];rfl,rfl⟩
 have a:Hid (Utf8.valid r=false):=by unfold Hid Utf8.valid;simp;omega
 go_enter (n194 L),Tryz.ntmps194;go_wp2;go_ret;exact⟨by rw[a.out];rfl,rfl⟩
def tM(s:ByteArray)(r:Int)(w:World)(B:∀(j:Nat) b,s.data.toList[j]? =some b->b.toNat<128)(hz:s.size<=1000)(G:128<=r)(h2:r<=2147483647):Calls (Qs fs) 175 #[.string s,.int .i32 r] w λe w'=>e=.returned (.int .i64 (-1))/\Below w.heap.size w w':=by
 have Ss:=Ss L;have Su:=Su L;have c:=D4 L r w;have HS:Hid _:=B;clear B;have H:decide (r<128)=false:=Uj (by omega);by_cases C:r=65533
 ·subst C;clear c;go_enter (n175 L),Tryz.ntmps175;go_wp2
  go_loopg [5,6] s.size (λg _ _ wx=>∃i:Nat,i+g=s.size/\wx=w.iter s i)
  case atStart=>exact⟨0,by omega,rfl⟩
  case round=>
   obtain⟨i,I,rfl⟩:=hrel;cases gk with
   |zero=>(obtain rfl:i=s.size:=by omega);have l:=λty=>run_next_end (P:=Qs fs) w s s.size ty (by omega);go_wp2;go_ret;exact⟨rfl,xm w s _⟩
   |succ g=>(have hi:i<s.size:=by omega);(obtain⟨x,a⟩:∃x:UInt8,s[i]'hi=x:=⟨_,rfl⟩);(have d:x.toNat<128:=HS.out i x (by rw[<-a];exact Lib.data_getElem? s i hi);have l:=λty=>run_next_ascii (P:=Qs fs) w s i ty hi (by rw[a];exact d);rw[a]at l;have J:((x.toNat:Int)==65533)=false:=by rw[UE];omega);clear a;go_wp2;(go_roundg g);(case measure=>omega);case rel=>exact⟨i+1,by omega,rfl⟩
 have K:(r==65533)=false:=by rw[UE];exact C
 cases m:Utf8.valid r with
 |false=>rw[m]at c;clear m;go_enter (n175 L),Tryz.ntmps175;go_wp2_with (first|(go_at_call 194;refine c.mono ?_;clear c;rintro e w2 ⟨rfl,rfl⟩));go_ret;exact⟨rfl,Below.refl _ _⟩
 |true=>
  obtain⟨M,N,n⟩:=encode_facts r m G;have o:=λw=>run_convert_int_string (P:=Qs fs) w 21 9 .i32 r (by rw[aI];rfl) (by rw[aI];exact Tryz.underlying9);obtain⟨t,p⟩:=ex (Utf8.encode r);rw[<-p]at M N o;simp only[<-p]at n;obtain⟨k,D⟩:∃k,t.size=k+1:=⟨t.size-1,by omega⟩
  have f:k<t.size:=by omega
  have O:128<=(t[k]'f).toNat:=by have:=n (by omega);simpa[D]using this
  clear n p;rw[m]at c;clear m;have Q:IntKind.i64.wrap ((t.size:Int)-1)=k:=by rw[D];exact(wrap_i64 _ (by omega)).trans (by omega)
  go_enter (n175 L),Tryz.ntmps175;go_wp2_with (first|(go_at_call 194;refine c.mono ?_;clear c;rintro e w2 ⟨rfl,rfl⟩))
  go_step3
  go_wp2;have q:=λu wx=>D2 L u ((t[k]'f).toNat:Int) wx;go_loopw [9] (λz wr=>z=.int .i64 k/\wr=w2) (λ_ _=>0);case atStart=>exact⟨rfl,rfl⟩
  case round=>
   obtain⟨rfl,rfl⟩:=hrel;obtain hks|hks:=Uh k s.size
   ·obtain⟨x,a⟩:=ex (s[k]'hks);(obtain⟨y,v⟩:=ex (t[k]'f);have R:x.toNat<128:=HS.out k x (by rw[a];exact Lib.data_getElem? s k hks);rw[<-v]at O q;have S:((x.toNat:Int)!=(y.toNat:Int))=true:=by rw[VP];omega);(have E:(k:Int)<(s.size:Int):=by omega);(have F:(k:Int)<(t.size:Int):=by omega);(have T:IntKind.i64.wrap ((k:Int)+1)=(k:Int)+1:=wrap_i64 _ (by omega);have U:(k:Int)+1<=(s.size:Int):=by omega);(have V:(0:Int)<=(k:Int)+1:=by omega);(have W:s[k]=x:=a.symm;have X:t[k]=y:=v.symm;have A:∀wx,Calls (Qs fs) 193 #[.string (s.extract (k+1) s.size),.int .u8 y.toNat] wx λe w'=>e=.returned (.int .i64 (-1))/\w'=wx:=λwx=>by have h:=q (s.extract (k+1) s.size) wx;rw[show((y.toNat:Int)).toNat.toUInt8=y by simp,indexByte_none _ y (λb Y e=>by subst e;obtain⟨j,Z⟩:=Vt.1 (D3 s (k+1) Y);have:=HS.out j b Z;omega)]at h;exact h);clear a v q;go_wp2
    (go_step3);go_wp2;go_quiet (fail);go_wp2;go_quiet (first|(go_at_call 193;exact(A _).mono λe w' h=>⟨h.1,_,h.2⟩));go_wp2;simp(config:={zetaDelta:=true}) only [Exit.noGoto_ret,Exit.inBlock,Exit.then];go_ret;exact⟨rfl,(Below.refl _ _).fU _⟩
   go_wp2;rw[Exit.noGoto_ret];go_ret;exact⟨rfl,Below.refl _ _⟩
def rX(s:ByteArray)(r:Int)(w:World)(a:0<=r)(b:r<128):Calls (Qs fs) 175 #[.string s,.int .i32 r] w λe w'=>e=.returned (.int .i64 (Lib.indexByte s.data.toList r.toNat.toUInt8))/\w'=w:=Any.strings_IndexRune_ascii {(jL L).1 with} s r w a b
def pJ(L:bT fs)(n w):Calls (Qs fs) 176 #[.int .i64 n] w λe w'=>e=.returned (.bool (decide (8<n)))/\w'=w:=Any.strings_shouldUseASCIISet {(jL L).1 with} n w
def j8{w w' B k pos s}(h:Below B w w')(a:B<=k):Below B w (w'.iterAt k s pos):=
 ⟨h.os,h.tape,h.output,by simp[World.iterAt,h.size],λi hi=>by
  have:k≠i:=by omega
  simp[World.iterAt,Ur this,h.block i hi]⟩
def BI(s pos)(h:pos<s.size)(d:128<=(s[pos]'h).toNat):pos+(Utf8.decode s pos).2<=s.size/\∀j,j<(Utf8.decode s pos).2->128<=(s.get! (pos+j)).toNat:=by (have c:128<=(s.get! (pos+0)).toNat:=by rw[get_at s pos h];exact d);(have e:¬(s.get! (pos+0)).toNat<128:=by omega);(have one:∀j,j<1->128<=(s.get! (pos+j)).toNat:=λj a=>by (obtain rfl:j=0:=by omega);exact c);simp only[Utf8.decode,e,Uy];split;rename_i b;simp only[Un,U3,Uu]at b;split;refine⟨by omega,λj a=>?_⟩;(match j,a with|0,_=>exact c|1,_=>omega);exact⟨by omega,one⟩;split;rename_i b;simp only[Un,U3,Uu]at b;split;refine⟨by omega,λj a=>?_⟩;(match j,a with|0,_=>exact c|1,_=>omega|2,_=>omega);exact⟨by omega,one⟩;split;rename_i b;simp only[Un,U3,Uu]at b;split;refine⟨by omega,λj a=>?_⟩;(match j,a with|0,_=>exact c|1,_=>omega|2,_=>omega|3,_=>omega);exact⟨by omega,one⟩;exact⟨by omega,one⟩
def GK{s a i n}(h:Lib.NoAny s a i)(f:∀c∈a,c.toNat<128)(g:∀j b,j<n->s[i+j]? =some b->128<=b.toNat):Lib.NoAny s a (i+n):=by intro j b k e;obtain h1|h1:=Uh j i;exact h j b h1 e;have:=g (j-i) b (by omega) (by rw[show i+(j-i)=j by omega];exact e);cases d:a.contains b with|false=>rfl|true=>have:=f b (by simpa using d);omega
def tN(s a:ByteArray)(w:World)(h2:2<=a.size)(h8:s.size<=8)(A:a.size<=1000)(U:∀(j:Nat) b,a.data.toList[j]? =some b->b.toNat<128):Calls (Qs fs) 165 #[.string s,.string a] w λe w'=>e=.returned (.int .i64 (Lib.indexAny s.data.toList a.data.toList))/\Below w.heap.size w w':=by
 have Sm:=Sm L;have Sn:=Sn L;have V:a.toList.isEmpty=false:=by rw[Lib.toList_data];cases h:a.data.toList with|nil=>have:=Lib.size_eq a;rw[h,Uv]at this;omega|cons _ _=>rfl
 have aa:((a.size:Int)==1)=false:=UE.2 (by omega);have Q:=pJ L (s.size:Int) w;rw[Uj (by omega)]at Q;have HS:Hid _:=U;clear U;go_enter (n165 L),Tryz.ntmps165;go_wp2_with (first|(go_at_call 176;refine Q.mono ?_;clear Q;rintro e w2 ⟨rfl,rfl⟩));obtain⟨N,O⟩:=ex (w2.heap.size);have R:Hid ((w2.iter s 0).heap[N]? =some (.stringIter s 0)):=by rw[O];exact World.iter_heap w2 s 0
 rw[<-O];have p:Hid _:=O;clear O
 go_loopg [9,10] s.size (λg _ _ F=>∃i:Nat,s.size<=i+g/\i<=s.size/\F.heap[N]? =some (.stringIter s i)/\Lib.NoAny s.data.toList a.data.toList i/\Below N w2 F)
 case atStart=>exact⟨0,by omega,Ul _,R.out,Lib.NoAny.zero _ _,by rw[p.out];exact xm w2 s 0⟩
 case round=>
  obtain⟨i,ab,ad,f,I,y⟩:=hrel;have J:Hid _:=I;have G:Hid _:=y;have K:N<wr.heap.size:=(Uk.1 f).1;clear I y;cases gk with
  |zero=>(obtain rfl:i=s.size:=by omega);have m:=λty=>Lib.run_next_end_at (P:=Qs fs) wr N s s.size ty f (by omega);go_wp2;go_ret;exact⟨by rw[Lib.indexAny_none (by rw[<-Lib.size_eq];exact J.out)];rfl,by have:=G.out;rwa[p.out]at this⟩
  |succ g=>
   (have hi:i<s.size\/i=s.size:=by omega);obtain hi|rfl:=hi
   ·(obtain⟨x,H⟩:∃x:UInt8,s[i]'hi=x:=⟨_,rfl⟩);(have B:s.data.toList[i]? =some x:=by rw[<-H];exact Lib.data_getElem? s i hi);have W:Hid _:=B;by_cases C:x.toNat<128
    ·have m:=λty=>Lib.run_next_ascii_at (P:=Qs fs) wr N s i ty f hi (by rw[H];exact C)
     rw[H]at m;have d:=Lib.contains_iff_indexByte a.data.toList x;have u:=λF=>rX L a (x.toNat:Int) F (by omega) (by omega);rw[show((x.toNat:Int)).toNat.toUInt8=x by simp]at u;have l:=Lib.iterAt_heap wr N s i (i+1) f;have D:Hid _:=l;clear f l B H;cases o:a.data.toList.contains x with
     |false=>rw[o]at d;have v:¬((0:Int)<=Lib.indexByte a.data.toList x):=Xa d.symm;have E:Hid _:=o;clear d o;obtain⟨z,A⟩:=ex (Lib.indexByte a.data.toList x);rw[<-A]at v u;clear A;go_wp2_with (first|(go_at_call 175;refine(u _).mono ?_;clear u;rintro e w3 ⟨rfl,rfl⟩));(go_roundg g);(case measure=>omega);case rel=>exact⟨i+1,by omega,by omega,D.out,Lib.NoAny.succ J.out W.out E.out,j8 G.out (Ue _)⟩
     |true=>rw[o]at d;have q:(0:Int)<=Lib.indexByte a.data.toList x:=UF d.symm;have E:Hid _:=o;clear d o;obtain⟨z,A⟩:=ex (Lib.indexByte a.data.toList x);rw[<-A]at q u;clear A;go_wp2_with (first|(go_at_call 175;refine(u _).mono ?_;clear u;rintro e w3 ⟨rfl,rfl⟩));go_ret;exact⟨by rw[Lib.indexAny_hit J.out W.out E.out];rfl,by have:=j8 (k:=N) (pos:=i+1) (s:=s) G.out (Ue _);rwa[show Below N w2=Below w2.heap.size w2 by rw[p.out]]at this⟩
    have q:128<=(s[i]'hi).toNat:=by rw[H];omega
    have m:=λty=>Lib.run_next_any_at (P:=Qs fs) wr N s i ty f hi;obtain⟨d1,d2⟩:=decode_high s i hi q;obtain⟨d3,d4⟩:=BI s i hi q;have d5:=decode_le s i;obtain⟨r,X⟩:=ex ((Utf8.decode s i).1);obtain⟨n,Y⟩:=ex ((Utf8.decode s i).2);rw[<-X]at m d1 d5;rw[<-Y]at m d2 d3 d4;have t:Lib.NoAny s.data.toList a.data.toList (i+n):=GK J.out (λc hc=>by
     obtain⟨j,S⟩:=Vt.1 hc;exact HS.out j c S) (λj b S Z=>by
      have:=d4 j S;have v:i+j<s.size:=by omega
      have e:=get_at s (i+j) v;rw[Vp]at e;rw[e]at this;rw[Lib.data_getElem? s (i+j) v]at Z;cases Z;exact this)
    have T:Hid _:=t;have u:=λF=>tM L a (r:Int) F HS.out A (by omega) (by omega);have l:=Lib.iterAt_heap wr N s i (i+n) f;have D:Hid _:=l;clear f l B H q X Y d4 t;go_wp2_with (first|(go_at_call 175;refine(u _).mono ?_;clear u;rintro e w3 ⟨rfl,M⟩))
    (go_roundg g);(case measure=>omega);case rel=>exact⟨i+n,by omega,by omega,(M.block N (by simpa[World.iterAt]using K)).trans D.out,T.out,(j8 G.out (Ue _)).trans (M.mono (by have:=(j8 (k:=N) (pos:=i+n) (s:=s) G.out (Ue _)).size;have:=p.out;omega))⟩
   have m:=λty=>Lib.run_next_end_at (P:=Qs fs) wr N s s.size ty f (by omega);go_wp2;go_ret;exact⟨by rw[Lib.indexAny_none (by rw[<-Lib.size_eq];exact J.out)];rfl,by have:=G.out;rwa[p.out]at this⟩
end Go.Proofs
namespace Go.Proofs
open Go.Tm Go.RowKit
variable {fs:Array Func} (L:bT fs)
def cs4:ByteArray:=⟨#[10,58,59,44]⟩
def Aa:∀(j:Nat) b,cs4.data.toList[j]? =some b->b.toNat<128:=by intro j b h;have a:b∈cs4.data.toList:=Vm h;have:cs4.data.toList=[10,58,59,44]:=rfl;rw[this]at a;simp only[UC,UR,US]at a;rcases a with rfl|rfl|rfl|rfl<;>decide
def BJ(l):decide (0<=Lib.indexAny l cs4.data.toList)=l.any gV:=by induction l with|nil=>rfl|cons b l a=>(have c:cs4.data.toList.contains b=gV b:=by have:cs4.data.toList=[10,58,59,44]:=rfl;rw[this];unfold gV;simp only[List.contains_cons,List.contains_nil,Bool.or_false,Bool.or_assoc]);rw[Lib.indexAny,c,List.any_cons,<-a];have:=Lib.indexAny_ge cs4.data.toList l;cases gV b with|true=>simp|false=>simp only[Uz,Uy,WK];by_cases h:Lib.indexAny l cs4.data.toList= -1;rw[h];rfl;rw[Uc (by simpa using h)];rw[Um (by omega),Um (by omega)]
def GO(s:ByteArray)(w:World)(a:s.size<4294967281):Calls (Qs fs) 165 #[.string s,.string cs4] w λe w'=>e=.returned (.int .i64 (Lib.indexAny s.data.toList cs4.data.toList))/\Below w.heap.size w w':=by obtain h|h:=Uh 8 s.size;exact vB L s cs4 w (by decide) h a (by decide) Aa;exact tN L s cs4 w (by decide) h (by decide) Aa
def za(s:ByteArray)(w:World)(d:s.size<4294967281):Calls (Qs fs) 135 #[.string s,.string cs4] w λe w'=>e=.returned (.bool (s.data.toList.any gV))/\Below w.heap.size w w':=by have Sj:=Sj L;have c:=GO L s w d;have a:Hid _:=BJ s.data.toList;obtain⟨z,b⟩:=ex (Lib.indexAny s.data.toList cs4.data.toList);rw[<-b]at c a;clear b;obtain⟨ch,hch⟩:=ex cs4;rw[<-hch]at c⊢;clear hch;go_enter (n135 L),Tryz.ntmps135;go_wp2_with (first|(go_at_call 165;refine c.mono ?_;clear c;rintro e w2 ⟨rfl,f⟩));go_ret;exact⟨by rw[<-a.out];rfl,f⟩
def xo(s:ByteArray)(hi:Int)(w:World)(j:hi<=1000):Calls (Qs fs) 99 #[.string s,.int .i64 hi] w λe w'=>e=.returned (.bool (bd s hi))/\Below w.heap.size w w':=by
 have R6:=R6 L;have e63:=e63 L;have b:=dI fs (n63 L) (s.size:Int) 1 hi w;have h:Hid (bd s hi=(aw s.size 1 hi&& !s.data.toList.any gV)):=rfl;cases a:aw s.size 1 hi with
 |false=>(have c:Hid (bd s hi=false):=by rw[h.out,a];rfl);unfold aw at a;rw[a]at b;clear a;go_enter (n99 L),Tryz.ntmps99;go_wp2_with (first|(go_at_call 63;refine b.mono ?_;clear b;rintro e w2 ⟨rfl,rfl⟩));go_ret;exact⟨by rw[c.out];rfl,Below.refl _ _⟩
 |true=>(have c:Hid (bd s hi= !s.data.toList.any gV):=by rw[h.out,a];rfl);(unfold aw at a;rw[a]at b;have f:s.size<4294967281:=by rw[Un,Uu,Uu]at a;omega);clear a;have d:=za L s w f;rw[show cs4=(⟨#[10,58,59,44]⟩:ByteArray)from rfl]at d;obtain⟨z,i⟩:=ex (s.data.toList.any gV);rw[<-i]at d c;clear i;go_enter (n99 L),Tryz.ntmps99;go_wp2_with (first|(go_at_call 63;refine b.mono ?_;clear b;rintro e w2 ⟨rfl,rfl⟩)|(go_at_call 135;refine d.mono ?_;clear d;rintro e w3 ⟨rfl,g⟩));go_ret;exact⟨by rw[c.out];rfl,g⟩
def BK(w:World)(v:Value)(s:ByteArray):Prop:=∃g cap,v=.slice (some ⟨g,0,none⟩) s.size cap/\s.size<=cap/\∀j (h:j<s.size),w.cell? ⟨g,j,none⟩=some (.int .u8 (s[j]'h).toNat)
def Ab(fs s w):∃v w',(convert 9 120 (.string s)).run (Qs fs) w=.ok v w'/\BK w' v s/\Below w.heap.size w w':=by have h:=run_bytes_of_string (P:=Qs fs) w 9 120 5 s (by rw[aI];exact Tryz.underlying9) (by rw[aI];exact Tryz.underlying120) (by rw[aI];exact Tryz.underlying5);refine⟨_,_,h,⟨w.heap.size,_,rfl,grownCap_ge _ _ _ _,λj a=>?_⟩,((Below.refl _ _).drew.alloc (Ue _) _)⟩;exact cell_of_heap (w:=(w.drew.alloc _)) (b:=w.heap.size) UT j _ (bytesRow_at s _ j a)
def D7(f p v s w)(G:∀a w,(callFunc f a).run (Qs fs) w=.ok (.enter f a) w)(B:BK w v s)(H:s.size<=1000000) (t:∀(c) wx,Calls (Qs fs) f (#[.int .u8 c.toNat]++#[]) wx λe w'=>e=.returned (.bool (p c))/\w'=wx):Calls (Qs fs) 143 #[v,.func (.func f) #[] #[]] w λe w'=>(∃z,e=.returned (.int .i64 z)/\decide (0<=z)=s.data.toList.any p)/\w'=w:=by
 obtain⟨g,cap,rfl,u,r⟩:=B;have C:Hid _:=r;have l:∀(c:UInt8) wx,Calls (Qs fs) f #[.int .u8 c.toNat] wx λe w'=>e=.returned (.bool (p c))/\w'=wx:=t;have D:Hid _:=l;clear r t l;go_enter (n143 L),Tryz.ntmps143;go_wp2;go_loopw [8] (λz wr=>∃j:Nat,j<=s.size/\z=.int .i64 j/\wr=w/\∀i (hi:i<s.size),i<j->p s[i]=false) (λz _=>s.size-(intOf z).toNat);case atStart=>exact⟨0,Ul _,rfl,rfl,λi hi h=>by omega⟩
 case round=>
  obtain⟨j,I,rfl,rfl,m⟩:=hrel;have y:Hid _:=m;clear m;obtain d|hge:=Uh j s.size
  ·have r:=C.out j d;(have n:=D.out (s[j]'d) wr;have E:(j:Int)<(s.size:Int):=by omega);obtain⟨x,o⟩:=ex (s[j]'d);rw[<-o]at r n;have A:Hid _:=o;clear o;cases b:p x with|true=>rw[b]at n;have k:Hid _:=b;clear b;go_wp2_with (first|(go_at_fn f;refine n.mono ?_;rintro e w3 ⟨rfl,rfl⟩));go_ret;refine⟨⟨(j:Int),rfl,?_⟩,rfl⟩;rw[Um (by omega),VV,U9];exact⟨x,by rw[A.out];exact Vm (Lib.data_getElem? s j d),k.out⟩|false=>rw[b]at n;have k:Hid _:=b;clear b;go_wp2_with (first|(go_at_fn f;refine n.mono ?_;rintro e w3 ⟨rfl,rfl⟩));refine⟨⟨j+1,by omega,by go_num,trivial,λi hi F=>?_⟩,by simp[intOf];omega⟩;by_cases h:i<j;exact y.out i hi h;(obtain rfl:i=j:=by omega);exact A.out▸k.out
  go_wp2;go_ret;refine⟨⟨-1,rfl,?_⟩,rfl⟩;rw[Uj (by decide),VV,VN];intro x o;obtain⟨i,hi⟩:=Vt.1 o;have q:i<s.size:=by have:=(Vl.1 hi).1;rw[<-Lib.size_eq]at this;exact this
  rw[Lib.data_getElem? s i q]at hi;cases hi;rw[y.out i q (by omega)];exact WA
def ot(f p v s w)(i:∀a w,(callFunc f a).run (Qs fs) w=.ok (.enter f a) w)(j:BK w v s)(b:s.size<=1000000) (d:∀(c) g,Calls (Qs fs) f (#[.int .u8 c.toNat]++#[]) g λe w'=>e=.returned (.bool (p c))/\w'=g):Calls (Qs fs) 120 #[v,.func (.func f) #[] #[]] w λe w'=>e=.returned (.bool (s.data.toList.any p))/\w'=w:=by have Sg:=Sg L;have h:=D7 L f p v s w i j b d;clear d;go_enter (n120 L),Tryz.ntmps120;go_wp2_with (first|(go_at_call 143;refine h.mono ?_;clear h;rintro e w2 ⟨⟨z,rfl,b⟩,rfl⟩;have k:Hid _:=b;clear b));go_ret;exact⟨by rw[<-k.out];rfl,rfl⟩
def GP(c:UInt8)(w:World):Calls (Qs fs) 121 #[.int .u8 c.toNat] w λe w'=>e=.returned (.bool (!aQ c))/\w'=w:=by have e91:=e91 L;have a:=m7 fs (n91 L) (c.toNat:Int) w;have d:Hid (aQ c=(decide (97<=(c.toNat:Int))&&decide ((c.toNat:Int)<=122))):=rfl;rw[<-d]at a;obtain⟨b,f⟩:=ex (aQ c);rw[<-f]at a⊢;clear f d;go_enter (n121 L),Tryz.ntmps121;go_wp2_with (first|(go_at_call 91;refine a.mono ?_;clear a;rintro e w2 ⟨rfl,rfl⟩));go_ret;exact⟨rfl,rfl⟩
def MA(c:UInt8)(w:World):Calls (Qs fs) 136 #[.int .u8 c.toNat] w λe w'=>e=.returned (.bool (!(aQ c||js c)))/\w'=w:=by
 have e91:=e91 L;have a:=m7 fs (n91 L) (c.toNat:Int) w;have f:aQ c=(decide (97<=(c.toNat:Int))&&decide ((c.toNat:Int)<=122)):=rfl;rw[<-f]at a;have g:js c=(decide (48<=(c.toNat:Int))&&decide ((c.toNat:Int)<=57)):=rfl;cases d:aQ c with
 |true=>rw[d]at a;clear d f g;go_enter (n136 L),Tryz.ntmps136;go_wp2_with (first|(go_at_call 91;refine a.mono ?_;clear a;rintro e w2 ⟨rfl,rfl⟩));go_ret;exact⟨rfl,rfl⟩
 |false=>
  rw[d]at a;have h:Hid _:=g;clear d f g;by_cases i:(c.toNat:Int)<48
  ·(have b:Hid (js c=false):=by rw[Hid,h.out];simp;omega);go_enter (n136 L),Tryz.ntmps136;go_wp2_with (first|(go_at_call 91;refine a.mono ?_;clear a;rintro e w2 ⟨rfl,rfl⟩));go_ret;exact⟨by rw[b.out];rfl,rfl⟩
  have j:decide ((c.toNat:Int)<48)=false:=Uj i;by_cases k:(57:Int)<(c.toNat:Int)
  ·(have b:Hid (js c=false):=by rw[Hid,h.out];simp;omega);go_enter (n136 L),Tryz.ntmps136;go_wp2_with (first|(go_at_call 91;refine a.mono ?_;clear a;rintro e w2 ⟨rfl,rfl⟩));go_ret;exact⟨by rw[b.out];rfl,rfl⟩
  have l:decide ((57:Int)<(c.toNat:Int))=false:=Uj k;have b:Hid (js c=true):=by rw[Hid,h.out];simp;omega
  go_enter (n136 L),Tryz.ntmps136;go_wp2_with (first|(go_at_call 91;refine a.mono ?_;clear a;rintro e w2 ⟨rfl,rfl⟩));go_ret;exact⟨by rw[b.out];rfl,rfl⟩
def uJ(l:List UInt8)(p):l.any (λc=> !p c)= !l.all p:=by induction l with|nil=>rfl|cons x l a=>rw[List.any_cons,Wd,a,Bool.not_and]
def ku(s:ByteArray)(lo hi:Int)(w:World)(m:hi<=1000):Calls (Qs fs) 72 #[.string s,.int .i64 lo,.int .i64 hi] w λe w'=>e=.returned (.bool (bc s lo hi))/\Below w.heap.size w w':=by
 have OX:=OX L;have e63:=e63 L;have b:=dI fs (n63 L) (s.size:Int) lo hi w;have k:Hid (bc s lo hi=(aw s.size lo hi&&s.data.toList.all aQ)):=rfl;cases a:aw s.size lo hi with
 |false=>(have g:Hid (bc s lo hi=false):=by rw[Hid,k.out,a];rfl);unfold aw at a;rw[a]at b;clear a;go_enter (n72 L),Tryz.ntmps72;go_wp2_with (first|(go_at_call 63;refine b.mono ?_;clear b;rintro e w2 ⟨rfl,rfl⟩));go_ret;exact⟨by rw[g.out];rfl,Below.refl _ _⟩
 |true=>(have g:Hid (bc s lo hi=s.data.toList.all aQ):=by rw[Hid,k.out,a];rfl);(unfold aw at a;rw[a]at b;have i:s.size<=1000000:=by rw[Un,Uu,Uu]at a;omega);clear a;obtain⟨v,w1,n,d,f⟩:=Ab fs s w;have j:Hid _:=f;have h:=ot L 121 (λc=> !aQ c) v s w1 (TK L) d i (λc o=>GP L c o);rw[uJ]at h;obtain⟨z,l⟩:=ex (s.data.toList.all aQ);rw[<-l]at h g;clear l d f;go_enter (n72 L),Tryz.ntmps72;go_wp2_with (first|(go_at_call 63;refine b.mono ?_;clear b;rintro e w2 ⟨rfl,rfl⟩)|(go_at_call 120;refine h.mono ?_;clear h;rintro e w3 ⟨rfl,rfl⟩));go_ret;exact⟨by rw[g.out];simp,j.out⟩
def Jf(s:ByteArray)(w:World):Calls (Qs fs) 102 #[.string s] w λe w'=>e=.returned (.bool (cu s))/\Below w.heap.size w w':=by
 have OX:=OX L;have e63:=e63 L;have e91:=e91 L;have g:=dI fs (n63 L) (s.size:Int) 1 10 w;have r:Hid (cu s=(aw s.size 1 10&&(s.data.toList.head?.any aQ)&&s.data.toList.all λc=>aQ c||js c)):=rfl;cases b:aw s.size 1 10 with
 |false=>(have d:Hid (cu s=false):=by rw[Hid,r.out,b];rfl);unfold aw at b;rw[b]at g;clear b;go_enter (n102 L),Tryz.ntmps102;go_wp2_with (first|(go_at_call 63;refine g.mono ?_;clear g;rintro e w2 ⟨rfl,rfl⟩));go_ret;exact⟨by rw[d.out];rfl,Below.refl _ _⟩
 |true=>(have d:(cu s=((s.data.toList.head?.any aQ)&&s.data.toList.all λc=>aQ c||js c)):=by rw[r.out,b];rfl);(unfold aw at b;rw[b]at g;have m:1<=s.size/\s.size<=1000000:=by rw[Un,Uu,Uu]at b;omega);(clear b;have n:0<s.size:=by omega);(obtain⟨x,o⟩:=ex (s[0]'n);have a:s.data.toList.head?.any aQ=aQ x:=by have u:=Lib.data_getElem? s 0 n;rw[List.head?_eq_getElem?,u,o];rfl);rw[a]at d;have h:=λp=>m7 fs (n91 L) (x.toNat:Int) p;have i:aQ x=(decide (97<=(x.toNat:Int))&&decide ((x.toNat:Int)<=122)):=rfl;rw[<-i]at h;have y:s[0]'n=x:=o.symm;clear i a o;cases f:aQ x with|false=>rw[f]at h d;have HV:Hid _:=d;clear d f;go_enter (n102 L),Tryz.ntmps102;go_wp2_with (first|(go_at_call 63;refine g.mono ?_;clear g;rintro e w2 ⟨rfl,rfl⟩)|(go_at_call 91;refine(h _).mono ?_;clear h;rintro e w3 ⟨rfl,rfl⟩));go_ret;exact⟨by rw[HV.out];rfl,Below.refl _ _⟩|true=>rw[f]at h d;have HV:Hid _:=d;clear d f;obtain⟨v,w1,A,j,k⟩:=Ab fs s w;have q:Hid _:=k;have l:=ot L 136 (λc=> !(aQ c||js c)) v s w1 (TL L) j m.2 (λc p=>MA L c p);rw[uJ _ (λc=>aQ c||js c)]at l;obtain⟨z,t⟩:=ex (s.data.toList.all (λc=>aQ c||js c));rw[<-t]at l HV;clear t j k;go_enter (n102 L),Tryz.ntmps102;go_wp2_with (first|(go_at_call 63;refine g.mono ?_;clear g;rintro e w2 ⟨rfl,rfl⟩)|(go_at_call 91;refine(h _).mono ?_;clear h;rintro e w3 ⟨rfl,rfl⟩)|(go_at_call 120;refine l.mono ?_;clear l;rintro e w3 ⟨rfl,rfl⟩));go_ret;exact⟨by rw[HV.out];simp,q.out⟩
end Go.Proofs

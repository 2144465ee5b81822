import Derived.Test.YtaglpcmhopjebaaGreatDoorQ39
set_option linter.all false
set_option maxRecDepth 100000
set_option maxHeartbeats 20000000
namespace Go.Proofs
open Go.Tm Go.RowKit
noncomputable abbrev FM:Array Func:=fH g74
def fw{P fn R a w ch}(b:a.defers=[])(h:R (.panicked ch) w):bodyPost P fn R (.panic ch) a w:=⟨b,h⟩
def fV.lower{b c w v l}(h:fV b w v l)(d:c<=b):fV c w v l:=by obtain⟨⟨e,f⟩,i⟩:=h;refine⟨⟨e,f.imp id ?_⟩,i⟩;rintro⟨g,cap,a,e1,j,e3⟩;exact⟨g,cap,a,e1,R3 d j,e3⟩
def e74(a w):(callFunc 74 a).run (Qs FM) w=.ok (.enter 74 a) w:=enters_of Mr (by kernel_rfl) rfl a w
def Mw{sc c}(w)(n:tX w sc c)(y:OkC c)(z:∀r∈c.rules,r.kind<=3)(A:pd c=0)(g:iO w):
 Calls (Qs FM) 31 #[.agg sc] w λe w'=>(∃v,e=.returned (.tuple #[v,.int .i64 0])/\fV w.heap.size w' v (bT c)/\Below w.heap.size w w')\/∃v L,e=.panicked (iy v)/\dJ w' v L:=by
 have L:=iQ;have e37:=e37 L;have e74:=e74;obtain⟨v0,v1,v2,B,C,D,E,F,G,H,j,rfl⟩:=n.1.boxed;obtain⟨w1,b⟩:=ex (w.alloc (.cells #[v0,v1,v2,B,C,D,E,F,G,H,j] 60));have o:ae w w1:=by rw[b];exact ae.alloc _ _
 have p:Below w.heap.size w w1:=by rw[b];exact aG _ _
 have ct:∀i v,(#[v0,v1,v2,B,C,D,E,F,G,H,j]:Array Value)[i]? =some v->w1.cell? ⟨w.heap.size,i,none⟩=some v:=λi v h=>by rw[b];exact aw w _ 60 i v h
 have f:=uc L w1 (n.1.stays o);rw[A]at f;have k:=λw3 (s:Below w1.heap.size w1 w3)=>RV w3 (n.stays (o.trans (ae.below s))) y z (g.stays (o.trans (ae.below s)) (R3 p.size s.size));obtain⟨N,t⟩:=ex (w.heap.size);rw[<-t]at ct;have I:=ct 0 _ rfl;have J:=ct 1 _ rfl;have K:=ct 2 _ rfl;have M:=ct 3 _ rfl;have O:=ct 4 _ rfl;have P:=ct 5 _ rfl;have Q:=ct 6 _ rfl;have R:=ct 7 _ rfl;have S:=ct 8 _ rfl;have T:=ct 9 _ rfl;have l:=ct 10 _ rfl;have U:Hid _:=p;clear n y z A g o p ct;go_enter (n31 L),Tryz.ntmps31;go_upto_region 1 with fail;rw[<-b,<-t];clear b t;go_upto_region 4 with(first|(go_at_call 37;refine f.mono ?_;rintro e w3 ⟨rfl,d⟩))
 have a:=ae.below d;have I:=a.cell I;have J:=a.cell J;have K:=a.cell K;have M:=a.cell M;have O:=a.cell O;have P:=a.cell P;have Q:=a.cell Q;have R:=a.cell R;have S:=a.cell S;have T:=a.cell T;have l:=a.cell l;have q:=k w3 d;have u:Hid _:=d;clear k f a d;go_wp2_with fail
 refine q.mono ?_;rintro e w4 (⟨v,rfl,V,m⟩|⟨v,X,rfl,W⟩)
 ·have Y:Hid _:=V
  have Z:Hid _:=m;clear V m;go_wp2
  go_ret2
  have x:=U.out.trans (u.out.mono U.out.size);exact .inl ⟨v,rfl,fV.lower Y.out x.size,x.trans (Z.out.mono x.size)⟩
 ·have HP:Hid _:=W
  clear W;exact fw rfl (.inr ⟨v,X,rfl,HP.out⟩)
theorem Hz{c:Type}(F:c->List Value)(a:∀x,(F x).length=3):∀(l:List c) (k i) (b:k<l.length),i<3->(l.flatMap F)[k*3+i]? =(F l[k])[i]?
 | [],k,i,b,_=>absurd b (Sm _)
 |x::l,0,i,_,d=>by rw[TR,T8 (by rw[a];omega)];simp
 |x::l,k+1,i,b,d=>by rw[TR,Vk (by rw[a];omega),a,show(k+1)*3+i-3=k*3+i by omega];exact Hz F a l k i (by simpa using b) d
def lq{w B ty v}{o:Type}{kd}(F T)(e:∀x,F x=[.int .i64 (T x).1,.int .i64 (T x).2.1,.int kd (T x).2.2]){l:List o}
 (h:w.ownsRow B ty 3 v l.length (l.flatMap F)):aE (λ_=>True) 3 (fe kd) w v (l.map T):=by
 have p:∀x,(F x).length=3:=λx=>by rw[e];rfl
 obtain⟨rfl,f⟩|⟨g,cap,j,rfl,z,m,f,q,A,r⟩:=h.2
 ·have:l=[]:=TH.1 f
  subst this;exact⟨none,0,rfl,R2 _,by decide,.inl rfl,λk d=>absurd d (Sm _)⟩
 ·have b:∀k (d:k<l.length) i,i<3->∀u,(F l[k])[i]? =some u->w.cell? ⟨g,0+k*3+i,none⟩=some u:=λk d i s u t=>by refine cell_of_heap m _ _ ?_;have n:=Hz F p l k i d s;rw[t,<-r,VE,RZ (by omega),Tg]at n;rw[Se];exact n
  refine⟨some ⟨g,0,none⟩,cap,by rw[Th],by rw[Th];exact f,q,.inr λa y=>?_,λk d=>⟨g,0,rfl,?_⟩⟩
  ·cases y
   exact⟨rfl,trivial,j,ty,(0,0),m⟩
  ·have c:k<l.length:=by simpa using d
   rw[UD];refine⟨?_,?_,?_⟩
   ·have:=b k c 0 (by decide) (.int .i64 (T l[k]).1) (by rw[e];rfl)
    exact this
   ·exact b k c 1 (by decide) _ (by rw[e];rfl)
   ·exact b k c 2 (by decide) _ (by rw[e];rfl)
def zM{w B v}{l:List Ed}(h:w.ownsRow B 96 3 v l.length (pK l)):aE (λ_=>True) 3 (fe .u8) w v l:=by have:=lq (kd:=.u8) (λe:Ed=>[.int .i64 e.1,.int .i64 e.2.1,.int .u8 e.2.2]) id (λ_=>rfl) h;rwa[List.map_id]at this
def Ia(x:BR):Int×Int×Int:=(x.days,x.level,x.kin)
def Rl(x:Hit):Int×Int×Int:=(x.mark,x.eh,x.level)
def zN{w B v l}(h:w.ownsRow B 86 3 v l.length (xq l)):aE (λ_=>True) 3 (fe .i64) w v (l.map Ia):=lq (kd:=.i64) (λx:BR=>[.int .i64 x.days,.int .i64 x.level,.int .i64 x.kin]) Ia (λ_=>rfl) h
def MB{w B v l}(h:fV B w v l):aE (λ_=>True) 3 (fe .i64) w v (l.map Rl):=lq (kd:=.i64) (λx:Hit=>[.int .i64 x.mark,.int .i64 x.eh,.int .i64 x.level]) Rl (λ_=>rfl) h.1
def oY{w:World}{ty kd}(l)(f:l.length<=1000)(c)(b:c.toList=l.flatMap λe=>[.int .i64 e.1,.int .i64 e.2.1,.int kd e.2.2]):
 aE (λ_=>True) 3 (fe kd) (w.alloc (.cells c ty)) (.slice (some ⟨w.heap.size,0,none⟩) l.length l.length) l:=by
 have a:∀m:List (Int×Int×Int),(m.flatMap λe=>[Value.int .i64 e.1,.int .i64 e.2.1,.int kd e.2.2]).length=m.length*3:=λm=>by
  induction m with
  |nil=>rfl
  |cons x m d=>rw[TR,Sr,d];simp;omega
 have h:(w.alloc (.cells c ty)).ownsRow w.heap.size ty 3 (.slice (some ⟨w.heap.size,0,none⟩) l.length l.length) l.length (l.flatMap λe=>[Value.int .i64 e.1,.int .i64 e.2.1,.int kd e.2.2]):=by
  refine⟨a l,.inr ⟨w.heap.size,l.length,c,rfl,R2 _,SY,R2 _,by unfold maxLen;omega,?_,?_⟩⟩
  ·rw[<-Array.length_toList,b,a]
  ·rw[b,<-a l,T6]
 have:=lq (kd:=kd) (λe:Int×Int×Int=>[.int .i64 e.1,.int .i64 e.2.1,.int kd e.2.2]) id (λ_=>rfl) h;rwa[List.map_id]at this
end Go.Proofs
namespace Go.Proofs
open Go.Tm Go.RowKit
abbrev TT:Nat->Prop:=λ_=>True
variable {fs:Array Func} (L:bU fs)
include L
def PG{v0 v1 v2:Value}(w:World)(a:IsTable TT w v0 v1 v2 dB):
 Calls (Qs fs) 18 #[.agg #[v0,v1,v2],.string ⟨#[207,129,206,191,206,182,206,177]⟩] w λe w'=>e=.returned (.tuple #[.string ⟨#[114,111,122,97]⟩,.int .i64 0])/\Below w.heap.size w w':=by
 have h:=Mx L ⟨#[207,129,206,191,206,182,206,177]⟩ w a tv.lets mA (by decide);rw[show((⟨#[207,129,206,191,206,182,206,177]⟩:ByteArray).data.toList:Bs)=[207,129,206,191,206,182,206,177]from rfl,Om]at h;exact h
def Ox{v0 v1 v2:Value}(w:World)(a:IsTable TT w v0 v1 v2 dB)(b:gJ w):
 Calls (Qs fs) 22 #[.agg #[v0,v1,v2],.int .i64 0,.string ⟨#[114,104,111,115,97]⟩] w λe w'=>e=.returned (.tuple #[.string ⟨#[114,111,115,97]⟩,.int .i64 0])/\Below w.heap.size w w':=by
 have h:=Hw L 0 ⟨#[114,104,111,115,97]⟩ w a tv mA (by decide) (by decide) b;rw[show((⟨#[114,104,111,115,97]⟩:ByteArray).data.toList:Bs)=[114,104,111,115,97]from rfl,Mp]at h;exact h
def ML(w:World):Calls (Qs fs) 29 #[.string ⟨#[114,111,122,97]⟩,.string ⟨#[114,111,115,101]⟩] w λe w'=>∃v,e=.returned (.tuple #[v,.int .i64 0])/\aE TT 3 (fe .u8) w' v [(2,2,115),(3,2,101)]/\Below w.heap.size w w':=by
 have h:=Hv L ⟨#[114,111,122,97]⟩ ⟨#[114,111,115,101]⟩ w (by decide) (by decide);have a:my ⟨#[114,111,122,97]⟩ ⟨#[114,111,115,101]⟩=0:=by decide+kernel
 have b:iP ⟨#[114,111,122,97]⟩ ⟨#[114,111,115,101]⟩=[(2,2,115),(3,2,101)]:=(RZ a).trans Mq;rw[a,b]at h;exact h.mono λe w' ⟨v,c,d,f⟩=>⟨v,c,zM d,f⟩
def MM(w:World):Calls (Qs fs) 29 #[.string ⟨#[97,98]⟩,.string ⟨#[98,97]⟩] w λe w'=>∃v,e=.returned (.tuple #[v,.int .i64 0])/\aE TT 3 (fe .u8) w' v [(0,0,98),(1,1,0)]/\Below w.heap.size w w':=by
 have h:=Hv L ⟨#[97,98]⟩ ⟨#[98,97]⟩ w (by decide) (by decide);have a:my ⟨#[97,98]⟩ ⟨#[98,97]⟩=0:=by decide+kernel
 have b:iP ⟨#[97,98]⟩ ⟨#[98,97]⟩=[(0,0,98),(1,1,0)]:=(RZ a).trans JU;rw[a,b]at h;exact h.mono λe w' ⟨v,c,d,f⟩=>⟨v,c,zM d,f⟩
def MN{v0 v1 v2:Value}{m1 m2:Array Value}(w:World)(b:IsTable TT w v0 v1 v2 dB)(c:de TT w m1 ua)(d:de TT w m2 qq)(a:iO w):
 Calls (Qs fs) 25 #[.agg #[v0,v1,v2],.int .i64 0,.agg m1,.agg m2] w λe w'=>e=.returned (.tuple #[.int .i64 75,.int .i64 0])/\Below w.heap.size w w':=by
 have h:=BF L 0 w (by decide) ((Lc L).at _ _) b tv mA c d ub.new (ub.marks qq (by simp[exC])) mB.2.2.1 mB.2.2.2.1 a.len a.kinds;rw[show((0:Nat):Int)=0 from rfl,JN]at h;exact h
def MO{v0 v1 v2:Value}{m1 m2:Array Value}(w:World)(b:IsTable TT w v0 v1 v2 dB)(c:de TT w m1 ua)(d:de TT w m2 o8)(a:iO w):
 Calls (Qs fs) 25 #[.agg #[v0,v1,v2],.int .i64 3,.agg m1,.agg m2] w λe w'=>e=.returned (.tuple #[.int .i64 75,.int .i64 0])/\Below w.heap.size w w':=by
 have h:=BF L 3 w (by decide) ((Ld L).at _ _) b tv mA c d ub.new (ub.marks o8 (by simp[exC])) mB.2.2.1 mB.2.2.2.2 a.len a.kinds;rw[show((3:Nat):Int)=3 from rfl,JO]at h;exact h
omit L in
def PH:OkM exA:=by constructor<;>simp[exA]<;>decide
omit L in
def PI:OkM exB:=by constructor<;>simp[exB]<;>decide
def MP{v0 v1 v2:Value}{m1 m2:Array Value}(w:World)(b:IsTable TT w v0 v1 v2 dB)(c:de TT w m1 exA)(d:de TT w m2 exB)(a:iO w):
 Calls (Qs fs) 25 #[.agg #[v0,v1,v2],.int .i64 5,.agg m1,.agg m2] w λe w'=>e=.returned (.tuple #[.int .i64 60,.int .i64 0])/\Below w.heap.size w w':=by
 have h:=BF L 5 w (by decide) (PF L (by simp[exA]) (by simp[exB])) b tv mA c d PH PI mB.1 mB.2.1 a.len a.kinds;rw[show((5:Nat):Int)=5 from rfl,JP]at h;exact h
omit L in
def Ey{fs}(L:bU fs):uP fs exC:=Eo L ub (by decide)
def MQ{sc:Array Value}(w:World)(b:bI TT w sc exC)(a:iO w):
 Calls (Qs fs) 38 #[.agg sc,.int .i64 2] w λe w'=>∃v,e=.returned (.tuple #[v,.int .i64 0])/\aE TT 3 (fe .i64) w' v [(0,90,0),(0,100,2),(0,0,3)]/\Below w.heap.size w w':=by
 have h:=Hy L 2 w b ub xp (by decide) (by decide) (Ey L) a.len a.kinds;have c:jG exC exC.marks[2] exC.kin[2]=[⟨0,90,0⟩,⟨0,100,2⟩,⟨0,0,3⟩]:=JR;rw[c,show((2:Nat):Int)=2 from rfl]at h;exact h.mono λe w' ⟨v,d,f,g⟩=>⟨v,d,zN f,g⟩
def MR{sc:Array Value}(w:World)(k:bI TT w sc exC)(d:iO w):
 Calls (Qs fs) 38 #[.agg sc,.int .i64 3] w λe w'=>∃b o c,e=.returned (.tuple #[.slice (some ⟨b,o,none⟩) 3 c,.int .i64 0])/\fe .i64 TT w' b o (1,0,0)/\Below w.heap.size w w':=by
 have h:=Hy L 3 w k ub xp (by decide) (by decide) (Ey L) d.len d.kinds;rw[show((3:Nat):Int)=3 from rfl]at h;refine h.mono λe w' ⟨v,f,l,m⟩=>?_;have n:=zN l;obtain⟨q,c,rfl,_,_,_,g⟩:=n;have a:((jG exC exC.marks[3] exC.kin[3]).map Ia).length=3:=by rw[Th];exact(by decide+kernel:(jG exC exC.marks[3] exC.kin[3]).length=3)
 obtain⟨b,o,rfl,i⟩:=g 0 (by rw[a];decide);have p:((jG exC exC.marks[3] exC.kin[3]).map Ia)[0]'(by rw[a];decide)=(1,0,0):=by have:=JS.2;rw[UD];have j:(jG exC exC.marks[3] exC.kin[3])[0]? =some ⟨1,0,0⟩:=this;rw[SK (by have:=a;rw[Th]at this;omega)]at j;rw[SD j];rfl
 rw[p,Ub,Tr]at i;rw[a]at f;exact⟨b,o,c,f,i,m⟩
def Ez{v0 v1:Value}{l:List (Int×Int×Int)}(w:World)(a:aE TT 3 (fe .u8) w v0 l)(b:aE TT 3 (fe .u8) w v1 l):Calls (Qs fs) 46 #[v0,v1] w λe w'=>e=.returned (.bool true)/\Below w.heap.size w w':=by have h:=CG L w a b;rwa[Sd rfl]at h
def MS{v0 v1:Value}{l:List (Int×Int×Int)}(w:World)(a:aE TT 3 (fe .i64) w v0 l)(b:aE TT 3 (fe .i64) w v1 l):Calls (Qs fs) 36 #[v0,v1] w λe w'=>e=.returned (.bool true)/\Below w.heap.size w w':=by have h:=Fj L w a b;rwa[Sd rfl]at h
def MT{v0 v1:Value}{l:List (Int×Int×Int)}(w:World)(a:aE TT 3 (fe .i64) w v0 l)(b:aE TT 3 (fe .i64) w v1 l):Calls (Qs fs) 40 #[v0,v1] w λe w'=>e=.returned (.bool true)/\Below w.heap.size w w':=by have h:=CF L w a b;rwa[Sd rfl]at h
omit L in
def MU{sc}(w)(a:tX w sc exC)(b:iO w):
 Calls (Qs FM) 31 #[.agg sc] w λe w'=>(∃v,e=.returned (.tuple #[v,.int .i64 0])/\aE TT 3 (fe .i64) w' v [(0,0,100),(1,1,100)]/\Below w.heap.size w w')\/∃v L,e=.panicked (iy v)/\dJ w' v L:=by
 refine(Mw w a ub (by decide) xp b).mono λe w' h=>h.imp (λ⟨v,c,d,f⟩=>⟨v,c,?_,f⟩) id;have:=MB d;rw[JQ]at this;exact this
end Go.Proofs
namespace Go.Proofs
open Go.Tm Go.RowKit
def bM{kd w w' v l}(a:ae w w')(h:aE TT 3 (fe kd) w v l):aE TT 3 (fe kd) w' v l:=h.stays a λx y o z e h=>by subst e;exact h.keep a
def J9{W b x y e F}(h:W.heap[b]? =some (.cells #[.int .i64 x,.int .i64 y] e F)):aE TT 1 du W (.slice (some ⟨b,0,none⟩) 2 2) [x,y]:=
 lQ h rfl (by decide) λk a=>by
  match k,a with
  |0,_=>exact cell_of_heap h _ _ rfl
  |1,_=>exact cell_of_heap h _ _ rfl
def Ka{W b x y z e F}(h:W.heap[b]? =some (.cells #[.int .i64 x,.int .i64 y,.int .i64 z] e F)):aE TT 1 du W (.slice (some ⟨b,0,none⟩) 3 3) [x,y,z]:=
 lQ h rfl (by decide) λk a=>by
  match k,a with
  |0,_=>exact cell_of_heap h _ _ rfl
  |1,_=>exact cell_of_heap h _ _ rfl
  |2,_=>exact cell_of_heap h _ _ rfl
def Oy(w)(ag:iO w):Calls (Qs FM) 17 #[] w λe w'=>(e=.returned (.bool true)/\Below w.heap.size w w')\/∃v L,e=.panicked (iy v)/\dJ w' v L:=by
 have L:=iQ;have e50:=e50 L;have e18:=e18 L;have e22:=e22 L;have e29:=e29 L;have e25:=e25 L;have e31:=e31 L;have e38:=e38 L;have e46:=e46 L;have e36:=e36 L;have e40:=e40 L;have HG:Hid _:=ag;clear ag;go_enter (n17 L),Tryz.ntmps17;go_upto_region 2 with(first|(go_at_call 50;refine(J2 L _).mono ?_;rintro e w1 ⟨sc,rfl,hc,ak,Z⟩;have an:tX w1 sc exC:=⟨hc,ak⟩;clear ak;obtain⟨v0,v1,v2,vr,vf,vm,vk,rfl,ht,hr,hf,cg,ck⟩:=hc;obtain⟨q,c0,rfl,r0⟩:=ht.1;obtain⟨a1,c1,rfl,r1⟩:=ht.2.1;obtain⟨r,c2,rfl,r2⟩:=ht.2.2;obtain⟨a3,c3,rfl,r3⟩:=hr;obtain⟨z,c4,rfl,r4⟩:=hf;obtain⟨P,c5,rfl,_,_,_,g5⟩:=cg;obtain⟨A,c6,rfl,r6⟩:=ck))
 clear r0 r1 r2 r3 r4 r6 ht;generalize cl:(Value.slice q exC.table.au.length c0)=V0 at*;generalize cm:(Value.slice a1 exC.table.az.length c1)=V1 at*;generalize cn:(Value.slice r exC.table.bl.length c2)=V2 at*;generalize cp:(Value.slice a3 exC.rules.length c3)=V3 at*;generalize cq:(Value.slice z exC.new.aW.length c4)=U at*;generalize cr:(Value.slice A exC.kin.length c6)=V6 at*;clear cl cm cn cp cq cr;obtain⟨s,t,rfl,y0,y1,⟨yf,y2,yr⟩,y3,y4⟩:=g5 0 (by decide);obtain⟨cG,cH,cv,z0,z1,⟨zf,z2,zr⟩,z3,z4⟩:=g5 2 (by decide);cases cv;clear g5;obtain⟨w2,B⟩:=ex (w1.alloc (.cells #[V0,V1,V2,V3,.string exC.new.name,.string exC.new.word,U,.int .i64 exC.new.day,.bool exC.new.known,.slice (some ⟨s,t,none⟩) exC.marks.length c5,V6] 60));obtain⟨N,hN⟩:=ex (w1.heap.size);have S2:ae w1 w2:=by rw[B];exact ae.alloc _ _
 have B2:Below w.heap.size w w2:=by rw[B];exact Z.alloc Z.size _
 have cc:∀i v,(#[V0,V1,V2,V3,.string exC.new.name,.string exC.new.word,U,.int .i64 exC.new.day,.bool exC.new.known,.slice (some ⟨s,t,none⟩) exC.marks.length c5,V6]:Array Value)[i]? =some v->w2.cell? ⟨N,i,none⟩=some v:=λi v h=>by rw[B,hN];exact aw w1 _ 60 i v h
 have HC:Hid (∀b,ae w2 b->tX b #[V0,V1,V2,V3,.string exC.new.name,.string exC.new.word,U,.int .i64 exC.new.day,.bool exC.new.known,.slice (some ⟨s,t,none⟩) exC.marks.length c5,V6] exC):=λb m=>an.stays (S2.trans m);have HT:Hid (∀b,ae w2 b->IsTable TT b V0 V1 V2 dB):=λb m=>by obtain⟨_,_,_,_,_,_,_,e,ht,_⟩:=(HC.out b m).1;cases e;exact ht
 have HF:Hid (∀b,ae w2 b->aE TT 1 du b U ua.aW):=λb m=>by obtain⟨_,_,_,_,_,_,_,e,_,_,hf,_⟩:=(HC.out b m).1;cases e;exact hf
 have n:Hid (∀b,ae w2 b->w2.heap.size<=b.heap.size->iO b):=λb m hz=>HG.out.stays ((ae.below B2).trans m) (R3 B2.size hz);have a:Hid _:=cc;have HY:Hid (∀b,ae w2 b->b.cell? ⟨s,t,none⟩=some (.string qq.name)/\b.cell? ⟨s,t+1,none⟩=some (.string qq.word)/\b.cell? ⟨s,t+2,none⟩=some yf/\b.cell? ⟨s,t+3,none⟩=some (.int .i64 qq.day)/\b.cell? ⟨s,t+4,none⟩=some (.bool qq.known)/\aE TT 1 du b yf qq.aW):=λb m=>by have st:=S2.trans m;exact⟨st.cell y0,st.cell y1,st.cell y2,st.cell y3,st.cell y4,yr.ints st⟩
 have HZ:Hid (∀b,ae w2 b->b.cell? ⟨s,t+10,none⟩=some (.string o8.name)/\b.cell? ⟨s,t+11,none⟩=some (.string o8.word)/\b.cell? ⟨s,t+12,none⟩=some zf/\b.cell? ⟨s,t+13,none⟩=some (.int .i64 o8.day)/\b.cell? ⟨s,t+14,none⟩=some (.bool o8.known)/\aE TT 1 du b zf o8.aW):=λb m=>by have st:=S2.trans m;exact⟨st.cell z0,st.cell z1,st.cell z2,st.cell z3,st.cell z4,zr.ints st⟩
 have HB:Hid _:=B2;rw[<-B,<-hN];clear B hN an Z S2 y0 y1 y2 y3 y4 z0 z1 z2 z3 z4 yr zr B2;have u0:=cc 0 _ rfl;have u1:=cc 1 _ rfl;have u2:=cc 2 _ rfl;have ao:=PG L w2 (HT.out w2 (ae.refl _));clear cc;go_upto_region 3 with(first|(go_at_call 18;refine ao.mono ?_;clear ao;rintro e w3 ⟨rfl,aa⟩))
 have S3:ae w2 w3:=ae.below aa;have B3:Below w2.heap.size w2 w3:=aa;have u0:=S3.cell u0;have u1:=S3.cell u1;have u2:=S3.cell u2;have ar:=Ox L w3 (HT.out w3 S3) (n.out w3 S3 B3.size).len;have H3:Hid (ae w2 w3/\Below w2.heap.size w2 w3):=⟨S3,B3⟩
 clear aa S3 B3;go_upto_region 4 with(first|(go_at_call 22;refine ar.mono ?_;clear ar;rintro e w4 ⟨rfl,ax⟩))
 have B4:Below w2.heap.size w2 w4:=H3.out.2.trans (ax.mono H3.out.2.size);have H4:Hid (Below w2.heap.size w2 w4):=B4;have C:=ML L w4;clear ax B4 u0 u1 u2 H3;go_upto_region 5 with(first|(go_at_call 29;refine C.mono ?_;clear C;rintro e w5 ⟨vE,rfl,hE,ay⟩))
 have H5:Hid (Below w2.heap.size w2 w5):=H4.out.trans (ay.mono H4.out.size);have HE:Hid _:=hE;have C:=MM L w5;clear hE ay H4;go_upto_region 6 with(first|(go_at_call 29;refine C.mono ?_;clear C;rintro e k ⟨vD,rfl,hD,ab⟩))
 have H6:Hid (Below w2.heap.size w2 k):=H5.out.trans (ab.mono H5.out.size);have aM:Hid (aE TT 3 (fe .u8) k vE [(2,2,115),(3,2,101)]):=bM (ae.below ab) HE.out;have HD:Hid _:=hD;clear hD ab H5 HE;have d:Hid (ae w2 k):=ae.below H6.out;have q:=λx:aj w2 k=>(d.out.trans x.st).cell (a.out 0 _ rfl);have a1:=λx:aj w2 k=>(d.out.trans x.st).cell (a.out 1 _ rfl);have r:=λx:aj w2 k=>(d.out.trans x.st).cell (a.out 2 _ rfl);have z:=λx:aj w2 k=>(d.out.trans x.st).cell (a.out 4 _ rfl);have P:=λx:aj w2 k=>(d.out.trans x.st).cell (a.out 5 _ rfl);have A:=λx:aj w2 k=>(d.out.trans x.st).cell (a.out 6 _ rfl);have Q:=λx:aj w2 k=>(d.out.trans x.st).cell (a.out 7 _ rfl);have R:=λx:aj w2 k=>(d.out.trans x.st).cell (a.out 8 _ rfl);have S:=λx:aj w2 k=>(d.out.trans x.st).cell (a.out 9 _ rfl);have b0:=λx:aj w2 k=>(HY.out x.val (d.out.trans x.st)).1;have b1:=λx:aj w2 k=>(HY.out x.val (d.out.trans x.st)).2.1;have b2:=λx:aj w2 k=>(HY.out x.val (d.out.trans x.st)).2.2.1;have b3:=λx:aj w2 k=>(HY.out x.val (d.out.trans x.st)).2.2.2.1;have b4:=λx:aj w2 k=>(HY.out x.val (d.out.trans x.st)).2.2.2.2.1;have cw:(0:Int)<(exC.marks.length:Int):=by decide
 have qL:=λx:aj w2 k=>aj.calls (MN L x.val (HT.out _ (d.out.trans x.st)) (m1:=#[.string exC.new.name,.string exC.new.word,U,.int .i64 exC.new.day,.bool exC.new.known]) (m2:=#[.string qq.name,.string qq.word,yf,.int .i64 qq.day,.bool qq.known]) ⟨U,rfl,HF.out _ (d.out.trans x.st)⟩ ⟨yf,rfl,(HY.out x.val (d.out.trans x.st)).2.2.2.2.2⟩ (n.out _ (d.out.trans x.st) x.be.size));refine aY (w0:=w2) (w1:=k) (by kernel_rfl) (by kernel_rfl) (ae.refl _) H6.out ?_;haveI ad:Nonempty (aj w2 k):=⟨⟨k,ae.refl _,H6.out⟩⟩
 repeat (go_big_quiet_step (first|(go_at_call 25;exact qL _)))
 refine wpQuiet_nil ?_;rintro l ⟨⟨_,Sz,Bz⟩,rfl⟩;have H7:Hid (Below w2.heap.size w2 l):=Bz;have ba:Hid _:=bM Sz aM.out;have bb:Hid _:=bM Sz HD.out;clear qL q a1 r z P A Q R S b0 b1 b2 b3 b4 ad Sz Bz aM HD H6 d;go_upto_region 7 with fail;have f:Hid (ae w2 l):=ae.below H7.out;have q:=λx:aj w2 l=>(f.out.trans x.st).cell (a.out 0 _ rfl);have a1:=λx:aj w2 l=>(f.out.trans x.st).cell (a.out 1 _ rfl);have r:=λx:aj w2 l=>(f.out.trans x.st).cell (a.out 2 _ rfl);have z:=λx:aj w2 l=>(f.out.trans x.st).cell (a.out 4 _ rfl);have P:=λx:aj w2 l=>(f.out.trans x.st).cell (a.out 5 _ rfl);have A:=λx:aj w2 l=>(f.out.trans x.st).cell (a.out 6 _ rfl);have Q:=λx:aj w2 l=>(f.out.trans x.st).cell (a.out 7 _ rfl);have R:=λx:aj w2 l=>(f.out.trans x.st).cell (a.out 8 _ rfl);have S:=λx:aj w2 l=>(f.out.trans x.st).cell (a.out 9 _ rfl);have b0:=λx:aj w2 l=>(HZ.out x.val (f.out.trans x.st)).1;have b1:=λx:aj w2 l=>(HZ.out x.val (f.out.trans x.st)).2.1;have b2:=λx:aj w2 l=>(HZ.out x.val (f.out.trans x.st)).2.2.1;have b3:=λx:aj w2 l=>(HZ.out x.val (f.out.trans x.st)).2.2.2.1;have b4:=λx:aj w2 l=>(HZ.out x.val (f.out.trans x.st)).2.2.2.2.1;have cw:(2:Int)<(exC.marks.length:Int):=by decide
 have qL:=λx:aj w2 l=>aj.calls (MO L x.val (HT.out _ (f.out.trans x.st)) (m1:=#[.string exC.new.name,.string exC.new.word,U,.int .i64 exC.new.day,.bool exC.new.known]) (m2:=#[.string o8.name,.string o8.word,zf,.int .i64 o8.day,.bool o8.known]) ⟨U,rfl,HF.out _ (f.out.trans x.st)⟩ ⟨zf,rfl,(HZ.out x.val (f.out.trans x.st)).2.2.2.2.2⟩ (n.out _ (f.out.trans x.st) x.be.size));refine aY (w0:=w2) (w1:=l) (by kernel_rfl) (by kernel_rfl) (ae.refl _) H7.out ?_;haveI ad:Nonempty (aj w2 l):=⟨⟨l,ae.refl _,H7.out⟩⟩
 repeat (go_big_quiet_step (first|(go_at_call 25;exact qL _)))
 refine wpQuiet_nil ?_;rintro D ⟨⟨_,Sz,Bz⟩,rfl⟩;have H8:Hid (Below w2.heap.size w2 D):=Bz;have bk:Hid _:=bM Sz ba.out;have br:Hid _:=bM Sz bb.out;clear qL q a1 r z P A Q R S b0 b1 b2 b3 b4 ad Sz Bz ba bb H7 f;go_upto_region 8 with fail;have u:Hid (ae w2 D):=ae.below H8.out;have q:=(u.out).cell (a.out 0 _ rfl);have a1:=(u.out).cell (a.out 1 _ rfl);have r:=(u.out).cell (a.out 2 _ rfl);obtain⟨wA,o⟩:=ex ((D.alloc (.cells #[.int .i64 101,.int .i64 203] 3)).alloc (.cells #[.int .i64 101,.int .i64 204,.int .i64 305] 3));have SA:ae D wA:=by rw[o];exact(ae.alloc _ _).trans (ae.alloc _ _)
 have BA:Below w2.heap.size w2 wA:=by rw[o];exact(H8.out.alloc H8.out.size _).alloc (H8.out.alloc H8.out.size _).size _
 have bs:wA.heap[D.heap.size]? =some (.cells #[.int .i64 101,.int .i64 203] 3 (0,0)):=by rw[o];exact(ae.alloc _ _) _ _ _ _ SY
 have bx:wA.heap[D.heap.size+1]? =some (.cells #[.int .i64 101,.int .i64 204,.int .i64 305] 3 (0,0)):=by rw[o];have h:((D.alloc (.cells #[.int .i64 101,.int .i64 203] 3)).alloc (.cells #[.int .i64 101,.int .i64 204,.int .i64 305] 3)).heap[(D.alloc (.cells #[.int .i64 101,.int .i64 203] 3)).heap.size]? =some (.cells #[.int .i64 101,.int .i64 204,.int .i64 305] 3 (0,0)):=SY;rw[World.size_alloc]at h;exact h
 have af:=MP L wA (HT.out _ (u.out.trans SA)) (m1:=#[.string ⟨#[97]⟩,.string ⟨#[]⟩,.slice (some ⟨D.heap.size,0,none⟩) 2 2,.int .i64 0,.bool false]) (m2:=#[.string ⟨#[98]⟩,.string ⟨#[]⟩,.slice (some ⟨D.heap.size+1,0,none⟩) 3 3,.int .i64 0,.bool false]) ⟨_,rfl,J9 bs⟩ ⟨_,rfl,Ka bx⟩ (n.out _ (u.out.trans SA) BA.size);rw[o]at af;have E:Hid (Below w2.heap.size w2 wA/\ae D wA):=⟨BA,SA⟩
 clear SA BA bs bx;go_upto_region 9 with(first|(go_at_call 25;refine af.mono ?_;clear af;rintro e w9 ⟨rfl,F⟩))
 rw[<-o]at F;have H9:Hid (Below w2.heap.size w2 w9):=E.out.1.trans (F.mono E.out.1.size);have bA:Hid _:=bM (E.out.2.trans (ae.below F)) bk.out;have bB:Hid _:=bM (E.out.2.trans (ae.below F)) br.out;clear F o E H8 u bk br q a1 r;have g:Hid (ae w2 w9):=ae.below H9.out;have q:=(g.out).cell (a.out 0 _ rfl);have a1:=(g.out).cell (a.out 1 _ rfl);have r:=(g.out).cell (a.out 2 _ rfl);have a3:=(g.out).cell (a.out 3 _ rfl);have z:=(g.out).cell (a.out 4 _ rfl);have P:=(g.out).cell (a.out 5 _ rfl);have A:=(g.out).cell (a.out 6 _ rfl);have Q:=(g.out).cell (a.out 7 _ rfl);have R:=(g.out).cell (a.out 8 _ rfl);have S:=(g.out).cell (a.out 9 _ rfl);have G:=(g.out).cell (a.out 10 _ rfl);have bC:=MU w9 (HC.out w9 g.out) (n.out w9 g.out H9.out.size);go_wp2_with fail
 refine bC.mono ?_;rintro e H (⟨vS,rfl,hS,p⟩|⟨v,L',rfl,hp⟩)
 ·have I:Hid (Below w2.heap.size w2 H):=H9.out.trans (p.mono H9.out.size)
  have V:Hid _:=bM (ae.below p) bA.out;have W:Hid _:=bM (ae.below p) bB.out;have c:Hid (ae w2 H):=ae.below I.out;have X:Hid _:=hS;clear bC hS p H9 g bA bB q a1 r a3 z P A Q R S G;go_upto_region 10 with fail;have q:=(c.out).cell (a.out 0 _ rfl);have a1:=(c.out).cell (a.out 1 _ rfl);have r:=(c.out).cell (a.out 2 _ rfl);have a3:=(c.out).cell (a.out 3 _ rfl);have z:=(c.out).cell (a.out 4 _ rfl);have P:=(c.out).cell (a.out 5 _ rfl);have A:=(c.out).cell (a.out 6 _ rfl);have Q:=(c.out).cell (a.out 7 _ rfl);have R:=(c.out).cell (a.out 8 _ rfl);have S:=(c.out).cell (a.out 9 _ rfl);have G:=(c.out).cell (a.out 10 _ rfl);have J:=MQ L H (HC.out H c.out).1 (n.out H c.out I.out.size);go_upto_region 11 with(first|(go_at_call 38;refine J.mono ?_;clear J;rintro e wB ⟨vK,rfl,hK,K⟩))
  have M:Hid (Below w2.heap.size w2 wB):=I.out.trans (K.mono I.out.size);have b5:Hid _:=bM (ae.below K) V.out;have b6:Hid _:=bM (ae.below K) W.out;have b7:Hid _:=bM (ae.below K) X.out;have b8:Hid _:=hK;have j:Hid (ae w2 wB):=ae.below M.out;clear hK K I c V W X q a1 r a3 z P A Q R S G;have q:=(j.out).cell (a.out 0 _ rfl);have a1:=(j.out).cell (a.out 1 _ rfl);have r:=(j.out).cell (a.out 2 _ rfl);have a3:=(j.out).cell (a.out 3 _ rfl);have z:=(j.out).cell (a.out 4 _ rfl);have P:=(j.out).cell (a.out 5 _ rfl);have A:=(j.out).cell (a.out 6 _ rfl);have Q:=(j.out).cell (a.out 7 _ rfl);have R:=(j.out).cell (a.out 8 _ rfl);have S:=(j.out).cell (a.out 9 _ rfl);have G:=(j.out).cell (a.out 10 _ rfl);have J:=MR L wB (HC.out wB j.out).1 (n.out wB j.out M.out.size);go_upto_region 12 with(first|(go_at_call 38;refine J.mono ?_;clear J;rintro e O ⟨bo,oo,co,rfl,⟨t0,t1,t2⟩,y⟩))
  have T:Hid (Below w2.heap.size w2 O):=M.out.trans (y.mono M.out.size);have cx:Hid _:=bM (ae.below y) b5.out;have cy:Hid _:=bM (ae.below y) b6.out;have cz:Hid _:=bM (ae.below y) b7.out;have cA:Hid _:=bM (ae.below y) b8.out;clear y M j b5 b6 b7 b8 q a1 r a3 z P A Q R S G;replace t0:O.cell? ⟨bo,oo,none⟩=some (.int .i64 1):=t0;replace t1:O.cell? ⟨bo,oo+1,none⟩=some (.int .i64 0):=t1;replace t2:O.cell? ⟨bo,oo+2,none⟩=some (.int .i64 0):=t2;have Y:=yO FM 1 0 0 1 0 0;rw[Sd (⟨rfl,rfl,rfl⟩:(1:Int)=1/\(0:Int)=0/\(0:Int)=0)]at Y;have ca:=iF FM uM .neq (.tmp 156) (.tmp 157);go_upto_region 16 with fail;clear Y ca t0 t1 t2;have qA:=Ez L (O.alloc (.cells #[.int .i64 2,.int .i64 2,.int .u8 115,.int .i64 3,.int .i64 2,.int .u8 101] 96)) (bM (ae.alloc _ _) cx.out) (oY [(2,2,115),(3,2,101)] (by decide) _ rfl);have cB:=λb (m:ae O b)=>Ez L (b.alloc (.cells #[.int .i64 0,.int .i64 0,.int .u8 98,.int .i64 1,.int .i64 1,.int .u8 0] 96)) (bM (m.trans (ae.alloc _ _)) cy.out) (oY [(0,0,98),(1,1,0)] (by decide) _ rfl);have cC:=λb (m:ae O b)=>MS L (b.alloc (.cells #[.int .i64 0,.int .i64 0,.int .i64 100,.int .i64 1,.int .i64 1,.int .i64 100] 66)) (bM (m.trans (ae.alloc _ _)) cz.out) (oY [(0,0,100),(1,1,100)] (by decide) _ rfl);have cD:=λb (m:ae O b)=>MT L (b.alloc (.cells #[.int .i64 0,.int .i64 90,.int .i64 0,.int .i64 0,.int .i64 100,.int .i64 2,.int .i64 0,.int .i64 0,.int .i64 3] 86)) (bM (m.trans (ae.alloc _ _)) cA.out) (oY [(0,90,0),(0,100,2),(0,0,3)] (by decide) _ rfl);go_wp2_with (first
   |(go_at_call 46;refine qA.mono ?_;clear qA;rintro e wD ⟨rfl,cb⟩;have sD:ae O wD:=(ae.alloc _ _).trans (ae.below cb);have qD:=cB wD sD;have DD:Hid (Below w2.heap.size w2 wD):=(T.out.alloc T.out.size _).trans (cb.mono (T.out.alloc T.out.size _).size))
   |(go_at_call 46;refine qD.mono ?_;clear qD;rintro e wE ⟨rfl,cd⟩;have sE:ae O wE:=sD.trans ((ae.alloc _ _).trans (ae.below cd));have qH:=cC wE sE;have DE:Hid (Below w2.heap.size w2 wE):=(DD.out.alloc DD.out.size _).trans (cd.mono (DD.out.alloc DD.out.size _).size))
   |(go_at_call 36;refine qH.mono ?_;clear qH;rintro e wF ⟨rfl,cf⟩;have sF:ae O wF:=sE.trans ((ae.alloc _ _).trans (ae.below cf));have qK:=cD wF sF;have DF:Hid (Below w2.heap.size w2 wF):=(DE.out.alloc DE.out.size _).trans (cf.mono (DE.out.alloc DE.out.size _).size))
   |(go_at_call 40;refine qK.mono ?_;clear qK;rintro e wG ⟨rfl,cF⟩;have DG:Hid (Below w2.heap.size w2 wG):=(DF.out.alloc DF.out.size _).trans (cF.mono (DF.out.alloc DF.out.size _).size)))
  go_ret;exact .inl ⟨rfl,HB.out.trans (DG.out.mono HB.out.size)⟩
 ·have HP:Hid _:=hp
  clear hp;exact fw rfl (.inr ⟨v,L',rfl,HP.out⟩)
def EE{v0 v1 v2:Value}{t:Table}(k:Int)(s:ByteArray)(w)(ht:IsTable (λ_=>True) w v0 v1 v2 t)(hr:BI t)(P:iO w):
 Calls (Qs FM) 3 #[.agg #[v0,v1,v2],.int .i64 k,.string s] w λe w'=>(e=.returned (.bool true)/\Below w.heap.size w w')\/∃v L,e=.panicked (iy v)/\dJ w' v L:=by
 have L:=iQ;have e16:=e16 L;have e17:∀(a:Array Value) (w:World),(callFunc 17 a).run (Qs FM) w=.ok (.enter 17 a) w:=e17 L;have e18:=e18 L;have e19:=e19 L;have e20:=e20 L;have e21:=e21 L;have e22:=e22 L;have e23:=e23 L;obtain⟨w1,u⟩:=ex (w.alloc (.cells #[v0,v1,v2] 26));have S1:ae w w1:=by rw[u];exact ae.alloc _ _
 have B1:Below w.heap.size w w1:=by rw[u];exact aG _ _
 have ct:∀i v,(#[v0,v1,v2]:Array Value)[i]? =some v->w1.cell? ⟨w.heap.size,i,none⟩=some v:=λi v h=>by rw[u];exact aw w _ 26 i v h
 have c:=ht.stays S1;have Q:=PK L w1 c hr;have E:=P.stays S1 B1.size;have qs:=λw2 (b:Below w1.heap.size w1 w2)=>Oy w2 (E.stays (ae.below b) b.size);have m:=λw2 (b:Below w1.heap.size w1 w2)=>OC L s w2 (c.stays (ae.below b));have n:=λ(y:oH t) w2 (b:Below w1.heap.size w1 w2)=>OD L s w2 (c.stays (ae.below b)) y;have F:=λw2 (b:Below w1.heap.size w1 w2)=>eD L w2 (c.stays (ae.below b));have G:=λ(y:oH t) w2 (b:Below w1.heap.size w1 w2)=>lR L w2 (c.stays (ae.below b)) y;have o:=λw2 (b:Below w1.heap.size w1 w2)=>MW L k s w2 (c.stays (ae.below b)) (E.len.stays (ae.below b));have p:=λ(y:oH t) w2 (b:Below w1.heap.size w1 w2)=>MY L k s w2 (c.stays (ae.below b)) y;obtain⟨N,hN⟩:=ex (w.heap.size);rw[<-hN]at ct;have R:∀w2,Below w1.heap.size w1 w2->w2.cell? ⟨N,0,none⟩=some v0:=λw2 b=>(ae.below b).cell (ct 0 _ rfl);have S:∀w2,Below w1.heap.size w1 w2->w2.cell? ⟨N,1,none⟩=some v1:=λw2 b=>(ae.below b).cell (ct 1 _ rfl);have T:∀w2,Below w1.heap.size w1 w2->w2.cell? ⟨N,2,none⟩=some v2:=λw2 b=>(ae.below b).cell (ct 2 _ rfl);obtain⟨b0,U⟩:=ex (uf t s);obtain⟨f0,V⟩:=ex (fL t s);obtain⟨b1,W⟩:=ex (nf t k s);obtain⟨f1,X⟩:=ex (dU t k s);obtain⟨f2,Y⟩:=ex (bH t);simp only[<-U,<-V]at m n;simp only[<-W,<-X]at o p;simp only[<-Y]at F G;have A:w1.cell? ⟨N,0,none⟩=some v0:=ct 0 _ rfl;have B:w1.cell? ⟨N,1,none⟩=some v1:=ct 1 _ rfl;have C:w1.cell? ⟨N,2,none⟩=some v2:=ct 2 _ rfl;have r:Hid _:=B1;have HS:Hid _:=qs;have ar:Hid _:=m;have ax:Hid _:=n;have ay:Hid _:=F;have aM:Hid _:=G;have a1:Hid _:=o;have a6:Hid _:=p;have d:Hid _:=R;have f:Hid _:=S;have g:Hid _:=T;clear ht c hr P E S1 B1 ct U V W X Y qs m n F G o p R S T;go_enter (n3 L),Tryz.ntmps3;go_upto_region 1 with fail;rw[<-u,<-hN];clear u hN;go_wp2_with fail
 refine Q.mono ?_;clear Q;rintro e w2 ⟨z,rfl,y,j⟩;have Z:True:=trivial;cases z
 ·have H:=y rfl
  by_cases h2:200<s.size
  ·have a7:decide ((200:Int)<(s.size:Int))=true:=Sd (by omega)
   have q:=HS.out w2 j;have x:Hid (Below w.heap.size w w2):=r.out.trans (j.mono r.out.size);clear j y A B C h2;go_wp2_with fail
   refine q.mono ?_;rintro e w9 (⟨rfl,b⟩|⟨v,L',rfl,D⟩)
   ·have r:Hid _:=b
    clear b q;go_wp2;go_ret;exact .inl ⟨rfl,x.out.trans (r.out.mono x.out.size)⟩
   ·have HP:Hid _:=D
    clear D;exact fw rfl (.inr ⟨v,L',rfl,HP.out⟩)
  ·have a7:decide ((200:Int)<(s.size:Int))=false:=R8 (by omega)
   have I:=j;have m:=ar.out w2 I;have A:=d.out w2 I;have B:=f.out w2 I;have C:=g.out w2 I;clear j y h2;go_upto_region 5 with(first|(go_at_call 18;refine m.mono ?_;clear m;rintro e w3 ⟨rfl,aa⟩;have J:Below w1.heap.size w1 w3:=I.trans (aa.mono I.size);have A:=d.out w3 J;have B:=f.out w3 J;have C:=g.out w3 J;have n:=ax.out H w3 J;clear aa I)|(go_at_call 19;refine n.mono ?_;clear n;rintro e w4 ⟨rfl,ab⟩;have C4:Below w1.heap.size w1 w4:=J.trans (ab.mono J.size);have A:=d.out w4 C4;have B:=f.out w4 C4;have C:=g.out w4 C4;skip;clear ab J))
   have K:(Qs FM).follows .mixedOrders=true:=(iG L).1.mixed;have l:Hid (Below w1.heap.size w1 w4.drew):=C4.drew;have A:=d.out w4.drew l.out;have B:=f.out w4.drew l.out;have C:=g.out w4.drew l.out;have a8:(b0.toList==b0.toList)=true:=by rw[jN];simp
   have ba:(b1.toList==b1.toList)=true:=by rw[jN];simp
   clear C4
   go_region_with_o (first|(go_at_call 20;refine(ay.out w4.drew l.out).mono ?_;rintro e w5 ⟨rfl,ad⟩;have M:Hid (Below w1.heap.size w1 w5):=l.out.trans (ad.mono l.out.size);have A:=d.out w5 M.out;have B:=f.out w5 M.out;have C:=g.out w5 M.out;clear ad)|(go_at_call 21;refine(aM.out H w5 M.out).mono ?_;rintro e w6 ⟨rfl,af⟩;have C6:Hid (Below w1.heap.size w1 w6):=M.out.trans (af.mono M.out.size);have A:=d.out w6 C6.out;have B:=f.out w6 C6.out;have C:=g.out w6 C6.out;clear af))
   all_goals (
    have D6:=C6.out;have o:=a1.out w6 D6;clear l M C6 K;go_wp2_with (first|(go_at_call 22;refine o.mono ?_;clear o;rintro e w7 ⟨rfl,ag⟩;have O:Below w1.heap.size w1 w7:=D6.trans (ag.mono D6.size);have A:=d.out w7 O;have B:=f.out w7 O;have C:=g.out w7 O;have p:=a6.out H w7 O;clear ag D6)|(go_at_call 23;refine p.mono ?_;clear p;rintro e w8 ⟨rfl,ak⟩;have C8:Below w1.heap.size w1 w8:=O.trans (ak.mono O.size);have A:=d.out w8 C8;have B:=f.out w8 C8;have C:=g.out w8 C8;have an:=HS.out w8 C8;have x:Hid (Below w.heap.size w w8):=r.out.trans (C8.mono r.out.size);clear ak O))
    refine an.mono ?_;rintro e w9 (⟨rfl,b⟩|⟨v,L',rfl,D⟩)
    ·have r:Hid _:=b
     clear b an;go_wp2;go_ret;exact .inl ⟨rfl,x.out.trans (r.out.mono x.out.size)⟩
    ·have HP:Hid _:=D
     clear D;exact fw rfl (.inr ⟨v,L',rfl,HP.out⟩))
 ·have q:=HS.out w2 j
  have ao:Hid (Below w.heap.size w w2):=r.out.trans (j.mono r.out.size);clear j y A B C;go_wp2_with fail
  refine q.mono ?_;rintro e w3 (⟨rfl,b⟩|⟨v,L',rfl,D⟩)
  ·have r:Hid _:=b
   clear b q;go_wp2;go_ret;exact .inl ⟨rfl,ao.out.trans (r.out.mono ao.out.size)⟩
  ·have HP:Hid _:=D
   clear D;exact fw rfl (.inr ⟨v,L',rfl,HP.out⟩)
end Go.Proofs
namespace Go.Proofs
open Go.Tm Go.RowKit Go.ChangeShapes Go.WideShapes Go.ChangeAt Go.WideElems Go.Conc
theorem Ig{a:Type}{Q:Nat->a->Prop}:∀(n),(∀i,i<n->∃x,Q i x)->∃l:List a,l.length=n/\∀i (h:i<l.length),Q i l[i]
 |0,_=>⟨[],rfl,λi h=>absurd h (Sm _)⟩
 |n+1,h=>by
  obtain⟨l,c,d⟩:=Ig n λi b=>h i (by omega);obtain⟨x,e⟩:=h n (by omega);refine⟨l++[x],by simp[c],λi b=>?_⟩;rw[List.getElem_append];split
  ·exact d i _
  ·have:i=n:=by simp at b;omega
   subst this;simpa using e
def ug(W:World)(V:Value)(a:World):Prop:=V=.bool true/\a.os=W.os/\a.output=W.output/\W.heap.size<=a.heap.size/\∀b,b<W.heap.size->a.heap[b]? =W.heap[b]?
def ug.below{W a V}(h:ug W V a):Below W.heap.size W {a with os:=W.os,tape:=W.tape,output:=W.output}:=⟨rfl,rfl,rfl,h.2.2.2.1,h.2.2.2.2⟩
def laidOut:laidOutB Tryz.prog=true:=by kernel_rfl
def ug.kept{W a V}(h:ug W V a)(may):W.keptBut a may:=by refine⟨h.2.1,h.2.2.1,λi b=>?_⟩;rw[h.2.2.2.2 i b];split<;>simp_all
def ug.trod{H enc W c V}(h:ug W V c){t}(f:Tryz.prog.readableRec t=true)(a:t<Tryz.prog.types.size){v}{d:DataW H}{ps}
 (g:DataW.Trod enc Tryz.prog W 0 (λ_=>true) true t v d ps) (e:∀x∈ps,x.block<W.heap.size):DataW.Trod enc Tryz.prog c 0 (λb=>decide (b<W.heap.size)) true t v d ps:=
 DataW.Trod.of_heap (w:={c with os:=W.os,tape:=W.tape,output:=W.output}) (w':=c) (by rfl) (Below.trod laidOut f a g h.below e)
def TV.heap{σ b w' a q v V}(d:w'.heap=a.heap)(h:TV σ b w' q v V):TV σ b a q v V:=by
 cases h with
 |bool=>exact .bool _
 |int=>exact .int _ _
 |string=>exact .string _
 |im=>exact .im _ _
 |slice l c e f g=>exact .slice l c e f (d▸g)
 |empty=>exact .empty _ _
def Carry.heap{σ K c w w' a}(d:w'.heap=a.heap)(h:Carry σ K c w w'):Carry σ K c w a where
 fn:=h.fn
 cell b b' o v h1 h2 h3:=by obtain⟨f,e,g⟩:=h.cell b b' o v h1 h2 h3;exact⟨f,(by unfold World.cell? at e⊢;rw[<-d];exact e),g.heap d⟩
inductive MZ(W:World):Value->Prop
 |one {v}:CV TT W true v->MZ W v
 |agg {cs:Array Value}:gR TT W cs->MZ W (.agg cs)
def M4{W:World}{f:FuncId}(p:gn.ent f=true){args:Array Value}(d:iO W)(r:∀x∈args,MZ W x)
 (j:∀w:World,w.heap.size=W.heap.size->Carry (λa b=>a=b) TT TT W w->(∀q v,CV TT W q v->TV (λa b=>a=b) TT w q v v)->iO w->Calls (Qs FM) f args w λe w'=>(e=.returned (.bool true)/\Below w.heap.size w w')\/∃v L,e=.panicked (iy v)/\dJ w' v L):
 cQ Tryz.prog (ug W) (crowd #[G (Frame.enter Tryz.prog f args .normal) []] W none) #[]:=by
 let B:Nat->Prop:=λx=>∃c e F,W.heap[x]? =some (.cells c e F);have k:∀b,TT b->(∃c e F,W.heap[b]? =some (.cells c e F))->B b:=λb _ h=>h;refine Ms (W:=W) (B:=B) p (λx l=>?_) d.size (d.cells 0 (by decide)) (λg h=>d.cells g h) (λx l=>?_) λPr w m=>?_
 ·obtain⟨c,e,F,s⟩:=l
  exact⟨_,s,.inl ⟨c,e,F,rfl⟩⟩
 ·cases r x l with
  |one h=>exact h.self k
  |agg h=>refine .agg rfl λi x X l o=>?_;rw[l]at o;cases o;exact(h x (Td l)).self k
 ·have same:∀x:Nat,(cP (idR gN B) Pr W).heap[x]? =w.heap[x]? :=λx=>by rw[m]
  have t:ae (cP (idR gN B) Pr W) w:=λx c e F h=>(same x).symm.trans h;have n:w.heap.size=W.heap.size:=by rw[m,kH]
  have h:=j w n ((Carry.mask (G:=gN) (fz:=Pr) k).heap m.symm) (λq v h=>(TV.mask (G:=gN) (B:=B) (fz:=Pr) h).heap m.symm) ((d.mask).stays t (by rw[kH,n];exact R2 _));rw[n]at h;exact h
section
variable {H:Type} {enc:TypeId×Value->H} {W:World}
def iz(t:TypeId)(d:DataW H):Prop:=∀n∈d.weights Tryz.prog t,n<=reachBytes
theorem oI{P e n}:∀{l:List (DataW H)} {d},d∈l->n∈d.weights P e->n∈DataW.weightsAll P e l
 |a::r,d,c,b=>by
  unfold DataW.weightsAll;obtain rfl|h:=SE.1 c
  ·exact UC _ b
  ·exact Vs _ (oI h b)
theorem jH{P n}:∀{ts:List TypeId} {l:List (DataW H)} {i:Nat} {t d},ts[i]? =some t->l[i]? =some d->n∈d.weights P t->n∈DataW.weightsEach P ts l
 |t0::ts,d0::l,0,t,d,a,b,c=>by cases a;cases b;unfold DataW.weightsEach;exact UC _ c
 |t0::ts,d0::l,i+1,t,d,a,b,c=>by unfold DataW.weightsEach;exact Vs _ (jH (i:=i) a b c)
def iz.field{t fs}{xs:List (DataW H×List MemPlace)}(a:Tryz.prog.underlying t=some (.struct fs))(h:iz t (.agg (xs.map (·.1)))){i:Nat}{f:Field}{x}(b:fs[i]? =some f)(c:xs[i]? =some x):iz f.type x.1:=λn e=>by refine h n ?_;unfold DataW.weights;rw[a];exact jH (i:=i) (t:=f.type) (d:=x.1) (by rw[TK,Tg,b];rfl) (by rw[TK,c];rfl) e
def iz.elem{t e}{xs a:List (DataW H×List MemPlace)}(b:Tryz.prog.underlying t=some (.slice e))(h:iz t (.slice (xs.map (·.1)) (a.map (·.1)))){x}(c:x∈xs):iz e x.1:=λn d=>by refine h n ?_;unfold DataW.weights;rw[b];exact UT _ (UC _ (oI (List.mem_map_of_mem c) d))
def Reads{c:Type}(enc:TypeId×Value->H)(W:World)(e:TypeId)(d:Nat)(E:(Nat->Prop)->World->Nat->Nat->c->Prop)(R:c->Prop):Prop:=∀(fuel:Nat) (cs:List Value) (x:DataW H×List MemPlace) (b a:Nat),DataW.trod enc Tryz.prog W 0 (λ_=>true) true fuel e cs=some x->(∀i,i<d->W.cell? ⟨b,a+i,none⟩=cs[i]?)->cs.length=d->iz e x.1->∃y:c,E TT W b a y/\R y
def Kd{w:World}{a:Addr}{v}(h:w.cell? a=some v):a.spot=none/\∃c e F,w.heap[a.block]? =some (.cells c e F):=by
 unfold World.cell? at h;split at h
 ·rename_i c e F b
  split at h
  ·cases h
  ·rename_i d
   exact⟨by simpa using d,_,_,_,b⟩
 ·cases h
def oJ{C:Type}{t e B E}{R:C->Prop}(Q:Tryz.prog.underlying t=some (.slice e))(D:Tryz.prog.cellsOf e=B)(U:0<B)(V:Reads enc W e B E R){fuel:Nat}{v x}
 (h:DataW.trod enc Tryz.prog W 0 (λ_=>true) true fuel t [v]=some x) (X:iz t x.1):∃l:List C,aE TT B E W v l/\∀y∈l,R y:=by
 obtain⟨g,_⟩|⟨a,len,cap,G,rest,n,rfl,g,rfl,_,Y,Z,S,q,I,_⟩:=DataW.trod_slice Q h
 ·cases g
  exact⟨[],⟨none,0,rfl,R2 _,by decide,.inl rfl,λk m=>absurd m (by simp)⟩,λy r=>by cases r⟩
 ·cases g
  subst D;by_cases hc:cap=0
  ·subst hc
   obtain rfl:len=0:=by omega
   exact⟨[],⟨some a,0,rfl,R2 _,by decide,.inl rfl,λk m=>absurd m (by simp)⟩,λy r=>by cases r⟩
  ·have o:∃cs,W.cells? 0 a (Tryz.prog.cellsOf e)=some cs:=by
    by_cases J:0<len
    ·have d:=q 0 J
     rw[SK (by omega),TE]at d;obtain⟨cs,d,_⟩:=d;rw[Ub]at d;exact⟨cs,d⟩
    ·obtain⟨d,K⟩:=I rfl
     have s:=K 0 (by omega);rw[SK (by omega),TE]at s;obtain⟨cs,s,_⟩:=s;rw[show len+0=0 by omega,Ub]at s;exact⟨cs,s⟩
   obtain⟨cs,m⟩:=o;obtain⟨_,aa,L⟩:=World.cells?_some m;have u:=L 0 U;rw[SK (by omega)]at u;obtain⟨M,f⟩:=Kd u;obtain⟨b,p,w⟩:=a;have M:w=none:=M;subst M;have f:∃c e F,W.heap[b]? =some (.cells c e F):=f;have z:∀i,i<len->∃y:C,E TT W b (p+i*Tryz.prog.cellsOf e) y/\R y:=λi N=>by have d:=q i N;rw[SK (by omega),TE]at d;obtain⟨cs,d,K⟩:=d;rw[e9]at d;obtain⟨_,O,P⟩:=World.cells?_some d;exact V _ cs _ b _ K (λj hj=>by have:=P j hj;rw[e9]at this;exact this) O (X.elem Q (Sg _))
   obtain⟨l,A,T⟩:=Ig len z;refine⟨l,⟨some ⟨b,p,none⟩,cap,by rw[A],by rw[A];exact Y,by unfold maxLen at Z;omega,.inr λa h=>?_,λk m=>⟨b,p,rfl,(T k m).1⟩⟩,λy r=>?_⟩
   ·cases h
    exact⟨rfl,trivial,f⟩
   ·obtain⟨i,N,rfl⟩:=T3 r
    exact(T i N).2
end
end Go.Proofs

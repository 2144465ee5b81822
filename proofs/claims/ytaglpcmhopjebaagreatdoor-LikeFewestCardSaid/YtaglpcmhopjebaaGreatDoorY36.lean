import Derived.Test.YtaglpcmhopjebaaGreatDoorY35
set_option linter.all false
set_option maxRecDepth 100000
set_option maxHeartbeats 20000000
namespace Go.Proofs
open Go.Tm Go.RowKit
variable {fs:Array Func} (L:bQ fs)
def Cr(k:Int)(w:World):Calls (Qs fs) 66 #[.int .i64 k] w λe w'=>e=.returned (.bool (au k 0 5))/\w'=w:=by
 have e63:=e63 L;have a:=cj fs (n63 L) k 0 5 w;go_enter (n66 L),Tryz.ntmps66;go_wp2_with (first|(go_at_call 63;refine a.mono ?_;clear a;rintro e w2 ⟨rfl,rfl⟩))
 go_ret;exact⟨rfl,rfl⟩
def vH(a b):(if(if(!a)=true then(1:Int)else 0)≠0 then(if(!a)=true then(1:Int)else 0)else(if b=true then(7:Int)else 0))=if(!a)=true then 1 else if b=true then 7 else 0:=by cases a<;>cases b<;>rfl
def MI(l:List Int)(n):codeF (l.take 0) n=if(!au n 0 999)=true then 1 else if(false:Bool)=true then 7 else 0:=rfl
def GA(l:List Int)(k)(a:k<l.length)(n):codeF (l.take (k+1)) n=if(!au n 0 999)=true then 1 else if(decide (n<=l[k]))=true then 7 else 0:=by unfold codeF;rw[Tn a,VD];rfl
def Ah{K:Nat->Prop}{ao:Option Addr}{c:Nat}{l:List Int}(j:Nat)(N:j<l.length)(D:Nat)(w:World)(F:w.cell? ⟨D,2,none⟩=some (.slice ao l.length c))(i:aB K 1 dn w (.slice ao l.length c) l):
 Calls (Qs fs) 114 #[.int .i64 j,.int .i64 l[j],.pointer (some ⟨D,0,none⟩)] w λe w'=>e=.returned (.int .i64 (codeF (l.take j) l[j]))/\Below w.heap.size w w':=by
 have e52:=e52 L;have e63:=e63 L;have e51:=e51 L;obtain⟨O,c',G,H,I,u,a⟩:=id i;cases G;obtain⟨n,z⟩:=ex (l[j]);rw[<-z];have d:=cj fs (n63 L) n 0 999 w;obtain⟨z1,g⟩:=ex (au n 0 999);have o:(decide (0<=n)&&decide (n<=999))=z1:=g.symm;rw[o]at d;have v:=λp=>dm L (!z1) 1 p;obtain⟨r,h⟩:∃f:Int,f=if(!z1)=true then 1 else 0:=⟨_,rfl⟩
 rw[<-h]at v;cases j with
 |zero=>
  have x:Hid ((if r≠0 then r else(if(false:Bool)=true then 7 else 0))=codeF (l.take 0) n):=by rw[Hid,MI,<-g,h];exact vH z1 false
  have t:=λp=>dm L false 7 p;have q:=λp=>de L r (if(false:Bool)=true then 7 else 0) p;rw[x.out]at q;clear z g o h i u a;go_enter (n114 L),Tryz.ntmps114;go_wp2_with (first|(go_at_call 63;refine d.mono ?_;clear d;rintro e w2 ⟨rfl,rfl⟩)|(go_at_call 52;refine(v _).mono ?_;clear v;rintro e w2 ⟨rfl,rfl⟩)|(go_at_call 52;refine(t _).mono ?_;clear t;rintro e w2 ⟨rfl,rfl⟩)|(go_at_call 51;refine(q _).mono ?_;clear q;rintro e w3 ⟨rfl,rfl⟩))
  go_ret;exact⟨rfl,(Below.refl _ _).alloc (Rq _) _⟩
 |succ k=>
  have B:k<l.length:=by omega
  obtain⟨b,C,rfl,A⟩:=a k B;rw[SG]at A;have A:w.cell? ⟨b,C+k,none⟩=some (.int .i64 l[k]):=A;obtain⟨m,y⟩:=ex (l[k]);rw[<-y]at A;have J:(k:Int)<(l.length:Int):=by omega
  have M:(k:Int)+1>0:=by omega
  by_cases s:n<=m
  ·have x:Hid ((if r≠0 then r else 7)=codeF (l.take (k+1)) n):=by rw[Hid,GA l k B,<-g,h,<-y,RE s];exact vH z1 true
   have t:=λp=>dm L true 7 p;have q:=λp=>de L r 7 p;rw[x.out]at q;clear z g o h i u a y x;go_enter (n114 L),Tryz.ntmps114;go_wp2_with (first|(go_at_call 63;refine d.mono ?_;clear d;rintro e w2 ⟨rfl,rfl⟩)|(go_at_call 52;refine(v _).mono ?_;clear v;rintro e w2 ⟨rfl,rfl⟩)|(go_at_call 52;refine(t _).mono ?_;clear t;rintro e w2 ⟨rfl,rfl⟩)|(go_at_call 51;refine(q _).mono ?_;clear q;rintro e w3 ⟨rfl,rfl⟩))
   go_ret;exact⟨rfl,(Below.refl _ _).alloc (Rq _) _⟩
  ·have x:Hid ((if r≠0 then r else 0)=codeF (l.take (k+1)) n):=by rw[Hid,GA l k B,<-g,h,<-y,Rz s];exact vH z1 false
   have E:decide (n<=m)=false:=Rz s;clear s;have t:=λp=>dm L false 7 p;have q:=λp=>de L r 0 p;rw[x.out]at q;clear z g o h i u a y x;go_enter (n114 L),Tryz.ntmps114;go_wp2_with (first|(go_at_call 63;refine d.mono ?_;clear d;rintro e w2 ⟨rfl,rfl⟩)|(go_at_call 52;refine(v _).mono ?_;clear v;rintro e w2 ⟨rfl,rfl⟩)|(go_at_call 52;refine(t _).mono ?_;clear t;rintro e w2 ⟨rfl,rfl⟩)|(go_at_call 51;refine(q _).mono ?_;clear q;rintro e w3 ⟨rfl,rfl⟩))
   go_ret;exact⟨rfl,(Below.refl _ _).alloc (Rq _) _⟩
def Cs(a b c):(if(if(!a)=true then(4:Int)else 0)≠0 then(if(!a)=true then(4:Int)else 0)else(if(b&& !c)=true then(3:Int)else 0))=if(!a)=true then 4 else if(b&& !c)=true then 3 else 0:=by cases a<;>cases b<;>cases c<;>rfl
def Ke(m):eT m=if(if(!gS m.name)=true then(4:Int)else if(!m.word.data.toList.isEmpty&& !dq m.word 16)=true then 3 else 0)≠0 then(if(!gS m.name)=true then(4:Int)else if(!m.word.data.toList.isEmpty&& !dq m.word 16)=true then 3 else 0)else
 if bp 0 5 codeF m.aW≠0 then bp 0 5 codeF m.aW else if(!au m.day 0 99999)=true then 1 else 0:=by
 unfold eT;cases gS m.name with
 |false=>rfl
 |true=>
  cases(!m.word.data.toList.isEmpty&& !dq m.word 16)with
  |true=>rfl
  |false=>rfl
def Ct(s:ByteArray):s.toList.isEmpty=s.data.toList.isEmpty:=by rw[Lib.toList_data]
def Ol{K:Nat->Prop}{ao:Option Addr}{c:Nat}{l:List Int}(b:Nat)(w:World)(d:w.cell? ⟨b,2,none⟩=some (.slice ao l.length c))(a:aB K 1 dn w (.slice ao l.length c) l):
 Calls (Qs fs) 82 #[.slice ao l.length c,.int .i64 0,.int .i64 5,.func (.func 114) #[] #[.pointer (some ⟨b,0,none⟩)]] w λe w'=>e=.returned (.int .i64 (bp 0 5 codeF l))/\Below w.heap.size w w':=by
 have f:=(iS L 114 #[.pointer (some ⟨b,0,none⟩)] 0 5 w (λ_ wr=>Below w.heap.size w wr) (uq codeF l) (QW L) (Below.refl _ _) (λj wr h=>ae.below h) (λj wr o h=>h.alloc h.size _)).2.2.2.2.1 _ a
  (λj g wr h=>(Ah L j g b wr ((ae.below h).cell d) (a.ints (ae.below h))).mono λe w' i=>⟨by rw[hZ _ _ _ g];exact i.1,h.trans (i.2.mono h.size)⟩)
 have f:=f.p;exact f.mono λe w' h=>by obtain⟨k,j,m⟩:=h;exact⟨k,m⟩
def kN{K:Nat->Prop}{mc:Array Value}{m:Mark}(w:World)(hm:dg K w mc m):
 Calls (Qs fs) 67 #[.agg mc] w λe w'=>e=.returned (.int .i64 (eT m))/\Below w.heap.size w w':=by
 obtain⟨vf,rfl,r⟩:=hm;obtain⟨ao,c,rfl,_⟩:=id r;have Mj:=Mj L;have e99:=e99 L;have e52:=e52 L;have e51:=e51 L;have e82:=e82 L;have e63:=e63 L;have ag:∀(fn:Fn) (first cap:Array Value) (w:World),(Instr.makeFunc fn first cap).run (Qs fs) w=.ok (.func fn first cap) w:=λ_ _ _ _=>rfl;obtain⟨w1,n⟩:=ex (w.alloc (.cells #[.string m.name,.string m.word,.slice ao m.aW.length c,.int .i64 m.day,.bool m.known] 38));have S1:ae w w1:=by rw[n];exact ae.alloc _ _
 have B1:Below w.heap.size w w1:=by rw[n];exact aF _ _
 have ct:∀i v,(#[.string m.name,.string m.word,.slice ao m.aW.length c,.int .i64 m.day,.bool m.known]:Array Value)[i]? =some v->w1.cell? ⟨w.heap.size,i,none⟩=some v:=λi v h=>by rw[n];exact aw w _ 38 i v h
 obtain⟨N,hN⟩:=ex (w.heap.size);have f0:=ct 0 _ rfl;have f1:=ct 1 _ rfl;have Q:=ct 2 _ rfl;have S:=ct 3 _ rfl;rw[<-hN]at f0 f1 Q S;have ab:=λx:aj w1 w1=>x.cell f0;have ad:=λx:aj w1 w1=>x.cell f1;have o:=λa (h:ae w1 a)=>Ol L N a (h.cell Q) (r.ints (S1.trans h));have d:=λx:aj w1 w1=>aj.calls (Gz L m.name x.val);have s:=λx:aj w1 w1=>aj.calls (vG L m.word 16 x.val (by decide));have t:=λa=>cj fs (n63 L) m.day 0 99999 a;have G:Hid _:=Ke m;obtain⟨z1,H⟩:=ex (gS m.name);obtain⟨z2,I⟩:=ex (dq m.word 16);obtain⟨z3,J⟩:=ex (au m.day 0 99999);have R:(decide (0<=m.day)&&decide (m.day<=99999))=z3:=J.symm;rw[R]at t;rw[<-H]at d;rw[<-I]at s;obtain⟨y0,T⟩:=ex (bp 0 5 codeF m.aW);rw[<-T]at o;obtain⟨F,g⟩:=ex ((if(!gS m.name)=true then(4:Int)else if(!m.word.data.toList.isEmpty&& !dq m.word 16)=true then 3 else 0));rw[<-g,<-T,<-J]at G;rw[<-H,<-I]at g;have qa:=λx:aj w1 w1=>aj.same (dm L (!z1) 4 x.val);obtain⟨p,u⟩:∃f:Int,f=if(!z1)=true then 4 else 0:=⟨_,rfl⟩
 rw[<-u]at qa;have HF:Hid True:=trivial;clear r ct T R;by_cases hw:m.word.toList.isEmpty=true
 ·have U:m.word.toList.isEmpty=true:=hw
  have hW:(!m.word.data.toList.isEmpty)=false:=by rw[<-Ct,U];rfl
  rw[hW]at g;have V:=λx:aj w1 w1=>aj.same (dm L false 3 x.val);have HB:Hid _:=B1;have HS:Hid _:=S1;have y:Hid ((if p≠0 then p else(if false=true then(3:Int)else 0))=F):=by rw[Hid,g,u];exact Cs z1 false z2
  obtain⟨fb,hfb⟩:∃f:Int,f=if false=true then 3 else 0:=⟨_,rfl⟩
  rw[<-hfb]at V y;clear hw hW hfb g u H I J HF;go_enter (n67 L),Tryz.ntmps67;go_upto_region 1 with fail;rw[<-n,<-hN];clear n hN B1 S1;refine aT (w0:=w1) (w1:=w1) 15 (by kernel_rfl) (by kernel_rfl) (ae.refl _) (Below.refl _ _) ?_;simp only[R7,Si,Sk,Sj];haveI W:Nonempty (aj w1 w1):=⟨⟨w1,ae.refl _,Below.refl _ _⟩⟩
  repeat (go_big_quiet_step (first|(go_at_call 102;exact d _)|(go_at_call 99;exact s _)|(go_at_call 52;exact qa _)|(go_at_call 52;exact V _)))
  refine wpQuiet_nil ?_;rintro j ⟨⟨_,z,X⟩,rfl⟩;have A:=de L p fb j;rw[y.out]at A;clear d s qa V W ab ad;have Y:=λa (h:ae j a)=>h.cell (z.cell Q);have M:=λa (h:ae j a)=>h.cell (z.cell S);have O:Hid (Below w.heap.size w j):=HB.out.trans (X.mono HB.out.size);by_cases q:F=0
  ·have Z:(F !=0)=false:=by rw[q];rfl
   have k:=λa (h:ae j a)=>o a (z.trans h);have b:Hid (eT m=if y0≠0 then y0 else if(!z3)=true then 1 else 0):=by rw[Hid,G.out,Ro (λh=>h q)]
   have af:=Y _ (ae.alloc j (.cells #[.int .i64 p,.int .i64 fb] 29));have aa:=M _ (ae.alloc j (.cells #[.int .i64 p,.int .i64 fb] 29));have l:=k _ (ae.alloc j (.cells #[.int .i64 p,.int .i64 fb] 29));have P:=λa=>de L y0 (if(!z3)=true then 1 else 0) a;rw[<-b.out]at P;have qd:=λa=>dm L (!z3) 1 a;obtain⟨fd,B⟩:∃f:Int,f=if(!z3)=true then 1 else 0:=⟨_,rfl⟩
   rw[<-B]at P qd;have HY:Hid _:=M;clear o k Y M z X Q S G q B b;go_wp2_with (first|(go_at_call 51;refine A.mono ?_;clear A;rintro e w3 ⟨rfl,rfl⟩)|(go_at_call 82;refine l.mono ?_;clear l;rintro e w4 ⟨rfl,C⟩;have z4:=(ae.below C).cell aa)|(go_at_call 63;refine(t _).mono ?_;clear t;rintro e w5 ⟨rfl,rfl⟩)|(go_at_call 52;refine(qd _).mono ?_;clear qd;rintro e w6 ⟨rfl,rfl⟩)|(go_at_call 51;refine(P _).mono ?_;clear P;rintro e w7 ⟨rfl,rfl⟩))
   go_ret;have D:=O.out.alloc O.out.size (.cells #[.int .i64 p,.int .i64 fb] 29);have E:=D.trans (C.mono D.size);exact⟨rfl,E.alloc E.size _⟩
  ·have Z:(F !=0)=true:=by simpa using q
   have b:Hid (eT m=F):=by rw[Hid,G.out,Rp q]
   clear o Y M z X Q S G q;go_wp2_with (first|(go_at_call 51;refine A.mono ?_;clear A;rintro e w3 ⟨rfl,rfl⟩))
   go_ret;exact⟨by rw[b.out];rfl,O.out.alloc O.out.size _⟩
 ·have U:m.word.toList.isEmpty=false:=by simpa using hw
  have hW:(!m.word.data.toList.isEmpty)=true:=by rw[<-Ct,U];rfl
  rw[hW]at g;have V:=λx:aj w1 w1=>aj.same (dm L (!z2) 3 x.val);have HB:Hid _:=B1;have HS:Hid _:=S1;have y:Hid ((if p≠0 then p else(if(!z2)=true then(3:Int)else 0))=F):=by rw[Hid,g,u];exact Cs z1 true z2
  obtain⟨fb,hfb⟩:∃f:Int,f=if(!z2)=true then 3 else 0:=⟨_,rfl⟩
  rw[<-hfb]at V y;clear hw hW hfb g u H I J HF;go_enter (n67 L),Tryz.ntmps67;go_upto_region 1 with fail;rw[<-n,<-hN];clear n hN B1 S1;refine aT (w0:=w1) (w1:=w1) 15 (by kernel_rfl) (by kernel_rfl) (ae.refl _) (Below.refl _ _) ?_;simp only[R7,Si,Sk,Sj];haveI W:Nonempty (aj w1 w1):=⟨⟨w1,ae.refl _,Below.refl _ _⟩⟩
  repeat (go_big_quiet_step (first|(go_at_call 102;exact d _)|(go_at_call 99;exact s _)|(go_at_call 52;exact qa _)|(go_at_call 52;exact V _)))
  refine wpQuiet_nil ?_;rintro j ⟨⟨_,z,X⟩,rfl⟩;have A:=de L p fb j;rw[y.out]at A;clear d s qa V W ab ad;have Y:=λa (h:ae j a)=>h.cell (z.cell Q);have M:=λa (h:ae j a)=>h.cell (z.cell S);have O:Hid (Below w.heap.size w j):=HB.out.trans (X.mono HB.out.size);by_cases q:F=0
  ·have Z:(F !=0)=false:=by rw[q];rfl
   have k:=λa (h:ae j a)=>o a (z.trans h);have b:Hid (eT m=if y0≠0 then y0 else if(!z3)=true then 1 else 0):=by rw[Hid,G.out,Ro (λh=>h q)]
   have af:=Y _ (ae.alloc j (.cells #[.int .i64 p,.int .i64 fb] 29));have aa:=M _ (ae.alloc j (.cells #[.int .i64 p,.int .i64 fb] 29));have l:=k _ (ae.alloc j (.cells #[.int .i64 p,.int .i64 fb] 29));have P:=λa=>de L y0 (if(!z3)=true then 1 else 0) a;rw[<-b.out]at P;have qd:=λa=>dm L (!z3) 1 a;obtain⟨fd,B⟩:∃f:Int,f=if(!z3)=true then 1 else 0:=⟨_,rfl⟩
   rw[<-B]at P qd;have HY:Hid _:=M;clear o k Y M z X Q S G q B b;go_wp2_with (first|(go_at_call 51;refine A.mono ?_;clear A;rintro e w3 ⟨rfl,rfl⟩)|(go_at_call 82;refine l.mono ?_;clear l;rintro e w4 ⟨rfl,C⟩;have z4:=(ae.below C).cell aa)|(go_at_call 63;refine(t _).mono ?_;clear t;rintro e w5 ⟨rfl,rfl⟩)|(go_at_call 52;refine(qd _).mono ?_;clear qd;rintro e w6 ⟨rfl,rfl⟩)|(go_at_call 51;refine(P _).mono ?_;clear P;rintro e w7 ⟨rfl,rfl⟩))
   go_ret;have D:=O.out.alloc O.out.size (.cells #[.int .i64 p,.int .i64 fb] 29);have E:=D.trans (C.mono D.size);exact⟨rfl,E.alloc E.size _⟩
  ·have Z:(F !=0)=true:=by simpa using q
   have b:Hid (eT m=F):=by rw[Hid,G.out,Rp q]
   clear o Y M z X Q S G q;go_wp2_with (first|(go_at_call 51;refine A.mono ?_;clear A;rintro e w3 ⟨rfl,rfl⟩))
   go_ret;exact⟨by rw[b.out];rfl,O.out.alloc O.out.size _⟩
def iK(w A B C g tb tc w1)(e:w1=((w.alloc (.cells A g)).alloc (.cells B tb)).alloc (.cells C tc)):ae w w1/\Below w.heap.size w w1/\
 (∀i v,A[i]? =some v->w1.cell? ⟨w.heap.size,i,none⟩=some v)/\(∀i v,B[i]? =some v->w1.cell? ⟨w.heap.size+1,i,none⟩=some v)/\(∀i v,C[i]? =some v->w1.cell? ⟨w.heap.size+1+1,i,none⟩=some v):=by
 obtain⟨c,a⟩:=ex (w.alloc (.cells A g));obtain⟨f,b⟩:=ex (c.alloc (.cells B tb));rw[<-a,<-b]at e;have j:ae f w1:=by rw[e];exact ae.alloc _ _
 have k:ae c w1:=(by rw[b];exact ae.alloc _ _:ae c f).trans j;have d:c.heap.size=w.heap.size+1:=by rw[a];simp
 have hsb:f.heap.size=w.heap.size+1+1:=by rw[b,<-d];simp
 refine⟨(by rw[a];exact ae.alloc _ _:ae w c).trans k,?_,λi v h=>k.cell (by rw[a];exact aw w _ g i v h),λi v h=>j.cell (by rw[b,<-d];exact aw c _ tb i v h),λi v h=>by rw[e,<-hsb];exact aw f _ tc i v h⟩;rw[e,b,a];exact(((Below.refl _ w).alloc (Rq _) _).alloc (by simp) _).alloc (by simp;omega) _
def MJ{K:Nat->Prop}{v0 v1 v2:Value}{t:Table}{m1 m2:Array Value}{one two:Mark}(w:World)(J:IsTable K w v0 v1 v2 t)(j:OkT t)(d:dg K w m1 one)(f:dg K w m2 two)(M:OkM one)(N:OkM two):
 Calls (Qs fs) 230 #[.agg #[v0,v1,v2],.agg m1,.agg m2] w λe w'=>e=.returned (.int .i64 (dF (aR t.aC one.word.data.toList) (aR t.aC two.word.data.toList)))/\Below w.heap.size w w':=by
 have e53:=e53 L;have G7:=G7 L;obtain⟨W,rfl,X⟩:=d;obtain⟨Y,rfl,Z⟩:=f;obtain⟨w1,a⟩:=ex (((w.alloc (.cells #[v0,v1,v2] 100)).alloc (.cells #[.string one.name,.string one.word,W,.int .i64 one.day,.bool one.known] 38)).alloc (.cells #[.string two.name,.string two.word,Y,.int .i64 two.day,.bool two.known] 38));obtain⟨O,P,ct,Q,R⟩:=iK w _ _ _ _ _ _ w1 a;have k:=ct 0 _ rfl;have l:=ct 1 _ rfl;have m:=ct 2 _ rfl;have a1:=Q 1 _ rfl;have b1:=R 1 _ rfl;have S:=J.stays O;obtain⟨N0,n⟩:=ex (w.heap.size);obtain⟨N1,d⟩:=ex (w.heap.size+1);obtain⟨N2,f⟩:=ex (w.heap.size+1+1);rw[<-f]at b1;rw[<-d]at a1;rw[<-n]at k l m;have T:Hid (Below w.heap.size w w1):=P;have b:=dG j one.word.data.toList;have c:=dG j two.word.data.toList;rw[<-Lib.size_eq,<-bE]at b c;have o:∀(s:ByteArray),s.size<=16->∀x:aj w w1,Calls (Qs fs) 53 #[.agg #[v0,v1,v2],.string s] x.val λe w'=>e=.returned (.string (bs (aR t.aC s.data.toList)))/\∃y:aj w w1,w'=y.val:=λs hs x=>aj.calls (sJ L s x.val (S.stays x.st).1 j.lets (by omega))
 have p:=o one.word M.word;have q:=o two.word N.word;have r:=M.word;have u:=N.word;obtain⟨A,v⟩:=ex (bs (aR t.aC one.word.data.toList));obtain⟨B,C⟩:=ex (bs (aR t.aC two.word.data.toList));have g:A.data.toList=aR t.aC one.word.data.toList:=by rw[v,bY]
 have h:B.data.toList=aR t.aC two.word.data.toList:=by rw[C,bY]
 rw[<-v]at b p;rw[<-C]at c q;have i:∀x:aj w w1,Calls (Qs fs) 231 #[.string A,.string B] x.val λe w'=>e=.returned (.int .i64 (dF A.data.toList B.data.toList))/\∃y:aj w w1,w'=y.val:=λx=>aj.calls (zR L A B x.val (by omega) (by omega));rw[g,h]at i;obtain⟨z,U⟩:=ex (dF (aR t.aC one.word.data.toList) (aR t.aC two.word.data.toList));rw[<-U]at i⊢;have D:=λx:aj w w1=>x.cell k;have E:=λx:aj w w1=>x.cell l;have F:=λx:aj w w1=>x.cell m;have G:=λx:aj w w1=>x.cell a1;have H:=λx:aj w w1=>x.cell b1;clear v C g h U b c r u o S J X Z ct Q R O P;go_enter (n230 L),Tryz.ntmps230;go_upto_region 1 with fail;rw[<-a,<-f,<-d,<-n];clear a n d f;refine bh (w0:=w) (w1:=w1) (by kernel_rfl) (by kernel_rfl) (ae.refl _) T.out ?_;haveI I:Nonempty (aj w w1):=⟨⟨w1,ae.refl _,T.out⟩⟩
 repeat (go_big_quiet_step (first|(go_at_call 53;exact p _)|(go_at_call 53;exact q _)|(go_at_call 231;exact i _)))
 refine wpQuiet_nil ?_;rintro wx ⟨⟨_,Sx,V⟩,rfl⟩;have BX:Hid _:=V;clear p q i D E F G H I k l m a1 b1 V Sx;go_wp2;go_ret;exact⟨rfl,BX.out⟩
def ML{K:Nat->Prop}{v0 v1 v2:Value}{t:Table}{m1 m2:Array Value}{one two:Mark}(w:World)(F:IsTable K w v0 v1 v2 t)(c:OkT t)(m:dg K w m1 one)(n:dg K w m2 two)(Z:OkM one)(o2:OkM two)(hm:gZ w):
 Calls (Qs fs) 232 #[.agg #[v0,v1,v2],.agg m1,.agg m2] w λe w'=>e=.returned (.int .i64 (eO t one.word.data.toList two.word.data.toList t.aO.length))/\Below w.heap.size w w':=by
 have e64:=e64 L;have G7:=G7 L;obtain⟨f1,rfl,r1⟩:=m;obtain⟨f2,rfl,r2⟩:=n;obtain⟨ao,G,rfl,H,I,_⟩:=id F.2.1;obtain⟨w1,d⟩:=ex (((w.alloc (.cells #[v0,.slice ao t.aO.length G,v2] 100)).alloc (.cells #[.string one.name,.string one.word,f1,.int .i64 one.day,.bool one.known] 38)).alloc (.cells #[.string two.name,.string two.word,f2,.int .i64 two.day,.bool two.known] 38));obtain⟨J,B1,ct,c1,c2⟩:=iK w _ _ _ _ _ _ w1 d;have u:=ct 0 _ rfl;have v:=ct 1 _ rfl;have C:=ct 2 _ rfl;have a1:=c1 1 _ rfl;have b1:=c2 1 _ rfl;have hT:=F.stays J;have hM:=hm.stays J;obtain⟨N0,M⟩:=ex (w.heap.size);obtain⟨N1,m⟩:=ex (w.heap.size+1);obtain⟨N2,n⟩:=ex (w.heap.size+1+1);rw[<-n]at b1;rw[<-m]at a1;rw[<-M]at u v C;have BW:Hid (Below w.heap.size w w1):=B1;have o:=Z.word;have p:=o2.word;have f:Hid (IsTable K w1 v0 (.slice ao t.aO.length G) v2 t/\gZ w1/\OkT t/\t.aO.length<=3):=⟨hT,hM,c,c.uW⟩
 have aa:t.aO.length<=3:=c.uW;clear hT hM F hm r1 r2 ct c1 c2 J B1 c H I Z o2;go_enter (n232 L),Tryz.ntmps232;go_upto_region 1 with fail;rw[<-d,<-n,<-m,<-M];clear d M m n;go_wp2;go_loopw [7,13] (λs7 g wr=>∃j:Nat,j<=t.aO.length/\g=.int .i64 j/\s7=.int .i64 (eO t one.word.data.toList two.word.data.toList j)/\ae w1 wr/\Below w.heap.size w wr) (λs7 g _=>t.aO.length-(intOf g).toNat)
 case atStart=>exact⟨0,RA _,rfl,rfl,ae.refl _,BW.out⟩
 case round=>
  obtain⟨j,hj,rfl,rfl,a,b⟩:=hrel;have D:Hid (ae w1 wr/\Below w.heap.size w wr):=⟨a,b⟩
  obtain h|hge:=Ry j t.aO.length
  ·have ab:(j:Int)<(t.aO.length:Int):=by omega
   have c:=f.out.2.2.1;have i:=lg c h one.word.data.toList;have k:=lg c h two.word.data.toList;rw[<-Lib.size_eq,<-bE]at i k;have N:∀(s:ByteArray),s.size<=16->∀x:aj w wr,Calls (Qs fs) 64 #[.agg #[v0,.slice ao t.aO.length G,v2],.int .i64 j,.string s] x.val λe w'=>e=.returned (.string (bs (bH t j s.data.toList)))/\∃y:aj w wr,w'=y.val:=λs hs x=>aj.calls (Gy L j s x.val (f.out.1.stays (a.trans x.st)) c (by omega) h (f.out.2.1.stays (a.trans x.st)))
   have O:=N one.word o;have P:=N two.word p;have l:Hid _:=kh t one.word.data.toList two.word.data.toList j;have hsb:=gX t one.word.data.toList two.word.data.toList j;have Q:=jJ (bH t j one.word.data.toList) (bH t j two.word.data.toList);obtain⟨A,R⟩:=ex (bs (bH t j one.word.data.toList));obtain⟨B,S⟩:=ex (bs (bH t j two.word.data.toList));have q:A.data.toList=bH t j one.word.data.toList:=by rw[R,bY]
   have r:B.data.toList=bH t j two.word.data.toList:=by rw[S,bY]
   rw[<-R]at i O;rw[<-S]at k P;have E:∀x:aj w wr,Calls (Qs fs) 231 #[.string A,.string B] x.val λe w'=>e=.returned (.int .i64 (dF A.data.toList B.data.toList))/\∃y:aj w wr,w'=y.val:=λx=>aj.calls (zR L A B x.val (by omega) (by omega));rw[q,r]at E;obtain⟨z,hz⟩:=ex (dF (bH t j one.word.data.toList) (bH t j two.word.data.toList));rw[<-hz]at E l Q;obtain⟨y,hy⟩:=ex (eO t one.word.data.toList two.word.data.toList j);rw[<-hy]at l hsb⊢;have T:=λx:aj w wr=>x.cell (a.cell u);have U:=λx:aj w wr=>x.cell (a.cell v);have V:=λx:aj w wr=>x.cell (a.cell C);have W:=λx:aj w wr=>x.cell (a.cell a1);have X:=λx:aj w wr=>x.cell (a.cell b1);clear R S q r hz i k o p N u v C a1 b1 a b c hy;go_upto_region 5 with fail;refine bh (w0:=w) (w1:=wr) (by kernel_rfl) (by kernel_rfl) (ae.refl _) D.out.2 ?_;haveI Y:Nonempty (aj w wr):=⟨⟨wr,ae.refl _,D.out.2⟩⟩
   repeat (go_big_quiet_step (first|(go_at_call 64;exact O _)|(go_at_call 64;exact P _)|(go_at_call 231;exact E _)))
   refine wpQuiet_nil ?_;rintro wx ⟨⟨_,Sx,Bx⟩,rfl⟩;have BX:Hid _:=(⟨Sx,Bx⟩:ae wr wx/\Below w.heap.size w wx)
   clear O P E T U V W X Y Bx Sx;go_wp2;refine⟨⟨j+1,by omega,by go_num,?_,D.out.1.trans BX.out.1,BX.out.2⟩,by simp[intOf];omega⟩;rw[l.out]
  ·clear u v C a1 b1 a b
   obtain rfl:j=t.aO.length:=by omega
   go_wp2;go_ret;exact⟨rfl,D.out.2⟩
end Go.Proofs

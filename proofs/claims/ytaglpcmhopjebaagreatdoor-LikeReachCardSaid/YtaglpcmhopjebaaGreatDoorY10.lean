import Derived.Deep.QuietTactic
import Derived.Test.YtaglpcmhopjebaaGreatDoorY9
set_option linter.all false
set_option maxRecDepth 100000
set_option maxHeartbeats 20000000
namespace Go.Proofs
abbrev EK:=Bool×Int
def bump(f:EK->Nat)(p:EK):EK->Nat:=λq=>if q=p then f p+1 else f q
def lK(l:List Int)(n:Int):Nat:=(l.filter λx=>x==n).length
def vA(l x n):lK (l++[x]) n=lK l n+if x=n then 1 else 0:=by unfold lK;rw[WU,U6];congr 1;by_cases h:x=n;rw[UH h,V9];simp[h];rw[UG h,V9];simp[h]
def yT(l n):0<lK l n↔l.contains n=true:=by unfold lK;rw[List.length_pos_iff_exists_mem];simp[WX]
def Bj(l n):lK l n<=l.length:=VP _ _
def tw(l n):aO l n<=l.length:=VP _ _
def nY(l m x):bw (l++[x]) m=if m.contains x then bw l m else bw l m++[x]:=by unfold bw;rw[WU,V9,List.filter_nil];cases m.contains x<;>simp
def nt(a b:List Int)(j:Nat):EK->Nat:=λp=>if p.1 then lK (a.take j) p.2 else aO (bw (a.take j) b) p.2
def LH(a b):nt a b 0=λ_=>0:=by funext p;unfold nt;rw[Vq];split<;>rfl
def jr{a:Type}(l:List a)(j)(h:j<l.length):l.take (j+1)=l.take j++[l[j]]:=by rw[YA,Vb h];rfl
def QN(a b j)(h:j<a.length)(c:b.contains a[j]=true):nt a b (j+1)=bump (nt a b j) (true,a[j]):=by funext p;obtain⟨t,n⟩:=p;unfold bump nt;rw[jr a j h,nY,UH c];cases t with|true=>simp only[UW,vA];by_cases e:n=a[j];subst e;simp;rw[UG (U4 e),UG (λh=>e (Xg h).2)];rfl|false=>simp
def OL(a b j)(h:j<a.length)(c:b.contains a[j]=false):nt a b (j+1)=bump (bump (nt a b j) (true,a[j])) (false,a[j]/100):=by (have d:bw (a.take (j+1)) b=bw (a.take j) b++[a[j]]:=by rw[jr a j h,nY,UG (by rw[c];exact Xn)]);(have f:∀n,lK (a.take (j+1)) n=lK (a.take j) n+if a[j]=n then 1 else 0:=λn=>by rw[jr a j h,vA]);funext p;obtain⟨t,n⟩:=p;unfold bump nt;rw[d];cases t with|true=>simp only[UW,f];by_cases e:n=a[j];subst e;simp;rw[UG (U4 e),UG (λh=>by cases h),UG (λh=>e (Xg h).2)];rfl|false=>simp only[U7,U5,pJ];by_cases e:n=a[j]/100;subst e;simp;rw[UG (U4 e),UG (λh=>e (Xg h).2)];simp
def oz(a b:List Int)(j:Nat):EK->Nat:=λp=>if p.1 then lK a p.2 else aO (bw a b) p.2-min (aO (bw a b) p.2) (aO (bw (b.take j) a) p.2)
def eF(a b:List Int)(j:Nat):Nat:=((b.take j).filter λn=>a.contains n).length
def iR(a b:List Int)(j:Nat):Nat:=od (bw a b) (bw (b.take j) a) 10
def LI(a b):oz a b 0=nt a b a.length:=by funext p;unfold oz nt;rw[Vq,WM];have:aO (bw [] a) p.2=0:=rfl;rw[this];simp
def QO(a b j)(h:j<b.length)(e:0<oz a b j (true,b[j])):oz a b (j+1)=oz a b j/\eF a b (j+1)=eF a b j+1/\iR a b (j+1)=iR a b j:=by (have c:=(yT a b[j]).1 e;have d:bw (b.take (j+1)) a=bw (b.take j) a:=by rw[jr b j h,nY,UH c]);refine⟨?_,?_,?_⟩;unfold oz;rw[d];unfold eF;rw[jr b j h,WU,U6,V9,UH c];rfl;unfold iR;rw[d]
def Bl(f:EK->Nat)(p:EK):EK->Nat:=λq=>if q=p then f p-1 else f q
def OM(a b j)(h:j<b.length)(d:oz a b j (true,b[j])=0)(l:0<=b[j]/\b[j]<=999):eF a b (j+1)=eF a b j/\oz a b (j+1)=Bl (oz a b j) (false,b[j]/100)/\iR a b (j+1)=iR a b j+if 0<oz a b j (false,b[j]/100)then 1 else 0:=by (have c:¬a.contains b[j]=true:=λh=>by have:=(yT a b[j]).2 h;have d:lK a b[j]=0:=d;omega);(have f:bw (b.take (j+1)) a=bw (b.take j) a++[b[j]]:=by rw[jr b j h,nY,UG c]);have g:=λn=>pJ (bw (b.take j) a) b[j] n;refine⟨?_,?_,?_⟩;unfold eF;rw[jr b j h,WU,U6,V9,UG c];rfl;funext p;(obtain⟨t,n⟩:=p;unfold Bl oz;rw[f];cases t with|true=>simp|false=>simp only[U7,U5,g];by_cases e:n=b[j]/100;subst e;simp only[UW];omega;rw[UG (U4 e),UG (λh=>e (Xg h).2),VK]);unfold iR;(rw[f,JQ,JQ];obtain⟨H,i⟩:∃H:Nat,(H:Int)=b[j]/100:=⟨(b[j]/100).toNat,by omega⟩);(have k:H<10:=by omega);(have e1:pH (λn=>aO (bw a b) n) (λn=>aO (bw (b.take j) a++[b[j]]) n) 10=pH (λn=>aO (bw a b) n) (λn=>if n=H then aO (bw (b.take j) a) n+1 else aO (bw (b.take j) a) n) 10:=by refine pI λn m=>?_;show aO _ _=_;rw[g,<-i];by_cases e:n=H;subst e;simp;rw[UG e,UG (by omega)];rfl);rw[e1,yR _ (λn=>aO (bw (b.take j) a) n) H 10 k];congr 1;unfold oz;simp only[U7,U5,<-i];by_cases e:aO (bw (b.take j) a) (H:Int)<aO (bw a b) (H:Int);rw[UH e,UH (by omega)];rw[UG e,UG (by omega)]
def Gb(a b)(c:a≠[])(d:b≠[])(e:a.Nodup)(f:b.Nodup):bY a b=(100*(2*(eF a b b.length:Int)+(iR a b b.length:Int)))/((a.length:Int)+(b.length:Int)):=by (rw[uQ a b c d];have g:a.length-(bw a b).length=eF a b b.length:=by unfold eF;rw[WM];have h:=I4 b a;have i:=Dt e f;omega);unfold iR;rw[g,WM];simp
def yU(a b j):eF a b j<=b.length:=UJ (VP _ _) (by rw[VT];omega)
def Gc(a b j):iR a b j<=10*a.length:=UJ (D1 _ _ _) (Nat.mul_le_mul_left _ (VP _ _))
def JR(a b j p):nt a b j p<=a.length:=by unfold nt;split;exact UJ (Bj _ _) (by rw[VT];omega);exact UJ (tw _ _) (UJ (VP _ _) (by rw[VT];omega))
def JS(a b j p):oz a b j p<=a.length:=by unfold oz;split;exact Bj _ _;exact UJ (Nat.sub_le _ _) (UJ (tw _ _) (VP _ _))
end Go.Proofs
namespace Go.RowKit
def Below.gX{B:Nat}{a w:x6}(h:Below B a w)(n:Nat):Below B a (w.drewN n):=⟨h.os,h.tape,h.output,h.size,h.block⟩
end Go.RowKit
namespace Go.Proofs
open Go.Tm Go.RowKit
variable {fs:Array Func} (L:bR fs)
def bF.boxed{K w sc c}(h:bF K w sc c):∃v0 v1 v2 b d e f g i j a,sc=#[v0,v1,v2,b,d,e,f,g,i,j,a]:=by obtain⟨v0,v1,v2,k,l,m,n,rfl,_⟩:=h;exact⟨_,_,_,_,_,_,_,_,_,_,_,rfl⟩
def nH(c:Case)(i:Nat):Int:=(fp c i).elim (-1) (·.eB)
def sj(c m kin k)(a:k<c.rules.length):dR c m kin k (c.rules.drop k)=if ig c m kin c.rules[k]=⟨0,0,0⟩then some (k,bz c.table c.rules[k].kind c.new m)else dR c m kin (k+1) (c.rules.drop (k+1)):=by rw[WW a];rfl
def Ce(c i)(a:i<c.marks.length)(b:i<c.kin.length):fp c i=(dR c c.marks[i] c.kin[i] 0 c.rules).map λx=>⟨i,x.1,x.2⟩:=by unfold fp;rw[Vb a,Vb b]
def Ei{c:Case}{i:Nat}{p:Option (Nat×Int)}{k:Nat}{v:Int}(h:fp c i=p.map λx=>⟨i,x.1,x.2⟩)(a:p=some (k,v)):nH c i=k:=by unfold nH;rw[h,a];rfl
def Ej{c:Case}{i:Nat}{p:Option (Nat×Int)}(h:fp c i=p.map λx=>⟨i,x.1,x.2⟩)(a:p=none):nH c i= -1:=by unfold nH;rw[h,a];rfl
def Rg{K:Nat->Prop}{sc:Zq}{c:Case}(i:Nat)(w:x6)(G:bF K w sc c)(H:OkC c)(B:i<c.marks.length):ac fs 130 #[.agg sc,.i i] w (.i (nH c i)):=by
 have e85:=e85 L;have l:i<c.kin.length:=by rw[H.PK];exact B
 have m:=Ce c i B l;have u:=λk (I:k<c.rules.length) x (C:ae w x)=>PL L i k x (G.stays C) H B I l;obtain⟨v0,v1,v2,vr,J,M,O,rfl,U,n,V,W,D⟩:=G;obtain⟨o,P,rfl,lr,X,_,Y⟩:=n;obtain⟨w1,g⟩:=ex (w.alloc (.cells #[v0,v1,v2,.slice o c.rules.length P,.string c.new.name,.string c.new.word,J,.i c.new.day,.bool c.new.known,M,O] 60));have y:ae w w1:=by rw[g];exact ae.alloc _ _
 have z:xv w w1:=by rw[g];exact aH _ _
 have ct:∀i v,(#[v0,v1,v2,.slice o c.rules.length P,.string c.new.name,.string c.new.word,J,.i c.new.day,.bool c.new.known,M,O]:Zq)[i]? =some v->w1.cell? ⟨w.heap.size,i,none⟩=some v:=λi v h=>by rw[g];exact aC w _ 60 i v h
 obtain⟨N,E⟩:=ex (w.heap.size);have b:=λx (C:ae w1 x) i v h=>C.cell (ct i v h);rw[<-E]at b;clear U V W D Y;go_enter (n130 L),Tryz.ntmps130;go_wp2;rw[<-g,<-E];clear g E ct;go_loopw [5] (λs wr=>∃k:Nat,k<=c.rules.length/\s=.i k/\ae w1 wr/\xv w wr/\dR c c.marks[i] c.kin[i] 0 c.rules=dR c c.marks[i] c.kin[i] k (c.rules.drop k)) (λs _=>c.rules.length-(intOf s).toNat);case atStart=>exact⟨0,UP _,rfl,ae.refl _,z,rfl⟩
 case round=>
  obtain⟨k,I,rfl,a,d,f⟩:=hrel;have u0:=b wr a 0 _ rfl;have u1:=b wr a 1 _ rfl;have u2:=b wr a 2 _ rfl;have u3:=b wr a 3 _ rfl;have u4:=b wr a 4 _ rfl;have u5:=b wr a 5 _ rfl;have u6:=b wr a 6 _ rfl;have u7:=b wr a 7 _ rfl;have u8:=b wr a 8 _ rfl;have u9:=b wr a 9 _ rfl;have Z:=b wr a 10 _ rfl;have HW:Hid _:=(⟨a,d⟩:ae w1 wr/\xv w wr)
  obtain p|hge:=UK k c.rules.length
  .have A:=u k p wr (y.trans a);rw[sj c _ _ k p]at f;obtain⟨r,n⟩:=ex (ig c c.marks[i] c.kin[i] c.rules[k]);rw[<-n]at f A;have F:=jj m;obtain⟨Q,R,S⟩:=r;have T:=Eh fs Q R S 0 0 0;have hG:=jg fs wO .eql (.tmp 16) (.tmp 17);unfold D3 at A;by_cases q:(⟨Q,R,S⟩:BP)=⟨0,0,0⟩
   .rw[UH q]at f;cases q;have t:=jj f;rw[UQ ⟨rfl,rfl,rfl⟩]at T;clear f n u b y z a d m;go_wp2_with (go_at_call 85;refine A.mono ?_;rintro e w3 ⟨rfl,j⟩);go_ret;exact⟨by rw[Ei F.o t.o];rfl,HW.o.2.trans (j.mono HW.o.2.size)⟩
   rw[UG q]at f;have t:=jj f;rw[UN (λh=>q (by rw[h.1,h.2.1,h.2.2]))]at T;clear f n u b y z a d m q;go_wp2_with (go_at_call 85;refine A.mono ?_;rintro e w3 ⟨rfl,j⟩);exact⟨⟨k+1,by omega,by go_num,HW.o.1.trans (ae.below j),HW.o.2.trans (j.mono HW.o.2.size),t.o⟩,by simp[intOf];omega⟩
  have t:=jj f;have F:=jj m;clear a d u b y z f m;go_wp2;go_ret;refine⟨?_,HW.o.2⟩;have f:=t.o;rw[Vn hge]at f;rw[Ej F.o f];rfl
def Ek(i j:Nat):decide ((i:Int)<j)=decide (i<j):=by by_cases h:i<j;rw[UQ h,UQ (by omega)];rw[UN h,UN (by omega)]
def nI(x:Hit):Zj:=.agg #[.i x.mark,.i x.eB,.i x.level]
def pS(c)(i:Nat)(a:i<c.marks.length):ij c i=c.marks[i].day:=by unfold ij;rw[Yj,Vb a];rfl
def MU{K:Nat->Prop}{sc:Zq}{c:Case}(i j:Nat)(f g m n:Int)(w:x6)(hc:bF K w sc c)(C:i<c.marks.length)(D:j<c.marks.length):ac fs 131 #[.agg sc,nI ⟨i,f,g⟩,nI ⟨j,m,n⟩] w (.bool (aV c ⟨i,f,g⟩ ⟨j,m,n⟩)):=by
 obtain⟨v0,v1,v2,V,W,X,Y,rfl,ht,s,hf,Z,E⟩:=hc;obtain⟨q,a⟩:=ex (w.alloc (.cells #[v0,v1,v2,V,.string c.new.name,.string c.new.word,W,.i c.new.day,.bool c.new.known,X,Y] 60));obtain⟨t,d⟩:=ex (q.alloc (.cells #[.i i,.i f,.i g] 66));obtain⟨w1,l⟩:=ex (t.alloc (.cells #[.i j,.i m,.i n] 66));have F:ae t w1:=by rw[l];exact ae.alloc _ _
 have G:ae q w1:=(by rw[d];exact ae.alloc _ _:ae q t).trans F;have H:ae w w1:=(by rw[a];exact ae.alloc _ _:ae w q).trans G;have B1:xv w w1:=by rw[l,d,a];exact(((Below.refl _ w).alloc (UI _) _).alloc (by simp) _).alloc (by simp;omega) _
 have p:q.heap.size=w.heap.size+1:=by rw[a];simp
 have hsb:t.heap.size=w.heap.size+1+1:=by rw[d,<-p];simp
 have ct:∀i v,(#[v0,v1,v2,V,.string c.new.name,.string c.new.word,W,.i c.new.day,.bool c.new.known,X,Y]:Zq)[i]? =some v->w1.cell? ⟨w.heap.size,i,none⟩=some v:=λi v h=>G.cell (by rw[a];exact aC w _ 60 i v h);have z:∀k v,(#[.i i,.i f,.i g]:Zq)[k]? =some v->w1.cell? ⟨w.heap.size+1,k,none⟩=some v:=λi v h=>F.cell (by rw[d,<-p];exact aC q _ 66 i v h);have A:∀k v,(#[.i j,.i m,.i n]:Zq)[k]? =some v->w1.cell? ⟨w.heap.size+1+1,k,none⟩=some v:=λi v h=>by rw[l,<-hsb];exact aC t _ 66 i v h
 obtain⟨N0,I⟩:=ex (w.heap.size);obtain⟨N1,J⟩:=ex (w.heap.size+1);obtain⟨N2,M⟩:=ex (w.heap.size+1+1);have N:=Z.stays H λb b' o x e h=>by subst e;exact lQ.carry (Carry.keep H) b b o x rfl h
 obtain⟨aa,cm,rfl,lm,ab,_,O⟩:=N;obtain⟨bm,om,rfl,_,_,_,x3,_⟩:=O i C;obtain⟨ad,af,P,_,_,_,y3,_⟩:=O j D;cases P;have t9:=ct 9 _ rfl;have a0:=z 0 _ rfl;have a1:=z 1 _ rfl;have a2:=z 2 _ rfl;have b0:=A 0 _ rfl;have b1:=A 1 _ rfl;have b2:=A 2 _ rfl;rw[<-M]at b0 b1 b2;rw[<-J]at a0 a1 a2;rw[<-I]at t9;have hP:aV c ⟨i,f,g⟩ ⟨j,m,n⟩=if f≠m then decide (f<m)else if g≠n then decide (n<g)else if c.marks[i].day≠c.marks[j].day then decide (c.marks[i].day<c.marks[j].day)else decide ((i:Int)<j):=by unfold aV;simp only[];rw[pS c i C,pS c j D]
 have r:=jj hP;obtain⟨d1,u⟩:=ex (c.marks[i].day);obtain⟨d2,y⟩:=ex (c.marks[j].day);rw[<-u]at x3 r;rw[<-y]at y3 r;have B:=jj B1;have HI:Hid _:=(⟨C,D⟩:i<c.marks.length/\j<c.marks.length)
 have ag:(i:Int)<(c.marks.length:Int):=by omega
 have ak:(j:Int)<(c.marks.length:Int):=by omega
 unfold nI;go_enter (n131 L),Tryz.ntmps131;go_upto_region 1 with fail;rw[<-a,<-d,<-l,<-M,<-J,<-I];clear a d l G F H B1 p hsb ct z A ht s hf Z E O I J M hP u y;by_cases s:f=m
 .subst s;have Q:(f !=f)=false:=by simp
  by_cases R:g=n
  .subst R;(have S:(g !=g)=false:=by simp);by_cases T:d1=d2
   .subst T;(have U:(d1 !=d1)=false:=by simp);go_wp2;go_quiet (fail);go_wp2;go_ret;refine⟨?_,B.o.gX _⟩;rw[r.o,UG (λh=>h rfl),UG (λh=>h rfl),UG (λh=>h rfl),Ek];rfl
   (have U:(d1 !=d2)=true:=by simpa using T);go_wp2;go_quiet (fail);go_wp2;go_quiet (fail);go_wp2;go_ret;refine⟨?_,(B.o.gX _).gX _⟩;rw[r.o,UG (λh=>h rfl),UG (λh=>h rfl),UH T];rfl
  have S:(g !=n)=true:=by simpa using R
  go_wp2;go_ret;refine⟨?_,B.o⟩;rw[r.o,UG (λh=>h rfl),UH R];rfl
 have Q:(f !=m)=true:=by simpa using s
 go_wp2;go_ret;refine⟨?_,B.o⟩;rw[r.o,UH s];rfl
end Go.Proofs

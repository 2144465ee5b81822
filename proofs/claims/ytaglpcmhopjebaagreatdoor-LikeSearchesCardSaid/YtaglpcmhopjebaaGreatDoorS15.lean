import Derived.Deep.QuietTactic
import Derived.Test.YtaglpcmhopjebaaGreatDoorS14
set_option linter.all false
set_option maxRecDepth 100000
set_option maxHeartbeats 20000000
namespace Go.Proofs
abbrev EK:=Bool×Int
def bump(f:EK->Nat)(p:EK):EK->Nat:=λq=>if q=p then f p+1 else f q
def lu(l:List Int)(n:Int):Nat:=(l.filter λx=>x==n).length
def uY(l x n):lu (l++[x]) n=lu l n+if x=n then 1 else 0:=by unfold lu;rw[Vs,TR];congr 1;by_cases h:x=n;rw[Tv h,UK];simp[h];rw[Tu h,UK];simp[h]
def yq(l n):0<lu l n↔l.contains n=true:=by unfold lu;rw[List.length_pos_iff_exists_mem];simp[Vv]
def AM(l n):lu l n<=l.length:=Uw _ _
def sZ(l n):aP l n<=l.length:=Uw _ _
def nH(l m x):bu (l++[x]) m=if m.contains x then bu l m else bu l m++[x]:=by unfold bu;rw[Vs,UK,List.filter_nil];cases m.contains x<;>simp
def mR(a b:List Int)(j:Nat):EK->Nat:=λp=>if p.1 then lu (a.take j) p.2 else aP (bu (a.take j) b) p.2
def KP(a b):mR a b 0=λ_=>0:=by funext p;unfold mR;rw[T5];split<;>rfl
def je{a:Type}(l:List a)(j)(h:j<l.length):l.take (j+1)=l.take j++[l[j]]:=by rw[List.take_add_one,T2 h];rfl
def PM(a b j)(h:j<a.length)(c:b.contains a[j]=true):mR a b (j+1)=bump (mR a b j) (true,a[j]):=by funext p;obtain⟨t,n⟩:=p;unfold bump mR;rw[je a j h,nH,Tv c];cases t with|true=>simp only[TK,uY];by_cases e:n=a[j];subst e;simp;rw[Tu (TO e),Tu (λh=>e (VD h).2)];rfl|false=>simp
def NM(a b j)(h:j<a.length)(c:b.contains a[j]=false):mR a b (j+1)=bump (bump (mR a b j) (true,a[j])) (false,a[j]/100):=by (have d:bu (a.take (j+1)) b=bu (a.take j) b++[a[j]]:=by rw[je a j h,nH,Tu (by rw[c];exact VH)]);(have f:∀n,lu (a.take (j+1)) n=lu (a.take j) n+if a[j]=n then 1 else 0:=λn=>by rw[je a j h,uY]);funext p;obtain⟨t,n⟩:=p;unfold bump mR;rw[d];cases t with|true=>simp only[TK,f];by_cases e:n=a[j];subst e;simp;rw[Tu (TO e),Tu (λh=>by cases h),Tu (λh=>e (VD h).2)];rfl|false=>simp only[TS,TP,pk];by_cases e:n=a[j]/100;subst e;simp;rw[Tu (TO e),Tu (λh=>e (VD h).2)];simp
def nY(a b:List Int)(j:Nat):EK->Nat:=λp=>if p.1 then lu a p.2 else aP (bu a b) p.2-min (aP (bu a b) p.2) (aP (bu (b.take j) a) p.2)
def eu(a b:List Int)(j:Nat):Nat:=((b.take j).filter λn=>a.contains n).length
def iK(a b:List Int)(j:Nat):Nat:=nO (bu a b) (bu (b.take j) a) 10
def KQ(a b):nY a b 0=mR a b a.length:=by funext p;unfold nY mR;rw[T5,Vj];have:aP (bu [] a) p.2=0:=rfl;rw[this];simp
def PO(a b j)(h:j<b.length)(e:0<nY a b j (true,b[j])):nY a b (j+1)=nY a b j/\eu a b (j+1)=eu a b j+1/\iK a b (j+1)=iK a b j:=by (have c:=(yq a b[j]).1 e;have d:bu (b.take (j+1)) a=bu (b.take j) a:=by rw[je b j h,nH,Tv c]);refine⟨?_,?_,?_⟩;unfold nY;rw[d];unfold eu;rw[je b j h,Vs,TR,UK,Tv c];rfl;unfold iK;rw[d]
def AN(f:EK->Nat)(p:EK):EK->Nat:=λq=>if q=p then f p-1 else f q
def NN(a b j)(h:j<b.length)(d:nY a b j (true,b[j])=0)(l:0<=b[j]/\b[j]<=999):eu a b (j+1)=eu a b j/\nY a b (j+1)=AN (nY a b j) (false,b[j]/100)/\iK a b (j+1)=iK a b j+if 0<nY a b j (false,b[j]/100)then 1 else 0:=by (have c:¬a.contains b[j]=true:=λh=>by have:=(yq a b[j]).2 h;have d:lu a b[j]=0:=d;omega);(have f:bu (b.take (j+1)) a=bu (b.take j) a++[b[j]]:=by rw[je b j h,nH,Tu c]);have g:=λn=>pk (bu (b.take j) a) b[j] n;refine⟨?_,?_,?_⟩;unfold eu;rw[je b j h,Vs,TR,UK,Tu c];rfl;funext p;(obtain⟨t,n⟩:=p;unfold AN nY;rw[f];cases t with|true=>simp|false=>simp only[TS,TP,g];by_cases e:n=b[j]/100;subst e;simp only[TK];omega;rw[Tu (TO e),Tu (λh=>e (VD h).2),UB]);unfold iK;(rw[f,I6,I6];obtain⟨H,i⟩:∃H:Nat,(H:Int)=b[j]/100:=⟨(b[j]/100).toNat,by omega⟩);(have k:H<10:=by omega);(have e1:pg (λn=>aP (bu a b) n) (λn=>aP (bu (b.take j) a++[b[j]]) n) 10=pg (λn=>aP (bu a b) n) (λn=>if n=H then aP (bu (b.take j) a) n+1 else aP (bu (b.take j) a) n) 10:=by refine pj λn m=>?_;show aP _ _=_;rw[g,<-i];by_cases e:n=H;subst e;simp;rw[Tu e,Tu (by omega)];rfl);rw[e1,yo _ (λn=>aP (bu (b.take j) a) n) H 10 k];congr 1;unfold nY;simp only[TS,TP,<-i];by_cases e:aP (bu (b.take j) a) (H:Int)<aP (bu a b) (H:Int);rw[Tv e,Tv (by omega)];rw[Tu e,Tu (by omega)]
def Fp(a b)(c:a≠[])(d:b≠[])(e:a.Nodup)(f:b.Nodup):bV a b=(100*(2*(eu a b b.length:Int)+(iK a b b.length:Int)))/((a.length:Int)+(b.length:Int)):=by (rw[ux a b c d];have g:a.length-(bu a b).length=eu a b b.length:=by unfold eu;rw[Vj];have h:=Il b a;have i:=CM e f;omega);unfold iK;rw[g,Vj];simp
def yt(a b j):eu a b j<=b.length:=Tx (Uw _ _) (by rw[Uz];omega)
def Fq(a b j):iK a b j<=10*a.length:=Tx (Dc _ _ _) (Nat.mul_le_mul_left _ (Uw _ _))
def I7(a b j p):mR a b j p<=a.length:=by unfold mR;split;exact Tx (AM _ _) (by rw[Uz];omega);exact Tx (sZ _ _) (Tx (Uw _ _) (by rw[Uz];omega))
def I8(a b j p):nY a b j p<=a.length:=by unfold nY;split;exact AM _ _;exact Tx (Nat.sub_le _ _) (Tx (sZ _ _) (Uw _ _))
end Go.Proofs
namespace Go.RowKit
def Below.fv{B:Nat}{a w:World}(h:Below B a w)(n:Nat):Below B a (w.drewN n):=⟨h.os,h.tape,h.output,h.size,h.block⟩
end Go.RowKit
namespace Go.Proofs
open Go.Tm Go.RowKit
variable {fs:Array Func} (L:bM fs)
def bp.boxed{K w sc c}(h:bp K w sc c):∃v0 v1 v2 b d e f g i j a,sc=#[v0,v1,v2,b,d,e,f,g,i,j,a]:=by obtain⟨v0,v1,v2,k,l,m,n,rfl,_⟩:=h;exact⟨_,_,_,_,_,_,_,_,_,_,_,rfl⟩
def ni(c:Case)(i:Nat):Int:=(iw c i).elim (-1) (·.ew)
def rR(c m kin k)(a:k<c.rules.length):eM c m kin k (c.rules.drop k)=if kJ c m kin c.rules[k]=⟨0,0,0⟩then some (k,bI c.table c.rules[k].kind c.new m)else eM c m kin (k+1) (c.rules.drop (k+1)):=by rw[Vu a];rfl
def Bh(c i)(a:i<c.marks.length)(b:i<c.kin.length):iw c i=(eM c c.marks[i] c.kin[i] 0 c.rules).map λx=>⟨i,x.1,x.2⟩:=by unfold iw;rw[T2 a,T2 b]
def Dt{c:Case}{i:Nat}{p:Option (Nat×Int)}{k:Nat}{v:Int}(h:iw c i=p.map λx=>⟨i,x.1,x.2⟩)(a:p=some (k,v)):ni c i=k:=by unfold ni;rw[h,a];rfl
def Du{c:Case}{i:Nat}{p:Option (Nat×Int)}(h:iw c i=p.map λx=>⟨i,x.1,x.2⟩)(a:p=none):ni c i= -1:=by unfold ni;rw[h,a];rfl
def Qi{K:Nat->Prop}{sc:Array Value}{c:Case}(i:Nat)(w:World)(G:bp K w sc c)(H:OkC c)(B:i<c.marks.length):ac fs 130 #[.agg sc,.int .i64 i] w (.int .i64 (ni c i)):=by
 have e85:=e85 L;have l:i<c.kin.length:=by rw[H.yI];exact B
 have m:=Bh c i B l;have u:=λk (I:k<c.rules.length) x (C:ae w x)=>IG L i k x (G.stays C) H B I l;obtain⟨v0,v1,v2,vr,J,M,O,rfl,U,n,V,W,D⟩:=G;obtain⟨o,P,rfl,lr,X,_,Y⟩:=n;obtain⟨w1,g⟩:=ex (w.alloc (.cells #[v0,v1,v2,.slice o c.rules.length P,.string c.new.name,.string c.new.word,J,.int .i64 c.new.day,.bool c.new.known,M,O] 60));have y:ae w w1:=by rw[g];exact ae.alloc _ _
 have z:Below w.heap.size w w1:=by rw[g];exact aJ _ _
 have ct:∀i v,(#[v0,v1,v2,.slice o c.rules.length P,.string c.new.name,.string c.new.word,J,.int .i64 c.new.day,.bool c.new.known,M,O]:Array Value)[i]? =some v->w1.cell? ⟨w.heap.size,i,none⟩=some v:=λi v h=>by rw[g];exact aE w _ 60 i v h
 obtain⟨N,E⟩:=ex (w.heap.size);have b:=λx (C:ae w1 x) i v h=>C.cell (ct i v h);rw[<-E]at b;clear U V W D Y;go_enter (n130 L),Tryz.ntmps130;go_wp2;rw[<-g,<-E];clear g E ct;go_loopw [5] (λs wr=>∃k:Nat,k<=c.rules.length/\s=.int .i64 k/\ae w1 wr/\Below w.heap.size w wr/\eM c c.marks[i] c.kin[i] 0 c.rules=eM c c.marks[i] c.kin[i] k (c.rules.drop k)) (λs _=>c.rules.length-(intOf s).toNat);case atStart=>exact⟨0,TE _,rfl,ae.refl _,z,rfl⟩
 case round=>
  obtain⟨k,I,rfl,a,d,f⟩:=hrel;have u0:=b wr a 0 _ rfl;have u1:=b wr a 1 _ rfl;have u2:=b wr a 2 _ rfl;have u3:=b wr a 3 _ rfl;have u4:=b wr a 4 _ rfl;have u5:=b wr a 5 _ rfl;have u6:=b wr a 6 _ rfl;have u7:=b wr a 7 _ rfl;have u8:=b wr a 8 _ rfl;have u9:=b wr a 9 _ rfl;have Z:=b wr a 10 _ rfl;have HW:Hid _:=(⟨a,d⟩:ae w1 wr/\Below w.heap.size w wr)
  obtain p|hge:=Ty k c.rules.length
  .have A:=u k p wr (y.trans a);rw[rR c _ _ k p]at f;obtain⟨r,n⟩:=ex (kJ c c.marks[i] c.kin[i] c.rules[k]);rw[<-n]at f A;have F:Hid _:=m;obtain⟨Q,R,S⟩:=r;have T:=Ds fs Q R S 0 0 0;have hG:=ic fs vQ .eql (.tmp 16) (.tmp 17);unfold zG at A;by_cases q:(⟨Q,R,S⟩:A4)=⟨0,0,0⟩
   .rw[Tv q]at f;cases q;have t:Hid _:=f;rw[TD ⟨rfl,rfl,rfl⟩]at T;clear f n u b y z a d m;go_wp2_with (go_at_call 85;refine A.mono ?_;rintro e w3 ⟨rfl,j⟩);go_ret;exact⟨by rw[Dt F.out t.out];rfl,HW.out.2.trans (j.mono HW.out.2.size)⟩
   rw[Tu q]at f;have t:Hid _:=f;rw[Tz (λh=>q (by rw[h.1,h.2.1,h.2.2]))]at T;clear f n u b y z a d m q;go_wp2_with (go_at_call 85;refine A.mono ?_;rintro e w3 ⟨rfl,j⟩);exact⟨⟨k+1,by omega,by go_num,HW.out.1.trans (ae.below j),HW.out.2.trans (j.mono HW.out.2.size),t.out⟩,by simp[intOf];omega⟩
  have t:Hid _:=f;have F:Hid _:=m;clear a d u b y z f m;go_wp2;go_ret;refine⟨?_,HW.out.2⟩;have f:=t.out;rw[T6 hge]at f;rw[Du F.out f];rfl
def Dv(i j:Nat):decide ((i:Int)<j)=decide (i<j):=by by_cases h:i<j;rw[TD h,TD (by omega)];rw[Tz h,Tz (by omega)]
def nj(x:Hit):Value:=.agg #[.int .i64 x.mark,.int .i64 x.ew,.int .i64 x.level]
def pB(c)(i:Nat)(a:i<c.marks.length):gU c i=c.marks[i].day:=by unfold gU;rw[Int.toNat_natCast,T2 a];rfl
def L5{K:Nat->Prop}{sc:Array Value}{c:Case}(i j:Nat)(f g m n:Int)(w:World)(hc:bp K w sc c)(C:i<c.marks.length)(D:j<c.marks.length):ac fs 131 #[.agg sc,nj ⟨i,f,g⟩,nj ⟨j,m,n⟩] w (.bool (aU c ⟨i,f,g⟩ ⟨j,m,n⟩)):=by
 obtain⟨v0,v1,v2,V,W,X,Y,rfl,ht,s,hf,Z,E⟩:=hc;obtain⟨q,a⟩:=ex (w.alloc (.cells #[v0,v1,v2,V,.string c.new.name,.string c.new.word,W,.int .i64 c.new.day,.bool c.new.known,X,Y] 60));obtain⟨t,d⟩:=ex (q.alloc (.cells #[.int .i64 i,.int .i64 f,.int .i64 g] 66));obtain⟨w1,l⟩:=ex (t.alloc (.cells #[.int .i64 j,.int .i64 m,.int .i64 n] 66));have F:ae t w1:=by rw[l];exact ae.alloc _ _
 have G:ae q w1:=(by rw[d];exact ae.alloc _ _:ae q t).trans F;have H:ae w w1:=(by rw[a];exact ae.alloc _ _:ae w q).trans G;have B1:Below w.heap.size w w1:=by rw[l,d,a];exact(((Below.refl _ w).alloc (Tw _) _).alloc (by simp) _).alloc (by simp;omega) _
 have p:q.heap.size=w.heap.size+1:=by rw[a];simp
 have hsb:t.heap.size=w.heap.size+1+1:=by rw[d,<-p];simp
 have ct:∀i v,(#[v0,v1,v2,V,.string c.new.name,.string c.new.word,W,.int .i64 c.new.day,.bool c.new.known,X,Y]:Array Value)[i]? =some v->w1.cell? ⟨w.heap.size,i,none⟩=some v:=λi v h=>G.cell (by rw[a];exact aE w _ 60 i v h);have z:∀k v,(#[.int .i64 i,.int .i64 f,.int .i64 g]:Array Value)[k]? =some v->w1.cell? ⟨w.heap.size+1,k,none⟩=some v:=λi v h=>F.cell (by rw[d,<-p];exact aE q _ 66 i v h);have A:∀k v,(#[.int .i64 j,.int .i64 m,.int .i64 n]:Array Value)[k]? =some v->w1.cell? ⟨w.heap.size+1+1,k,none⟩=some v:=λi v h=>by rw[l,<-hsb];exact aE t _ 66 i v h
 obtain⟨N0,I⟩:=ex (w.heap.size);obtain⟨N1,J⟩:=ex (w.heap.size+1);obtain⟨N2,M⟩:=ex (w.heap.size+1+1);have N:=Z.stays H λb b' o x e h=>by subst e;exact nM.carry (Carry.keep H) b b o x rfl h
 obtain⟨aa,cm,rfl,lm,ab,_,O⟩:=N;obtain⟨bm,om,rfl,_,_,_,x3,_⟩:=O i C;obtain⟨ad,af,P,_,_,_,y3,_⟩:=O j D;cases P;have t9:=ct 9 _ rfl;have a0:=z 0 _ rfl;have a1:=z 1 _ rfl;have a2:=z 2 _ rfl;have b0:=A 0 _ rfl;have b1:=A 1 _ rfl;have b2:=A 2 _ rfl;rw[<-M]at b0 b1 b2;rw[<-J]at a0 a1 a2;rw[<-I]at t9;have hP:aU c ⟨i,f,g⟩ ⟨j,m,n⟩=if f≠m then decide (f<m)else if g≠n then decide (n<g)else if c.marks[i].day≠c.marks[j].day then decide (c.marks[i].day<c.marks[j].day)else decide ((i:Int)<j):=by unfold aU;simp only[];rw[pB c i C,pB c j D]
 have r:Hid _:=hP;obtain⟨d1,u⟩:=ex (c.marks[i].day);obtain⟨d2,y⟩:=ex (c.marks[j].day);rw[<-u]at x3 r;rw[<-y]at y3 r;have B:Hid _:=B1;have HI:Hid _:=(⟨C,D⟩:i<c.marks.length/\j<c.marks.length)
 have ag:(i:Int)<(c.marks.length:Int):=by omega
 have ah:(j:Int)<(c.marks.length:Int):=by omega
 unfold nj;go_enter (n131 L),Tryz.ntmps131;go_upto_region 1 with fail;rw[<-a,<-d,<-l,<-M,<-J,<-I];clear a d l G F H B1 p hsb ct z A ht s hf Z E O I J M hP u y;by_cases s:f=m
 .subst s;have Q:(f !=f)=false:=by simp
  by_cases R:g=n
  .subst R;(have S:(g !=g)=false:=by simp);by_cases T:d1=d2
   .subst T;(have U:(d1 !=d1)=false:=by simp);go_wp2;go_quiet (fail);go_wp2;go_ret;refine⟨?_,B.out.fv _⟩;rw[r.out,Tu (λh=>h rfl),Tu (λh=>h rfl),Tu (λh=>h rfl),Dv];rfl
   (have U:(d1 !=d2)=true:=by simpa using T);go_wp2;go_quiet (fail);go_wp2;go_quiet (fail);go_wp2;go_ret;refine⟨?_,(B.out.fv _).fv _⟩;rw[r.out,Tu (λh=>h rfl),Tu (λh=>h rfl),Tv T];rfl
  have S:(g !=n)=true:=by simpa using R
  go_wp2;go_ret;refine⟨?_,B.out⟩;rw[r.out,Tu (λh=>h rfl),Tv R];rfl
 have Q:(f !=m)=true:=by simpa using s
 go_wp2;go_ret;refine⟨?_,B.out⟩;rw[r.out,Tv s];rfl
end Go.Proofs

import Derived.Deep.QuietTactic
import Derived.OwnWalkIn
import Derived.TacticsInMore
import Derived.LoopNIn
import Derived.LoopIn
import Derived.WalkMore
import Derived.Shelf.Strings.Builder1
import Derived.Shelf.Strings.Replace
import Derived.RangeFuncLeaves
import Derived.Shelf.Strings.Split
import Derived.Shelf.Strings.Builder2
import Derived.Lib.ReplaceLaws
import Derived.Deep.LoopGhost
import Derived.Lib.Replace
import Derived.Test.YtaglpcmhopjebaaGreatDoorW12
set_option linter.all false
set_option maxRecDepth 100000
set_option maxHeartbeats 20000000
namespace Go.RowKit
def Below.dR{B:Nat}{a w:xv}(h:Below B a w)(n:Nat):Below B a (w.drewN n):=⟨h.os,h.tape,h.output,h.size,h.block⟩
end Go.RowKit
namespace Go.Proofs
open Go.Tm Go.RowKit
variable {fs:Array Func} (L:bT fs)
def bD.boxed{K w sc c}(h:bD K w sc c):∃v0 v1 v2 b d e f g i j a,sc=#[v0,v1,v2,b,d,e,f,g,i,j,a]:=by obtain⟨v0,v1,v2,k,l,m,n,rfl,_⟩:=h;exact⟨_,_,_,_,_,_,_,_,_,_,_,rfl⟩
def oH(c:Case)(i:Nat):Int:=(en c i).elim (-1) (·.di)
def tL(c m kin k)(a:k<c.rules.length):cQ c m kin k (c.rules.drop k)=if fK c m kin c.rules[k]=⟨0,0,0⟩then some (k,bn c.table c.rules[k].kind c.new m)else cQ c m kin (k+1) (c.rules.drop (k+1)):=by rw[YT a];rfl
def DU(c i)(a:i<c.marks.length)(b:i<c.kin.length):en c i=(cQ c c.marks[i] c.kin[i] 0 c.rules).map λx=>⟨i,x.1,x.2⟩:=by unfold en;rw[WN a,WN b]
def FZ{c:Case}{i:Nat}{p:Option (Nat×Int)}{k:Nat}{v:Int}(h:en c i=p.map λx=>⟨i,x.1,x.2⟩)(a:p=some (k,v)):oH c i=k:=by unfold oH;rw[h,a];rfl
def F3{c:Case}{i:Nat}{p:Option (Nat×Int)}(h:en c i=p.map λx=>⟨i,x.1,x.2⟩)(a:p=none):oH c i= -1:=by unfold oH;rw[h,a];rfl
def Tl{K:Nat->Prop}{sc:WZ}{c:Case}(i:Nat)(w:xv)(G:bD K w sc c)(H:OkC c)(B:i<c.marks.length):ac fs 130 #[.agg sc,.i i] w (.i (oH c i)):=by
 have e85:=e85 L;have l:i<c.kin.length:=by rw[H.Jc];exact B
 have m:=DU c i B l;have u:=λk (I:k<c.rules.length) x (C:ae w x)=>Rq L i k x (G.stays C) H B I l;obtain⟨v0,v1,v2,vr,J,M,O,rfl,U,n,V,W,D⟩:=G;obtain⟨o,P,rfl,lr,X,_,Y⟩:=n;obtain⟨w1,g⟩:=ex (w.alloc (.cells #[v0,v1,v2,.slice o c.rules.length P,.string c.new.name,.string c.new.word,J,.i c.new.day,.bool c.new.known,M,O] 60));have y:ae w w1:=by rw[g];exact ae.alloc _ _
 have z:jg w w1:=by rw[g];exact aN _ _
 have ct:∀i v,(#[v0,v1,v2,.slice o c.rules.length P,.string c.new.name,.string c.new.word,J,.i c.new.day,.bool c.new.known,M,O]:WZ)[i]? =some v->w1.cell? ⟨w.heap.size,i,none⟩=some v:=λi v h=>by rw[g];exact aC w _ 60 i v h
 obtain⟨N,E⟩:=ex (w.heap.size);have b:=λx (C:ae w1 x) i v h=>C.cell (ct i v h);rw[<-E]at b;clear U V W D Y;go_enter (n130 L),Tryz.ntmps130;go_wp2;rw[<-g,<-E];clear g E ct;go_loopw [5] (λs wr=>∃k:Nat,k<=c.rules.length/\s=.i k/\ae w1 wr/\jg w wr/\cQ c c.marks[i] c.kin[i] 0 c.rules=cQ c c.marks[i] c.kin[i] k (c.rules.drop k)) (λs _=>c.rules.length-(intOf s).toNat);case atStart=>exact⟨0,WB _,rfl,ae.refl _,z,rfl⟩
 case round=>
  obtain⟨k,I,rfl,a,d,f⟩:=hrel;have u0:=b wr a 0 _ rfl;have u1:=b wr a 1 _ rfl;have u2:=b wr a 2 _ rfl;have u3:=b wr a 3 _ rfl;have u4:=b wr a 4 _ rfl;have u5:=b wr a 5 _ rfl;have u6:=b wr a 6 _ rfl;have u7:=b wr a 7 _ rfl;have u8:=b wr a 8 _ rfl;have u9:=b wr a 9 _ rfl;have Z:=b wr a 10 _ rfl;have HW:Hid _:=(⟨a,d⟩:ae w1 wr/\jg w wr)
  obtain p|hge:=Wx k c.rules.length
  .have A:=u k p wr (y.trans a);rw[tL c _ _ k p]at f;obtain⟨r,n⟩:=ex (fK c c.marks[i] c.kin[i] c.rules[k]);rw[<-n]at f A;have F:=jj m;obtain⟨Q,R,S⟩:=r;have T:=yT fs Q R S 0 0 0;have hG:=fQ fs tK .eql (.tmp 16) (.tmp 17);unfold FI at A;by_cases q:(⟨Q,R,S⟩:rC)=⟨0,0,0⟩
   .rw[Wu q]at f;cases q;have t:=jj f;rw[WE ⟨rfl,rfl,rfl⟩]at T;clear f n u b y z a d m;go_wp2_with (go_at_call 85;refine A.mono ?_;rintro e w3 ⟨rfl,j⟩);go_ret;exact⟨by rw[FZ F.o t.o];rfl,HW.o.2.trans (j.mono HW.o.2.size)⟩
   rw[Wt q]at f;have t:=jj f;rw[Wz (λh=>q (by rw[h.1,h.2.1,h.2.2]))]at T;clear f n u b y z a d m q;go_wp2_with (go_at_call 85;refine A.mono ?_;rintro e w3 ⟨rfl,j⟩);exact⟨⟨k+1,by omega,by go_num,HW.o.1.trans (ae.below j),HW.o.2.trans (j.mono HW.o.2.size),t.o⟩,by simp[intOf];omega⟩
  have t:=jj f;have F:=jj m;clear a d u b y z f m;go_wp2;go_ret;refine⟨?_,HW.o.2⟩;have f:=t.o;rw[Xg hge]at f;rw[F3 F.o f];rfl
def F4(i j:Nat):decide ((i:Int)<j)=decide (i<j):=by by_cases h:i<j;rw[WE h,WE (by omega)];rw[Wz h,Wz (by omega)]
def iH(x:Hit):x6:=.agg #[.i x.mark,.i x.di,.i x.level]
def lF(c)(i:Nat)(a:i<c.marks.length):iM c i=c.marks[i].day:=by unfold iM;rw[Zj,WN a];rfl
def ON{K:Nat->Prop}{sc:WZ}{c:Case}(i j:Nat)(f g m n:Int)(w:xv)(hc:bD K w sc c)(C:i<c.marks.length)(D:j<c.marks.length):ac fs 131 #[.agg sc,iH ⟨i,f,g⟩,iH ⟨j,m,n⟩] w (.bool (aV c ⟨i,f,g⟩ ⟨j,m,n⟩)):=by
 obtain⟨v0,v1,v2,V,W,X,Y,rfl,ht,s,hf,Z,E⟩:=hc;obtain⟨q,a⟩:=ex (w.alloc (.cells #[v0,v1,v2,V,.string c.new.name,.string c.new.word,W,.i c.new.day,.bool c.new.known,X,Y] 60));obtain⟨t,d⟩:=ex (q.alloc (.cells #[.i i,.i f,.i g] 66));obtain⟨w1,l⟩:=ex (t.alloc (.cells #[.i j,.i m,.i n] 66));have F:ae t w1:=by rw[l];exact ae.alloc _ _
 have G:ae q w1:=(by rw[d];exact ae.alloc _ _:ae q t).trans F;have H:ae w w1:=(by rw[a];exact ae.alloc _ _:ae w q).trans G;have B1:jg w w1:=by rw[l,d,a];exact(((Below.refl _ w).alloc (Wv _) _).alloc (by simp) _).alloc (by simp;omega) _
 have p:q.heap.size=w.heap.size+1:=by rw[a];simp
 have hsb:t.heap.size=w.heap.size+1+1:=by rw[d,<-p];simp
 have ct:∀i v,(#[v0,v1,v2,V,.string c.new.name,.string c.new.word,W,.i c.new.day,.bool c.new.known,X,Y]:WZ)[i]? =some v->w1.cell? ⟨w.heap.size,i,none⟩=some v:=λi v h=>G.cell (by rw[a];exact aC w _ 60 i v h);have z:∀k v,(#[.i i,.i f,.i g]:WZ)[k]? =some v->w1.cell? ⟨w.heap.size+1,k,none⟩=some v:=λi v h=>F.cell (by rw[d,<-p];exact aC q _ 66 i v h);have A:∀k v,(#[.i j,.i m,.i n]:WZ)[k]? =some v->w1.cell? ⟨w.heap.size+1+1,k,none⟩=some v:=λi v h=>by rw[l,<-hsb];exact aC t _ 66 i v h
 obtain⟨N0,I⟩:=ex (w.heap.size);obtain⟨N1,J⟩:=ex (w.heap.size+1);obtain⟨N2,M⟩:=ex (w.heap.size+1+1);have N:=Z.stays H λb b' o x e h=>by subst e;exact mG.carry (Carry.keep H) b b o x rfl h
 obtain⟨aa,cm,rfl,lm,ab,_,O⟩:=N;obtain⟨bm,om,rfl,_,_,_,x3,_⟩:=O i C;obtain⟨ad,af,P,_,_,_,y3,_⟩:=O j D;cases P;have t9:=ct 9 _ rfl;have a0:=z 0 _ rfl;have a1:=z 1 _ rfl;have a2:=z 2 _ rfl;have b0:=A 0 _ rfl;have b1:=A 1 _ rfl;have b2:=A 2 _ rfl;rw[<-M]at b0 b1 b2;rw[<-J]at a0 a1 a2;rw[<-I]at t9;have hP:aV c ⟨i,f,g⟩ ⟨j,m,n⟩=if f≠m then decide (f<m)else if g≠n then decide (n<g)else if c.marks[i].day≠c.marks[j].day then decide (c.marks[i].day<c.marks[j].day)else decide ((i:Int)<j):=by unfold aV;simp only[];rw[lF c i C,lF c j D]
 have r:=jj hP;obtain⟨d1,u⟩:=ex (c.marks[i].day);obtain⟨d2,y⟩:=ex (c.marks[j].day);rw[<-u]at x3 r;rw[<-y]at y3 r;have B:=jj B1;have HI:Hid _:=(⟨C,D⟩:i<c.marks.length/\j<c.marks.length)
 have ag:(i:Int)<(c.marks.length:Int):=by omega
 have ah:(j:Int)<(c.marks.length:Int):=by omega
 unfold iH;go_enter (n131 L),Tryz.ntmps131;go_upto_region 1 with fail;rw[<-a,<-d,<-l,<-M,<-J,<-I];clear a d l G F H B1 p hsb ct z A ht s hf Z E O I J M hP u y;by_cases s:f=m
 .subst s;have Q:(f !=f)=false:=by simp
  by_cases R:g=n
  .subst R;(have S:(g !=g)=false:=by simp);by_cases T:d1=d2
   .subst T;(have U:(d1 !=d1)=false:=by simp);go_wp2;go_quiet (fail);go_wp2;go_ret;refine⟨?_,B.o.dR _⟩;rw[r.o,Wt (λh=>h rfl),Wt (λh=>h rfl),Wt (λh=>h rfl),F4];rfl
   (have U:(d1 !=d2)=true:=by simpa using T);go_wp2;go_quiet (fail);go_wp2;go_quiet (fail);go_wp2;go_ret;refine⟨?_,(B.o.dR _).dR _⟩;rw[r.o,Wt (λh=>h rfl),Wt (λh=>h rfl),Wu T];rfl
  have S:(g !=n)=true:=by simpa using R
  go_wp2;go_ret;refine⟨?_,B.o⟩;rw[r.o,Wt (λh=>h rfl),Wu R];rfl
 have Q:(f !=m)=true:=by simpa using s
 go_wp2;go_ret;refine⟨?_,B.o⟩;rw[r.o,Wu s];rfl
end Go.Proofs
namespace Go.Proofs
open Go.Tm Go.RowKit
variable {fs:Array Func} (L:bT fs)
def dz{w w':xv}{b o}(h:w'.heap[b]? =w.heap[b]?):w'.cell? ⟨b,o,none⟩=w.cell? ⟨b,o,none⟩:=by unfold World.cell?;rw[show w'.heap[(⟨b,o,none⟩:Addr).block]? =w.heap[(⟨b,o,none⟩:Addr).block]? from h]
def xR{a}(h:0<a.size):(iP a none).1.size=1:=by show(a.extract 0 1).size=1;rw[Yt];omega
def Jm(a ob p)(c:1<=p.1.size):eP a.data.toList ob p=if(iP a ob).2.2<(p.1.size:Int)/\p.1.data.toList.isPrefixOf a.data.toList=true then some p else ob:=by (unfold eP;have:decide ((ob.elim 0 λq=>q.1.size)<p.1.size)=decide ((iP a ob).2.2<(p.1.size:Int)):=by cases ob with|none=>show decide (0<p.1.size)=decide ((0:Int)<(p.1.size:Int));rw[WE (by omega),WE (by omega)]|some q=>show decide (q.1.size<p.1.size)=decide ((q.1.size:Int)<(p.1.size:Int));by_cases h:q.1.size<p.1.size;rw[WE h,WE (by omega)];rw[Wz h,Wz (by omega)]);rw[this];by_cases b:(iP a ob).2.2<(p.1.size:Int)<;>cases d:p.1.data.toList.isPrefixOf a.data.toList<;>simp[b]
def Jn(W:xv)(a:Nat):Nat:=match W.cell? ⟨a,0,none⟩with
 |some (.string s)=>s.size
 |_=>0
def Cc{W a s}(h:W.cell? ⟨a,0,none⟩=some (.string s)):Jn W a=s.size:=by unfold Jn;rw[h]
def L3{a:List Pr2}(e:∀p∈a,1<=p.1.size)(cur)(f:0<cur.size):eU a cur.data.toList=(iP cur (bV a cur.data.toList)).2.1::eU a (cur.extract (iP cur (bV a cur.data.toList)).1.size cur.size).data.toList/\1<=(iP cur (bV a cur.data.toList)).1.size/\(iP cur (bV a cur.data.toList)).1.size<=cur.size:=by (have c:=drop_cons cur 0 f;rw[Xl]at c;have g:∀k,(cur.extract k cur.size).data.toList=cur.data.toList.drop k:=λk=>by rw[Lib.extract_data];exact YR (by rw[WJ,Lib.size_eq];exact Wv _));cases d:bV a cur.data.toList with|some p=>have i:=e p (iN d);have b:=(X4.1 (pH d)).length_le;rw[<-Lib.size_eq,<-Lib.size_eq]at b;refine⟨?_,i,b⟩;rw[g];rw[c]at d⊢;exact Je e d|none=>have j:=xR f;refine⟨?_,by omega,by omega⟩;rw[g,j];rw[c]at d;have h:=FL d;rw[<-c]at h;have l:cur.data.toList.drop 1=cur.data.toList.drop (0+1):=rfl;have m:cur.extract 0 1=⟨#[cur[0]]⟩:=sI (by rw[Lib.extract_data,Xl,c];rfl);(have n:cur.data.toList.head?.any bp=bp cur[0]:=by rw[c];rfl);rw[h,l];show _=(if cur.data.toList.head?.any bp=true then cur.extract 0 1 else⟨#[]⟩)::_;rw[m,n]
def OO{K v0 ls}(n s g m G w)(aa:g<w.heap.size)(H:m<w.heap.size)(ab:g≠G)(I:m≠G)(M:m≠g)(N:∀b,K b->b<w.heap.size/\b≠g/\b≠G) (c:aB K 2 dO w v0 ls) (a:w.rowIs g 9 1 (λ_=>.string s)) (d:w.cell? ⟨m,0,none⟩=some v0) (ok:∀p∈ls,1<=p.1.size) (hs:s.size<=1000) (l) (J:List UV->xv->Prop) (W) (hW:jg w W) (hJ:∀pre W W',Stp W.heap.size g W W'->J pre W->J pre W') (hY:∀pre x O,J pre O->pre++[x]<+:eU ls s.data.toList->YieldAt Fence.wide n (Qs fs) l #[.string x] O λe W'=>e=.returned (.bool true)/\J (pre++[x]) W'/\Stp w.heap.size G O W') (h0:J [] W):Calls (Qs fs) 132 #[.func (.yield l) #[] #[],.pointer (some ⟨g,0,none⟩),.pointer (some ⟨m,0,none⟩)] W λe W'=>(∃v,e=.returned v)/\J (eU ls s.data.toList) W':=by
 have e91:=e91 L;have Rf:=Rf L;have HH:Hid (g<w.heap.size/\m<w.heap.size/\g≠G/\m≠G/\m≠g/\(∀b,K b->b<w.heap.size/\b≠g/\b≠G)):=⟨aa,H,ab,I,M,N⟩
 have HJ:Hid (∀pre W W',Stp W.heap.size g W W'->J pre W->J pre W'):=hJ;have HY:Hid (∀pre x O,J pre O->pre++[x]<+:eU ls s.data.toList->YieldAt Fence.wide n (Qs fs) l #[.string x] O λe W'=>e=.returned (.bool true)/\J (pre++[x]) W'/\Stp w.heap.size G O W'):=hY;have ad:Hid (∀p∈ls,1<=p.1.size):=ok;have HS:Hid (aB K 2 dO W v0 ls/\W.rowIs g 9 1 (λ_=>.string s)/\W.cell? ⟨m,0,none⟩=some v0/\J [] W/\w.heap.size<=W.heap.size):=⟨c.blocks λb P=>hW.block b (N b P).1,a.of_block (hW.block g aa),(dz (hW.block m H)).trans d,h0,hW.size⟩
 clear hJ hY ok h0 c a d hW N;go_enter (n132 L),Tryz.ntmps132;go_wp2;go_loopw [4] (λs4 wr=>∃(pre:List UV) (cur:UV),aB K 2 dO wr v0 ls/\wr.rowIs g 9 1 (λ_=>.string cur)/\wr.cell? ⟨m,0,none⟩=some v0/\J pre wr/\w.heap.size<=wr.heap.size/\pre++eU ls cur.data.toList=eU ls s.data.toList/\cur.size<=1000) (λs4 wr=>Jn wr g);case atStart=>exact⟨[],s,HS.o.1,HS.o.2.1,HS.o.2.2.1,HS.o.2.2.2.1,HS.o.2.2.2.2,rfl,hs⟩
 case round=>
  clear HS;obtain⟨pre,cur,c,a,d,hj,t,f,hc⟩:=hrel;have C:Hid (aB K 2 dO wr v0 ls/\wr.rowIs g 9 1 (λ_=>.string cur)/\J pre wr/\w.heap.size<=wr.heap.size/\pre++eU ls cur.data.toList=eU ls s.data.toList):=⟨c,a,hj,t,f⟩
  have hw:=a.cell (show 0<1 by omega);have Q:=a.frozen 0;clear c a hj t f;by_cases R:cur.size=0
  ·(have an:cur.toList.isEmpty=true:=by rw[Lib.toList_data,gO];exact WE R);go_wp2
   (go_end0);refine⟨⟨_,rfl⟩,?_⟩;have h:=C.o.2.2.2.2;have hn:cur.data.toList=[]:=Yg.1 (by rw[<-Lib.size_eq];exact R);rw[hn]at h;have h2:eU ls []=[]:=rfl;rw[h2,XJ]at h;subst h;exact C.o.2.2.1
  have af:0<cur.size:=by omega
  have an:cur.toList.isEmpty=false:=by rw[Lib.toList_data,gO];exact Wz R
  have a7:(1:Int)<=(cur.size:Int):=by omega
  have S:∀wx,ap fs 91 #[.int .u8 (cur[0].toNat:Int)] wx (.bool (bp cur[0])):=λwx=>ow fs (n91 L) _ wx;have q:Hid ((iP cur none).1=cur.extract 0 1/\(iP cur none).2.1=(if bp cur[0]=true then cur.extract 0 1 else⟨#[]⟩)/\(iP cur none).2.2=0):=by refine⟨rfl,?_,rfl⟩;have hd:=drop_cons cur 0 af;rw[Xl]at hd;show(if cur.data.toList.head?.any bp=true then _ else _)=_;rw[hd];rfl
  obtain⟨z,D⟩:=ex (bp cur[0]);rw[<-D]at S q;clear D;go_wp2
  go_step3
  go_upto_if 15 with((go_at_call 91;refine(S _).mono ?_;clear S;rintro e w2 ⟨rfl,rfl⟩))
  go_cut [4,5]from 9 to 52 (λs4 s5 wx=>s4=.string (iP cur none).1/\s5=.string (iP cur none).2.1/\wx=w2)
  case first=>cases z with|true=>go_wp2;all_goals (go_meet;exact⟨by rw[q.o.1],by rw[q.o.2.1];simp,rfl⟩)|false=>go_wp2;all_goals (go_meet;exact⟨by rw[q.o.1],by rw[q.o.2.1];simp,rfl⟩)
  case rest=>
   obtain⟨rfl,rfl,rfl⟩:=hcut;have ar:Hid ((iP cur none).2.2=0):=q.o.2.2;clear q;obtain⟨ao,cc,rfl,ax,ay,aK,r⟩:=id C.o.1;clear ax ay aK;go_wp2
   (go_step3);go_wp2;go_loopw [21,4,5,6] (λT s4 s5 s6 wi=>∃(j:Nat) (ob:Option Pr2),j<=ls.length/\T=.i j/\s4=.string (iP cur ob).1/\s5=.string (iP cur ob).2.1/\s6=.i (iP cur ob).2.2/\bV (ls.take j) cur.data.toList=ob/\aB K 2 dO wi (.slice ao ls.length cc) ls/\wi.rowIs g 9 1 (λ_=>.string cur)/\wi.cell? ⟨m,0,none⟩=some (.slice ao ls.length cc)/\J pre wi/\w.heap.size<=wi.heap.size) (λT _ _ _ _=>ls.length-(intOf T).toNat);case atStart=>exact⟨0,none,WB _,rfl,rfl,rfl,by rw[ar.o],rfl,C.o.1,C.o.2.1,d,C.o.2.2.1,C.o.2.2.2.1⟩
   case round=>
    (clear hw Q d;obtain⟨j,ob,hj,rfl,rfl,rfl,rfl,U,c,a,d,E,t⟩:=hrel;have u:=jj U;have HI:Hid (aB K 2 dO wr (.slice ao ls.length cc) ls/\wr.rowIs g 9 1 (λ_=>.string cur)/\wr.cell? ⟨m,0,none⟩=some (.slice ao ls.length cc)/\J pre wr/\w.heap.size<=wr.heap.size):=⟨c,a,d,E,t⟩);(have y:Hid (∀w',jg wr w'->aB K 2 dO w' (.slice ao ls.length cc) ls/\w'.rowIs g 9 1 (λ_=>.string cur)/\w'.cell? ⟨m,0,none⟩=some (.slice ao ls.length cc)/\J pre w'/\w.heap.size<=w'.heap.size):=λw' h=>⟨c.blocks λb P=>h.block b (by have:=(HH.o.2.2.2.2.2 b P).1;omega),a.of_block (h.block _ (by have:=HH.o.1;omega)),(dz (h.block _ (by have:=HH.o.2.1;omega))).trans d,HJ.o _ _ _ (Stp.Fz h) E,by have:=h.size;omega⟩);have hw:=a.cell (show 0<1 by omega);have Q:=a.frozen 0;obtain V|hge:=Wx j ls.length
    .obtain⟨_,_,e',_,_,_,r⟩:=c;(cases e';obtain⟨b,off,rfl,x0,x1⟩:=r j V;have hp:=ad.o ls[j] (WG V);have A:Hid _:=Jm cur ob ls[j] hp;have F:Hid _:=lg ls j V cur.data.toList;obtain⟨pp,ag⟩:=ex (ls[j]);rw[<-ag]at x0 x1 A F;obtain⟨ah,B⟩:=ex ((iP cur ob).2.2);rw[<-B]at A⊢;have ak:=jj B;have k:=λwx=>pK L cur pp.1 wx;have bb:(j:Int)<(ls.length:Int):=by omega);have bk:∀o,(wr.alloc o).cell? ⟨g,0,none⟩=some (.string cur):=λo=>(a.alloc o).cell (show 0<1 by omega);clear ag U a E t r B hp;by_cases X:(pp.1.size:Int)<=ah
     ·(have HN:Hid (bV (ls.take (j+1)) cur.data.toList=ob):=by rw[Hid,F.o,u.o,A.o,Wt (by omega)]);clear k;go_wp2;refine⟨⟨j+1,ob,by omega,by go_num,rfl,rfl,by rw[ak.o],HN.o,?_⟩,by simp[intOf];omega⟩;exact y.o _ (by first|exact aN _ _|exact(aN _ _).dR _)
     have a8:decide ((pp.1.size:Int)<=ah)=false:=Wz X
     cases D:pp.1.data.toList.isPrefixOf cur.data.toList with
     |false=>(rw[D]at k;have HN:Hid (bV (ls.take (j+1)) cur.data.toList=ob):=by rw[Hid,F.o,u.o,A.o,Wt (by rw[D];simp)]);clear X D;go_wp2_with (go_at_call 133;refine(k _).mono ?_;clear k;rintro e w3 ⟨rfl,rfl⟩);refine⟨⟨j+1,ob,by omega,by go_num,rfl,rfl,by rw[ak.o],HN.o,?_⟩,by simp[intOf];omega⟩;exact y.o _ (by first|exact aN _ _|exact(aN _ _).dR _)
     |true=>(rw[D]at k;have HN:Hid (bV (ls.take (j+1)) cur.data.toList=some pp):=by rw[Hid,F.o,u.o,A.o,Wu ⟨by omega,D⟩]);clear X D;go_wp2_with (go_at_call 133;refine(k _).mono ?_;clear k;rintro e w3 ⟨rfl,rfl⟩);go_quiet (fail);go_wp2;refine⟨⟨j+1,some pp,by omega,by go_num,rfl,rfl,rfl,HN.o,?_⟩,by simp[intOf];omega⟩;exact y.o _ (by first|exact aN _ _|exact(aN _ _).dR _)
    (obtain rfl:j=ls.length:=by omega);(rw[Yq]at u;go_upto_region 11 with fail;have PN:=L3 ad.o cur af;rw[u.o]at PN;obtain⟨al,aM,aR⟩:=PN;have f:=C.o.2.2.2.2;rw[al]at f;obtain⟨x,hx⟩:=ex ((iP cur ob).2.1);obtain⟨fr,Y⟩:=ex ((iP cur ob).1);rw[<-hx,<-Y]at f⊢;rw[<-Y]at aM aR;obtain⟨fn,tmps,assign,body,hy,hR⟩:=HY.o pre x wr HI.o.2.2.2.1 ⟨eU ls (cur.extract fr.size cur.size).data.toList,by rw[<-f,XR];rfl⟩;have HT:Hid ((pre++[x])++eU ls (cur.extract fr.size cur.size).data.toList=eU ls s.data.toList):=by rw[Hid,<-f,XR];rfl);(have ba:(fr.size:Int)<=(cur.size:Int):=by omega);clear U c a d E t al f hx Y hw Q;refine(wpIn_wide (n:=n+1)).1 ?_
    (gi_wp2);refine hR.mono ?_;rintro e W' ⟨rfl,a1,hS⟩;have Z:W'.rowIs g 9 1 (λ_=>.string cur):=HI.o.2.1.of_block (hS.block _ HH.o.1 HH.o.2.2.1);have a6:=Z.cell (show 0<1 by omega);have bm:=Z.frozen 0;clear hR hy
    (gi_wp2);go_wp2;simp(config:={zetaDelta:=true}) only [Exit.noGoto_normal,Exit.inBlock,Exit.then]
    (go_roundw);(case rel=>obtain⟨_,_,ab,I,M,N⟩:=HH.o;refine⟨pre++[x],cur.extract fr.size cur.size,HI.o.1.blocks λb P=>(Below.heap_setCell W' ⟨g,0,none⟩ _ b (N b P).2.1).trans (hS.block b (N b P).1 (N b P).2.2),(Z.set 0 _).congr λi hi=>?_,(dz (Below.heap_setCell W' ⟨g,0,none⟩ _ m M)).trans ((dz (hS.block m H I)).trans HI.o.2.2.1),HJ.o _ W' _ (Stp.setCell W' 0 _) a1,?_,HT.o,?_⟩;rw[Wu (by omega)];exact Ww HI.o.2.2.2.2 (Ww hS.size (Stp.setCell (n:=0) W' 0 _).size);rw[Yt];omega);case measure=>rw[Cc (C.o.2.1.cell (show 0<1 by omega)),Cc (s:=cur.extract fr.size cur.size) (World.cell?_setCell_same' _ _ _ (by rw[a6];rfl)),Yt];omega
end Go.Proofs
namespace Go.Proofs
open Go.Tm Go.RowKit Go.Shelf
variable {fs:Array Func} (L:bT fs)
def nh(fs:Array Func):Builder.Extra (Qs fs) vu where
 sizeBuilder:=(by kernel_rfl:(Tryz.prog.info? (vu.t 72)).map (·.size)=some 2)
 liesBuilder:=by kernel_rfl
 t5:=(aP _ _ _).trans Tryz.underlying5
 a5:=λw=>(Dw _ _ _ w).trans (Tryz.isAgg5 w)
 z5:=λw=>(yA _ _ _ w).trans (Tryz.sizeOf5 w)
 v5:=λw=>(jZ _ _ _ w).trans (Tryz.zeroValue5 w)
 infoByte:=(by kernel_rfl:(Tryz.prog.info? (vu.t 5)).map (λi=>(i.zero,i.size,i.bytes))=some (some (.int .u8 0),1,1))
 cellsByte:=by kernel_rfl
 sizeByte:=(by kernel_rfl:(Tryz.prog.info? (vu.t 5)).map (·.size)=some 1)
 neB5:=by decide
def iy(q:Prop)(b B:Nat)(bs:List x6)(w:xv):Prop:=b<B/\∃p v,(p=.pointer none\/p=.pointer (some ⟨b,0,none⟩))/\w.heap[b]? =some (.cells #[p,v] 153 (0,0))/\w.ownsRow B 5 1 v bs.length bs/\(bs=[]->q\/v=.slice none 0 0)
def iy.keep{q}{b B:Nat}{bs:List x6}{w w':xv}(h:iy q b B bs w)(d:∀k c e F,w.heap[k]? =some (.cells c e F)->(k=b\/B<=k)->w'.heap[k]? =some (.cells c e F)):iy q b B bs w':=by obtain⟨j,p,v,l,m,f,n⟩:=h;refine⟨j,p,v,l,d _ _ _ _ m (.inl rfl),⟨f.1,?_⟩,n⟩;obtain h|⟨g,cap,a,k1,i,o,r⟩:=f.2;exact .inl h;exact .inr ⟨g,cap,a,k1,i,d _ _ _ _ o (.inr i),r⟩
def DV{w:xv}{B B' e k v n xs}(h:w.ownsRow B' e k v n xs)(i:B<=B'):w.ownsRow B e k v n xs:=by refine⟨h.1,?_⟩;obtain b|⟨g,cap,a,c,j,d,f⟩:=h.2;exact .inl b;exact .inr ⟨g,cap,a,c,by omega,d,f⟩
def jP{q}(b B:Nat)(bs:List x6)(s:UV)(w:xv)(h:iy q b B bs w)(T:bs.length+s.size<=140737488355328)(hB:B<=w.heap.size):Calls (Qs fs) 94 #[.pointer (some ⟨b,0,none⟩),.string s] w λe w'=>e=.returned (.tuple #[.i s.size,.nilIface])/\iy q b B (bs++Lib.strCells s) w'/\Stp B b w w':=by (have Rg:=Rg L;have X:=nh fs;have m:Lays.n240 (Qs fs) vu:={(kI L).2.2 with});(obtain⟨Y,p,v,U,a,i,n⟩:=h;obtain⟨i0,Z,G,H,I⟩:=info_parts X.infoByte;have J:(Qs fs).info? 5=some i0:=Z;have aa:b<w.heap.size:=by omega);(have t:Calls (Qs fs) 134 #[.pointer (some ⟨b,0,none⟩)] w λe w'=>e=.returned (.tuple #[])/\w'.heap[b]? =some (.cells #[.pointer (some ⟨b,0,none⟩),v] 153 (0,0))/\Stp B b w w'/\w'.heap.size=w.heap.size/\∀k,k≠b->w'.heap[k]? =w.heap[k]? :=by obtain rfl|rfl:=U;have c:=Any.Builder_copyCheck_fresh m X.toX72 b w (by rw[Lib.cell_of_heap a];rfl) (by simp[World.shape?,a];rfl) (Lib.frozen_of_heap a 0);(refine c.mono ?_;rintro e w' ⟨rfl,rfl⟩;refine⟨rfl,?_,Stp.setCell _ _ _,by simp[World.setCell],λk V=>Below.heap_setCell w ⟨b,0,none⟩ _ k V⟩;have K:(w.heap.modify b λo=>match o with| .cells c e F=>.cells (c.setIfInBounds 0 (.pointer (some ⟨b,0,none⟩))) e F|o=>o)[b]? =some (.cells #[.pointer (some ⟨b,0,none⟩),v] 153 (0,0)):=by rw[XB,a];simp);exact K;have c:=Any.Builder_copyCheck_used m X.toX72 b w (by rw[Lib.cell_of_heap a];rfl);refine c.mono ?_;rintro e w' ⟨rfl,rfl⟩;exact⟨rfl,a,Stp.refl _ _ _,rfl,λ_ _=>rfl⟩);(have M:v.ownBlock≠some b:=by intro e;have:=dI i b e;omega);clear U a;go_enter (n94 L),Tryz.ntmps94;go_wp2_with (go_at_call 134;refine t.mono ?_);(clear t;rintro e w1 ⟨rfl,u,x,W,y⟩;have j:w1.ownsRow B 5 1 v bs.length bs:=by refine⟨i.1,?_⟩;obtain h|⟨g,cap,l,k1,N,O,P⟩:=i.2;exact .inl h;exact .inr ⟨g,cap,l,k1,N,(y g (by omega)).trans O,P⟩);(have c1:w1.cell? ⟨b,1,none⟩=some v:=by rw[Lib.cell_of_heap u];rfl);(have z:b<w1.heap.size:=by omega);(go_wp2_with (at_builtin;refine Lib.wpList_append_own_string _ rfl _ _ 120 9 rfl B 5 i0 Tryz.underlying120 Tryz.underlying9 J G H I _ _ _ rfl j s rfl ?c3 ?c4 ?c5 ?_));(case c3=>unfold maxLen;omega);(case c4=>omega);(case c5=>omega);(intro v' w2 d f A;have Q:=jj A;have R:=jj n;clear A n;have r:w2.heap[b]? =some (.cells #[.pointer (some ⟨b,0,none⟩),v] 153 (0,0)):=by rw[f.block b z (λe=>M e.symm)];exact u);(have d1:w2.cell? ⟨b,1,none⟩=some v:=by rw[Lib.cell_of_heap r];rfl);(have f1:w2.frozen? ⟨b,1,none⟩=false:=Lib.frozen_of_heap r 1;obtain⟨C,D,cap,rfl⟩:∃C D cap,v'=.slice C D cap:=by obtain⟨S,_⟩|⟨g,cap,l,S,_⟩:=d.2;exact⟨_,_,_,S⟩;exact⟨_,_,_,S⟩);have E:=jj f;clear f;go_wp2;(go_ret2);refine⟨rfl,⟨Y,.pointer (some ⟨b,0,none⟩),.slice C D cap,.inr rfl,?_,?_,?_⟩,?_⟩;(have K:(w2.heap.modify b λo=>match o with| .cells c e F=>.cells (c.setIfInBounds 1 (.slice C D cap)) e F|o=>o)[b]? =some (.cells #[.pointer (some ⟨b,0,none⟩),.slice C D cap] 153 (0,0)):=by rw[XB,r];simp);exact K;rw[WS,Lib.strCells_length];refine⟨d.1,?_⟩;obtain h|⟨g,cap,l,k1,N,O,P⟩:=d.2;exact .inl h;exact .inr ⟨g,cap,l,k1,N,(Below.heap_setCell w2 ⟨b,1,none⟩ _ g (by show g≠b;omega)).trans O,P⟩;intro e;(obtain⟨e1,e2⟩:=List.append_eq_nil_iff.1 e;have e3:s.size=0:=by rw[<-Lib.strCells_length,e2];rfl);exact(R.o e1).imp id λe4=>Q.o.2 ⟨e4,by simpa using e3⟩;refine x.trans (Stp.trans ⟨E.o.os,E.o.tape,E.o.output,E.o.size,λk V _=>E.o.block k (by omega) (λe=>?_)⟩ (Stp.setCell _ _ _));have:=dI j k e.symm;omega
def F5:pA.ntmps=14:=by kernel_rfl
def DX{w w':xv}{b:Nat}(h:Below b w w')(g:∀D,b<=D->w'.heap[D]? =w.heap[D]? \/∃c e F,w.heap[D]? =some (.cells c e F)):∀(D:Nat) (ds:Option (List Deferred)),w.heap[D]? =some (Go.Obj.deferred ds)->w'.heap[D]? =some (Go.Obj.deferred ds):=λD ds a=>by obtain d|hge:=Wx D b;exact(h.block D d).trans a;obtain f|⟨c,e,F,f⟩:=g D hge;exact f.trans a;rw[f]at a;cases a
def yU(b B:Nat)(l:List UInt8)(w:xv)(h:iy False b B (Lib.byteCells l) w)(F:b<=w.heap.size):Calls (Qs fs) 95 #[.pointer (some ⟨b,0,none⟩)] w λe w'=>e=.returned (.string (bs l))/\Below b w w'/\∀(D:Nat) (ds:Option (List Deferred)),w.heap[D]? =some (Go.Obj.deferred ds)->w'.heap[D]? =some (Go.Obj.deferred ds):=by
 have X:=nh fs;have k:(Qs fs).follows .mixedOrders=true:=(kI L).1.mixed;obtain⟨N,p,v,O,i,a,d⟩:=h;cases l with
 |nil=>(have m:v=.slice none 0 0:=(d rfl).elim False.elim id;subst m;have n:=Lib.run_unsafeString_none (P:=Qs fs);have G:w.drew.cell? ⟨b,1,none⟩=some (.slice none 0 0):=by have:w.drew.heap[b]? =some (.cells #[p,.slice none 0 0] 153 (0,0)):=i;rw[Lib.cell_of_heap this];rfl);have o:(Builtin.unsafeSliceData_ #[120] sG #[.slice none 0 0]).run (Qs fs) w.drew=.ok (.pointer none) w.drew:=rfl;clear d;go_enter (n95 L),F5;go_wp2;(go_region_o);all_goals (go_wp2;go_ret;exact⟨rfl,Below.drew (Below.refl b w),λD ds A=>A⟩)
 |cons x r=>
  obtain⟨l,q⟩:=ex (x::r);rw[<-q]at a⊢;have C:l≠[]:=by rw[q];simp
  clear q d;have s:l.length≠0:=by simpa using C
  rw[Lib.byteCells_length]at a;obtain⟨g,cap,c,rfl,H,t,I,u,y,f⟩:∃g cap c,v=.slice (some ⟨g,0,none⟩) l.length cap/\B<=g/\w.heap[g]? =some (.cells c 5 (0,0))/\l.length<=cap/\cap<=maxLen/\c.size=cap*1/\c.toList.take (l.length*1)=Lib.byteCells l:=by obtain⟨_,J⟩|⟨g,cap,c,m,r⟩:=a.2;exact absurd J s;exact⟨g,cap,c,m,r⟩
  have G:w.drew.cell? ⟨b,1,none⟩=some (.slice (some ⟨g,0,none⟩) l.length cap):=by have:w.drew.heap[b]? =some (.cells #[p,.slice (some ⟨g,0,none⟩) l.length cap] 153 (0,0)):=i;rw[Lib.cell_of_heap this];rfl
  have o:(Builtin.unsafeSliceData_ #[120] sG #[.slice (some ⟨g,0,none⟩) l.length cap]).run (Qs fs) w.drew=.ok (.pointer (some ⟨g,0,none⟩)) w.drew:=Lib.run_unsafeSliceData_row _ _ _ _ _ _ (by omega);have n:(Builtin.unsafeString_ #[203,3] 9 #[.pointer (some ⟨g,0,none⟩),.i l.length]).run (Qs fs) w.drew=.ok (.string ⟨l.toArray⟩) (w.drew.freeze ⟨g,0,none⟩ l.length):=by refine Lib.run_unsafeString_row w.drew 203 3 9 5 ((aP _ _ _).trans Tryz.underlying203) X.cellsByte g c.size (by have z:w.drew.heap[g]? =some (.cells c 5 (0,0)):=t;simp[World.shape?,z]) l C (by omega) (by unfold maxLen at u;omega) ?_;intro j x K;have:=a.cells (g:=g) rfl j (.int .u8 x.toNat) (by simp[Lib.byteCells,K]);exact this
  have E:Hid (Below b w (w.drew.freeze ⟨g,0,none⟩ l.length)):=Lib.below_freeze (Below.drew (Below.refl b w)) (p:=⟨g,0,none⟩) (by show b<=g;omega) _;have M:=jj t;clear t a y f;go_enter (n95 L),F5;go_wp2
  go_region_o
  all_goals (
   go_wp2;go_ret;refine⟨rfl,E.o,DX E.o λD A=>?_⟩;by_cases e:D=g
   .subst e
    exact .inr ⟨_,_,_,M.o⟩
   .exact .inl (iF w.drew ⟨g,0,none⟩ _ D e))
end Go.Proofs
namespace Go.Proofs
open Go.Tm Go.RowKit Go.Shelf
variable {fs:Array Func} (L:bT fs)
attribute [local go_sem] Oper.semAt_some
def Ry(v0 v1 v2:x6)(s:UV)(w:xv):Calls (Qs fs) 93 #[.agg #[v0,v1,v2],.string s] w λe w'=>e=.returned (.func (.func 132) #[] #[.pointer (some ⟨w.heap.size+1,0,none⟩),.pointer (some ⟨w.heap.size,0,none⟩)])/\w'=(w.alloc (.cells #[v0,v1,v2] 100)).alloc (.cells #[.string s] 9):=by have a:∀(fn:Fn) (first cap:WZ) (w:xv),(Instr.makeFunc fn first cap).run (Qs fs) w=.ok (.func fn first cap) w:=λ_ _ _ _=>rfl;go_enter (n93 L),Tryz.ntmps93;go_wp2;go_ret;exact⟨by simp,rfl⟩
def yV(x):Lib.strCells x=Lib.byteCells x.data.toList:=rfl
def AZ(a b):Lib.byteCells a++Lib.byteCells b=Lib.byteCells (a++b):=by unfold Lib.byteCells;rw[Yr]
def L4(a:List Pr2)(h:∀p∈a,1<=p.1.size/\p.1.size<=4/\p.2.size<=3)(s):(aX a s).length<=3*s.length:=tw a h _ s
def F6{l}{xs:List UV}(h:l<+:xs):(l.flatMap λx=>x.data.toList).length<=(xs.flatMap λx=>x.data.toList).length:=by obtain⟨t,rfl⟩:=h;rw[Yu,WS];omega
def sN{K:Nat->Prop}{v0 v1 v2:x6}{ls:List Pr2}(s:UV)(w:xv)(q:aB K 2 dO w v0 ls)(V:∀p∈ls,1<=p.1.size/\p.1.size<=4/\p.2.size<=3)(r:s.size<=1000):ac fs 53 #[.agg #[v0,v1,v2],.string s] w (.string (bs (aX ls s.data.toList))):=by
 have e93:=e93 L;have e94:=e94 L;have e95:=e95 L;have Th:=Th L;refine callsIn_wide.1 (?_:CallsIn Fence.wide 5 _ _ _ _ _);refine callsIn_of_wp_marks (n53 L) rfl trivial ?_ rfl;simp only[Tryz.ntmps53,WX,WA,WQ,Nat.reduceAdd,Nat.reduceSub,aaa,Array.replicate_zero,List.push_toArray,List.append_toArray,XU,Zk];have z:=λwx=>Ry L v0 v1 v2 s wx
 gi_wp2_with (refine⟨trivial,?_⟩;gi_at_call 93;refine(callsIn_wide.2 (z _)).mono ?_;rintro e w3 ⟨rfl,rfl⟩)
 clear z;obtain⟨N,A⟩:=ex (w.heap.size);rw[<-A];obtain⟨P,n⟩:=ex (w.alloc (.cells #[v0,v1,v2] 100));obtain⟨B,j⟩:=ex (P.alloc (.cells #[.pointer none,.slice none 0 0] 153));obtain⟨y,g⟩:=ex (B.alloc (.cells #[v0,v1,v2] 100));obtain⟨W0,d⟩:=ex (y.alloc (.cells #[.string s] 9));rw[<-n,<-j,<-g,<-d];have Q:P.heap.size=N+1:=by rw[n,A];simp
 have sb:B.heap.size=N+2:=by rw[j];simp[Q]
 have sc:y.heap.size=N+3:=by rw[g];simp[sb]
 have sd:W0.heap.size=N+4:=by rw[d];simp[sc]
 have X:Below N w W0:=by rw[d,g,j,n];exact((((Below.refl N w).alloc (by omega) _).alloc (by simp;omega) _).alloc (by simp;omega) _).alloc (by simp;omega) _
 have C:W0.heap[N+1]? =some (.cells #[.pointer none,.slice none 0 0] 153 (0,0)):=by (have f:B.heap[N+1]? =some (.cells #[.pointer none,.slice none 0 0] 153 (0,0)):=by rw[j,<-Q];exact World.alloc_heap_new P _);(have a:y.heap[N+1]? =B.heap[N+1]? :=by rw[g];exact Below.heap_alloc _ _ _ (by omega));(have Y:W0.heap[N+1]? =y.heap[N+1]? :=by rw[d];exact Below.heap_alloc _ _ _ (by omega));rw[Y,a,f]
 have E:W0.cell? ⟨N+2,0,none⟩=some v0:=by (have f:y.cell? ⟨N+2,0,none⟩=some v0:=by rw[g,<-sb];exact aC B _ 100 0 _ rfl);exact(dz (by rw[d];exact Below.heap_alloc _ _ _ (by omega))).trans f
 have u:W0.rowIs (N+3) 9 1 (λ_=>.string s):=by have h:=World.rowIs_alloc y #[.string s] 9 (λ_=>.string s) (λi hi=>by (have:i=0:=by simp at hi;omega);subst this;rfl);rw[sc,<-d]at h;exact h
 have v:aB (λb=>b<N) 2 dO W0 v0 ls:=by have h:=q.below;rw[<-A]at h;exact h.blocks λb t=>X.block b t
 have Z:=jj A;clear n j g d Q sb sc q A;refine AL rfl (by omega) (gf:=132) (lb:=#[.pointer (some ⟨N+1+1+1,0,none⟩),.pointer (some ⟨N+1+1,0,none⟩)]) rfl trivial Th (encs:=λx:UV=>#[.string x]) (λ_=>rfl) (N+3) (N+1) (by omega) (by omega) (eU ls s.data.toList)
  (λpre W=>iy False (N+1) (N+6) (Lib.byteCells (pre.flatMap λx=>x.data.toList)) W/\Below N w W) ?hI1 ?hI2 ?h0 ?hseq
  (λx=>{tmps:=#[.agg #[v0,v1,v2],.string s,.pointer (some ⟨N,0,none⟩),undef,.string ⟨#[]⟩,.pointer (some ⟨N+1,0,none⟩),.string x,.agg #[v0,v1,v2],.string s,.func (.func 132) #[] #[.pointer (some ⟨N+1+1+1,0,none⟩),.pointer (some ⟨N+1+1,0,none⟩)],.string x,undef,undef,undef],defers:=[]}) ?assign ?body ?done
 case hI1=>(rintro pre W l o o' hl ho R ⟨f,a⟩;refine⟨f.keep λk c e F G _=>?_,a.trans ⟨rfl,rfl,rfl,by simp,λb t=>World.putObj_heap_other (by omega)⟩⟩;have S:k≠l:=by rintro rfl;rw[G]at ho;cases ho;cases R);exact(World.putObj_heap_other S).trans G
 case hI2=>rintro pre W W' r ⟨f,a⟩;refine⟨f.keep λk c e F G aa=>(r.block k (WC.1 G).1 (by omega)).trans G,a.trans ⟨r.os,r.tape,r.output,r.size,λb t=>r.block b (by have:=a.size;have:=Z.o;omega) (by omega)⟩⟩
 case h0=>exact⟨⟨by omega,.pointer none,.slice none 0 0,.inl rfl,C,World.ownsRow_nil _ _ _ _,λ_=>.inr rfl⟩,X⟩
 case hseq=>intro l J W hW hJ hY h0;exact callsIn_wide.2 (OO L _ s (N+3) (N+2) (N+1) W0 (by omega) (by omega) (by omega) (by omega) (by omega) (λb t=>⟨by omega,by omega,by omega⟩) v u E (λp hp=>(V p hp).1) r l J W hW hJ hY h0)
 case assign=>intro l x W K O;(gi_wp2);exact O
 case body=>(rintro l pre x W ⟨T,m⟩ H ab;have I:(Lib.byteCells (pre.flatMap λx=>x.data.toList)).length+x.size<=140737488355328:=by (have f:=F6 H;rw[yI]at f;have a:=L4 ls V s.data.toList;rw[<-Lib.size_eq]at a;rw[Yu,WS]at f;rw[Lib.byteCells_length];have Y:([x].flatMap λx=>x.data.toList).length=x.size:=by rw[Xz,List.flatMap_nil,XJ];exact(Lib.size_eq x).symm);omega);(gi_wp2_with (refine⟨trivial,?_⟩;gi_at_call 94;refine(CallsIn.inRound l (callsIn_wide.2 (jP L (N+1) (N+6) _ x W T I (by omega)))).mono ?_;rintro e w2 ⟨rfl,f,a⟩));rw[yV,AZ]at f;exact⟨f,m.trans ⟨a.os,a.tape,a.output,a.size,λb t=>a.block b (by omega) (by omega)⟩⟩
 case done=>rintro D W hD ⟨T,m⟩ O;have M:=yU L (N+1) (N+6) _ W T (by have h:=(WC.1 O).1;omega);rw[yI]at M;dsimp only;(gi_wp2_with (refine⟨trivial,?_⟩;gi_at_call 95;refine(callsIn_wide.2 M).mono ?_;rintro e w2 ⟨rfl,f,a⟩));have U:=a D _ O;refine⟨by simp,.inl ⟨_,_,rfl,run_takeDeferred U,?_⟩⟩;refine⟨_,results_tmp rfl _ _ _,rfl,?_⟩;have t:Below N w w2:=m.trans (f.mono (by omega));rw[<-Z.o];exact t.trans ⟨rfl,rfl,rfl,by simp,λb t=>World.putObj_heap_other (by omega)⟩
end Go.Proofs
namespace Go.Proofs
open Go.Tm Go.RowKit Go.Shelf
variable {fs:Array Func} (L:bT fs)
def Tn(b n:Nat)(w:xv)(a:w.heap[b]? =some (.cells #[.pointer none,.slice none 0 0] 153 (0,0)))(r:n<=281474976710656):Calls (Qs fs) 180 #[.pointer (some ⟨b,0,none⟩),.i n] w λe w'=>e=.returned (.tuple #[])/\iy (0<n) b (b+1) [] w'/\Below b w w':=by
 have X:=nh fs;have s:b<w.heap.size:=(WC.1 a).1;by_cases t:n=0
 .subst t;have Rg:=Rg L;have f:Lays.n240 (Qs fs) vu:={(kI L).2.2 with}
  have c:=Any.Builder_copyCheck_fresh f X.toX72 b w (by rw[Lib.cell_of_heap a];rfl) (by simp[World.shape?,a];rfl) (Lib.frozen_of_heap a 0);have i:Calls (Qs fs) 134 #[.pointer (some ⟨b,0,none⟩)] w λe w'=>e=.returned (.tuple #[])/\w'.heap[b]? =some (.cells #[.pointer (some ⟨b,0,none⟩),.slice none 0 0] 153 (0,0))/\Below b w w':=by (refine c.mono ?_;rintro e w' ⟨rfl,rfl⟩;refine⟨rfl,?_,(Below.refl b w).setCell (p:=⟨b,0,none⟩) (Wv _) _⟩;have u:(w.heap.modify b λo=>match o with| .cells c e F=>.cells (c.setIfInBounds 0 (.pointer (some ⟨b,0,none⟩))) e F|o=>o)[b]? =some (.cells #[.pointer (some ⟨b,0,none⟩),.slice none 0 0] 153 (0,0)):=by rw[XB,a];simp);exact u
  clear c a;go_enter (n180 L),Tryz.ntmps180;go_wp2_with (go_at_call 134;refine i.mono ?_);clear i;rintro e w1 ⟨rfl,d,j⟩;have m:w1.cell? ⟨b,1,none⟩=some (.slice none 0 0):=by rw[Lib.cell_of_heap d];rfl
  have x:=jj d;have y:=jj j;clear d j;have D:w1.drew.cell? ⟨b,1,none⟩=some (.slice none 0 0):=m;have k:(Qs fs).follows .mixedOrders=true:=(kI L).1.mixed;clear m;go_wp2
  go_region_o
  all_goals (go_wp2;exact bodyPost_end (results_none rfl _ _ _) rfl ⟨rfl,⟨XK _,_,_,.inr rfl,x.o,World.ownsRow_nil _ _ _ _,λ_=>.inr rfl⟩,y.o.drew⟩)
 refine(Any.Builder_Grow_fresh (P:=Qs fs) (ρ:=vu) (kI L).2.2 X b b n w (Wv _) a (by omega) r).mono ?_;rintro e w' ⟨rfl,⟨_,v,z,q,A⟩,B⟩;refine⟨rfl,⟨XK _,_,v,.inr rfl,z,?_,λ_=>.inl (by omega)⟩,B⟩;refine⟨q.1,?_⟩;obtain h|⟨g,cap,l,k1,E,C⟩:=q.2;exact .inl h;refine .inr ⟨g,cap,l,k1,?_,C⟩;have:g≠b:=λe=>A (by rw[k1,e];rfl);omega
def iy.real{q b B bs w}(h:iy q b B bs w)(a:bs=[]->¬q):iy False b B bs w:=by obtain⟨c,p,v,d,f,g,i⟩:=h;exact⟨c,p,v,d,f,g,λe=>(i e).elim (λx=>absurd x (a e)) .inr⟩
def sO{p:Prop}(h:p):Hid p:=h
def Below.OP{b B:Nat}{w w':xv}(h:Stp B b w w')(a:b<B):Below b w w':=⟨h.os,h.tape,h.output,h.size,λk c=>h.block k (by omega) (by omega)⟩
def L5(s old new:UV)(m:Int)(w:xv)(hs:s.size<=100000)(R:w.cell? ⟨2,0,none⟩=some (.i m))(S:1<=old.size)(U:new.size<=100)(V:old≠new){K:Nat}(W:Lib.countB s old=K)(X:1<=K):ac fs 166 #[.string s,.string old,.string new,.i (-1)] w (.string ⟨(Lib.replaceK old.data.toList new.data.toList K s.data.toList).toArray⟩):=by
 have Rl:=Rl L;have UO:=UO L;have UP:=UP L;have e94:=e94 L;have e95:=e95 L;have Y:=Any.strings_Count_any (P:=Qs fs) (ρ:=vu) (kI L).2.1 s old m w (by omega) R S;have f:=Lib.countB_mul_le old S s.size s (Wv _);rw[W]at Y f;have B:Lib.count s.data.toList old.data.toList=K:=W;have ay:(old.toList==new.toList)=false:=(Lib.bytes_beq_false_iff old new).2 V;have aK:((K:Int)==0)=false:=W5.2 (by omega);have b:s.data.toList.length=s.size:=(Lib.size_eq s).symm;have a:old.data.toList.length=old.size:=(Lib.size_eq old).symm;have Z:2<w.heap.size:=World.block_lt_of_cell? _ _ R;have aa:K<=s.size:=Ww (Nat.le_mul_of_pos_right K (by omega)) f;have ab:s.size+K*new.size<=140737488355328:=by have:K*new.size<=s.size*100:=Nat.mul_le_mul aa U;omega
 have v:=Lib.grow_arg s.size K new.size old.size X f ab;have k:K<=Lib.count (s.data.toList.drop 0) old.data.toList:=by rw[Xl,B];exact Wv _
 obtain⟨T,hT⟩:=ex (s.size+K*new.size-K*old.size);rw[<-hT]at v;have aM:T<=140737488355328:=by omega
 have C:T+K*old.size=s.size+K*new.size:=by omega
 have aR:decide (0<old.size)=true:=WE (by omega);have D:=λwr (h:jg w wr)=>(h.cell (p:=⟨2,0,none⟩) Z).trans R;have ad:=λ(t:UV) wr (ht:t.size<=s.size) (h:jg w wr)=>Any.strings_Index (P:=Qs fs) (ρ:=vu) {(kI L).2.1 with} t old m wr (by omega) (D wr h);have af:=sO C;clear W B R D hT C;go_enter (n166 L),Tryz.ntmps166;go_wp2_with (go_at_call 179;refine Y.mono ?_;rintro e w' ⟨rfl,E⟩;rw[E];clear E);clear Y;rw[v];refine(Tn L w.heap.size T _ (heap_alloc_new w _) (by omega)).mono ?_;rintro e w1 ⟨rfl,F,x⟩;have H1:=sO F;have G:w.heap.size+1<=w1.heap.size:=by have:=x.size;simpa using this
 have ag:=sO (((Below.refl w.heap.size w).alloc (Wv _) _).trans x);clear F x v;go_wp2_with fail
 go_loopg [11,53] K (λg ah ak wx=>∃(i start:Nat) (acc:List UInt8),ak=.i i/\ah=.i start/\i+g=K/\start<=s.size/\
  Hid (iy (0<T) w.heap.size (w.heap.size+1) (Lib.byteCells acc) wx)/\Hid (jg w wx/\w.heap.size+1<=wx.heap.size)/\Hid (acc++Lib.replaceK old.data.toList new.data.toList g (s.data.toList.drop start)=Lib.replaceK old.data.toList new.data.toList K s.data.toList)/\
  g<=Lib.count (s.data.toList.drop start) old.data.toList/\acc.length+(s.size-start)+g*new.size=T+g*old.size/\g*old.size<=s.size-start)
 case atStart=>exact⟨0,0,[],rfl,rfl,by omega,WB _,H1,sO ⟨ag.o,G⟩,sO (by simp),k,by have:=af.o;simp;omega,by omega⟩
 case round=>
  obtain⟨i,start,acc,rfl,rfl,a1,a6,HB,HW,HR,a7,H,a8⟩:=hrel;have ba:w.heap.size<=wr.heap.size:=HW.o.1.size;have c1:(0:Int)<=(start:Int):=by omega
  have c2:(start:Int)<=(s.size:Int):=by omega
  cases gk with
  |zero=>(have al:¬((i:Int)<(K:Int)):=by omega);(go_wp2_with fail);(refine(jP L w.heap.size (w.heap.size+1) _ _ wr HB.o (by rw[Lib.byteCells_length,Yt];simp at H;omega) HW.o.2).mono ?_;rintro e w3 ⟨rfl,y,d⟩;rw[Lib.strCells_eq,Lib.extract_to_end,<-Lib.byteCells_append]at y;have o:acc++s.data.toList.drop start=Lib.replaceK old.data.toList new.data.toList K s.data.toList:=HR.o;have z:(acc++s.data.toList.drop start).length=T:=by rw[WS,WJ,b];simp at H;omega);rw[o]at y z;have H3:=sO (y.real λe h0=>by have:=W8 List.length e;rw[Lib.byteCells_length,z]at this;simp at this;omega);have n:=sO (HW.o.1.trans (Below.OP d (XK _)));have c:w.heap.size<=w3.heap.size:=n.o.size;clear y d o z;go_wp2_with fail;refine(yU L w.heap.size (w.heap.size+1) _ w3 H3.o c).mono ?_;rintro e w5 ⟨rfl,I,_⟩;have an:=sO (n.o.trans I);clear I;go_wp2;go_ret;exact⟨rfl,an.o⟩
  |succ g=>(have al:(i:Int)<(K:Int):=by omega);(obtain⟨j,J⟩:=Lib.index_of_count (s:=s.data.toList.drop start) (old:=old.data.toList) (by omega);have ao:j+old.size<=s.size-start:=by have:=Lib.index_room (s.data.toList.drop start) old.data.toList (by rw[J];omega);rw[J,WJ,b,a]at this;omega);(have bb:(g+1)*new.size=g*new.size+new.size:=X6 _ _;have bk:(g+1)*old.size=g*old.size+old.size:=X6 _ _;have c3:(0:Int)<=(start:Int)+(j:Int):=by omega);(have c4:(start:Int)+(j:Int)<=(s.size:Int):=by omega);(have c5:(start:Int)<=(start:Int)+(j:Int):=by omega);(have l:Lib.byteCells acc++Lib.strCells (s.extract start (start+j))++Lib.strCells new=Lib.byteCells (acc++(s.data.toList.drop start).take j++new.data.toList):=by rw[Lib.strCells_eq,Lib.strCells_eq,Lib.extract_data,aay,<-Lib.byteCells_append,<-Lib.byteCells_append]);(have r:(acc++(s.data.toList.drop start).take j++new.data.toList)++Lib.replaceK old.data.toList new.data.toList g (s.data.toList.drop (start+j+old.size))=Lib.replaceK old.data.toList new.data.toList K s.data.toList:=by rw[<-HR.o,Lib.replaceK_hit _ _ g _ j J,Zc,a];simp only[XR,Ys]);(have u:g<=Lib.count (s.data.toList.drop (start+j+old.size)) old.data.toList:=by have:=Lib.count_hit (s:=s.data.toList.drop start) (sub:=old.data.toList) (i:=j) (λe=>by rw[e]at a;simp at a;omega) J;rw[Zc,a]at this;rw[show start+j+old.size=start+(j+old.size) by omega];omega);(have M:=Lib.countB_mul_le old S _ (s.extract (start+j+old.size) s.size) (Wv _);have ar:((s.data.toList.drop start).take j).length=j:=by rw[Xy,WJ,b];omega);(have N:g*old.size<=s.size-(start+j+old.size):=by (have e1:Lib.countB (s.extract (start+j+old.size) s.size) old=Lib.count (s.data.toList.drop (start+j+old.size)) old.data.toList:=by unfold Lib.countB;rw[Lib.extract_to_end]);rw[e1,Yt]at M;have:=ZG old.size u;omega);have Hn:=sO l;have O:=sO r;have q:=ad (s.extract start s.size) wr (by rw[Yt];omega) HW.o.1;rw[Lib.extract_to_end,J]at q;clear l r HR M;go_wp2_with (go_at_call 181;refine q.mono ?_;rintro e w' ⟨rfl,E⟩;rw[E];clear E);refine(jP L w.heap.size (w.heap.size+1) _ (s.extract start (start+j)) wr HB.o (by rw[Lib.byteCells_length,Yt];omega) HW.o.2).mono ?_;rintro e w3 ⟨rfl,y,d⟩;have c:w.heap.size+1<=w3.heap.size:=Ww HW.o.2 d.size;have H3:=sO y;have n:=sO (Below.OP d (XK _));clear y d;go_wp2_with fail;refine(jP L w.heap.size (w.heap.size+1) _ new w3 H3.o (by rw[WS,Lib.byteCells_length,Lib.strCells_length,Yt];omega) c).mono ?_;rintro e w4 ⟨rfl,h4,A⟩;rw[Hn.o]at h4;have H4:=sO h4;have Q:w.heap.size+1<=w4.heap.size:=Ww c A.size;have ax:=sO ((HW.o.1.trans n.o).trans (Below.OP A (XK _)));clear h4 A;go_wp2;(go_roundg g);(case measure=>omega);case rel=>refine⟨i+1,start+j+old.size,_,by first|rfl|(simp;unfold wrap64;omega),by first|rfl|simp|(simp;unfold wrap64;omega),by omega,by omega,H4,sO ⟨ax.o,Q⟩,O,u,?_,N⟩;simp only[WS,ar,<-Lib.size_eq];omega
def Jo(s old new:UV)(m:Int)(w:xv)(i:s.size<=100000)(d:w.cell? ⟨2,0,none⟩=some (.i m))(f:1<=old.size)(h:old=new\/Lib.countB s old=0):ap fs 166 #[.string s,.string old,.string new,.i (-1)] w (.string s):=by
 have Rl:=Rl L;by_cases b:old=new
 .have a:(old.toList==new.toList)=true:=(Lib.bytes_beq_iff old new).2 b;go_enter (n166 L),Tryz.ntmps166;go_wp2;go_ret;exact⟨rfl,rfl⟩
 have c:=Any.strings_Count_any (P:=Qs fs) (ρ:=vu) (kI L).2.1 s old m w (by omega) d f;rw[h.resolve_left b]at c;have a:(old.toList==new.toList)=false:=(Lib.bytes_beq_false_iff old new).2 b;go_enter (n166 L),Tryz.ntmps166;go_wp2_with (go_at_call 179;refine c.mono ?_;rintro e w' ⟨rfl,g⟩;rw[g]);go_ret;exact⟨rfl,rfl⟩
theorem oI(p)(a:p.1.data.toList≠[])(b:p.1.data.toList=p.2.data.toList):∀(n) (s),s.length<=n->cE p s=s
 |_,[],_=>oD p
 |0,c::s,h=>by simp at h
 |n+1,c::s,h=>by
  cases d:p.1.data.toList.isPrefixOf (c::s)with
  |true=>
   rw[oE d a,oI p a b n _ (by rw[WJ];have:0<p.1.data.toList.length:=XQ.2 a;omega),<-b]
   obtain⟨t,e⟩:=X4.1 d;rw[<-e,List.drop_left]
  |false=>rw[mZ d,oI p a b n s (by simp only[WA]at h;omega)]
theorem jG(p)(b:p.1.data.toList≠[]):∀(n) (s:Bs),s.length<=n->Lib.replaceK p.1.data.toList p.2.data.toList (Lib.count s p.1.data.toList) s=cE p s
 |n,[],_=>by
  have a:Lib.index [] p.1.data.toList= -1:=by unfold Lib.index;rw[Wt (by simpa using b)]
  rw[Lib.count_miss a,oD,Lib.replaceK]
 |0,c::s,h=>by simp at h
 |n+1,c::s,h=>by
  simp only[WA]at h;have f:0<p.1.data.toList.length:=XQ.2 b;cases d:p.1.data.toList.isPrefixOf (c::s)with
  |true=>
   have a:Lib.index (c::s) p.1.data.toList=((0:Nat):Int):=by unfold Lib.index;rw[Wu d];rfl
   rw[Lib.count_hit b a,YH 1,Lib.replaceK_hit _ _ _ _ 0 a,oE d b,WH,Xf,XU,jG p b n _ (by rw[WJ,WA];omega)]
  |false=>
   rw[mZ d,<-jG p b n s (by omega)];have k:=Lib.index_ge s p.1.data.toList;by_cases g:Lib.index s p.1.data.toList= -1
   .have a:Lib.index (c::s) p.1.data.toList= -1:=by unfold Lib.index;rw[Wt (by rw[d];simp),g];rfl
    rw[Lib.count_miss a,Lib.count_miss g,Lib.replaceK,Lib.replaceK]
   .obtain⟨i,a⟩:∃i:Nat,Lib.index s p.1.data.toList=i:=⟨(Lib.index s p.1.data.toList).toNat,by omega⟩
    have e:Lib.index (c::s) p.1.data.toList=((i+1:Nat):Int):=by unfold Lib.index;rw[Wt (by rw[d];simp),Wt (by rw[a,Xw];omega),a];omega
    have j:(c::s).drop (i+1+p.1.data.toList.length)=s.drop (i+p.1.data.toList.length):=by rw[show i+1+p.1.data.toList.length=(i+p.1.data.toList.length)+1 by omega,Xn]
    rw[Lib.count_hit b e,Lib.count_hit b a,j,YH 1,Lib.replaceK_hit _ _ _ _ _ e,Lib.replaceK_hit _ _ _ _ _ a,j,Xi];simp
def hZ(w:xv):Prop:=∃m,w.cell? ⟨2,0,none⟩=some (.i m)
def hZ.stays{w w'}(h:hZ w)(a:ae w w'):hZ w':=h.elim λm h=>⟨m,a.cell h⟩
def DY(s:UV)(p:Pr2)(w:xv)(c:s.size<=100000)(a:hZ w)(d:1<=p.1.size)(i:p.2.size<=100):Calls (Qs fs) 139 #[.string s,.string p.1,.string p.2] w λe w'=>e=.returned (.string (bs (cE p s.data.toList)))/\jg w w':=by (obtain⟨m,a⟩:=a;have f:p.1.data.toList≠[]:=λh=>by have:=Lib.size_eq p.1;rw[h,WQ]at this;omega);(have UK:=UK L;have q:ac fs 166 #[.string s,.string p.1,.string p.2,.i (-1)] w (.string (bs (cE p s.data.toList))):=by have b:=jG p f _ s.data.toList (Wv _);by_cases he:p.1=p.2\/Lib.countB s p.1=0;refine(Jo L s p.1 p.2 m w c a d he).mono ?_;(rintro e w' ⟨rfl,rfl⟩;have e1:cE p s.data.toList=s.data.toList:=by obtain he|he:=he;exact oI p f (by rw[he]) _ _ (Wv _);rw[show Lib.count s.data.toList p.1.data.toList=0 from he]at b;rw[<-b,Lib.replaceK]);rw[e1];exact⟨rfl,Below.refl _ _⟩;have:=L5 L s p.1 p.2 m w c a d i (λe=>he (.inl e)) rfl (Z7 λe=>he (.inr e));rw[show Lib.countB s p.1=Lib.count s.data.toList p.1.data.toList from rfl,b]at this;exact this);obtain⟨z,g⟩:=ex (bs (cE p s.data.toList));rw[<-g]at q⊢;clear g a;go_enter (n139 L),Tryz.ntmps139;go_wp2_with (go_at_call 166;refine q.mono ?_;clear q;rintro e w2 ⟨rfl,j⟩);go_ret;exact⟨rfl,j⟩
def OQ(s:UV)(p:Pr2)(a:Nat)(w:xv)(d:s.size<=100000)(b:hZ w)(f:1<=p.1.size)(g:p.2.size<=100)(h:w.cell? ⟨a,0,none⟩=some (.string p.1))(i:w.cell? ⟨a,1,none⟩=some (.string p.2)):Calls (Qs fs) 138 #[.string s,.pointer (some ⟨a,0,none⟩)] w λe w'=>e=.returned (.string (bs (cE p s.data.toList)))/\jg w w':=by have UD:=UD L;have q:=DY L s p w d b f g;obtain⟨z,c⟩:=ex (bs (cE p s.data.toList));rw[<-c]at q⊢;clear c b;go_enter (n138 L),Tryz.ntmps138;go_wp2_with (go_at_call 139;refine q.mono ?_;clear q;rintro e w2 ⟨rfl,j⟩);go_ret;exact⟨rfl,j⟩
end Go.Proofs
namespace Go.Proofs
def kJ(c:Case)(k:Nat):List Hit:=((List.range k).filterMap (en c)).foldl (λl h=>fA c h l) []
def pM(c k)(h:en c k=none):kJ c (k+1)=kJ c k:=by unfold kJ;rw[Ze,List.filterMap_append,ZB];simp[h]
def pN(c k x)(h:en c k=some x):kJ c (k+1)=fA c x (kJ c k):=by unfold kJ;rw[Ze,List.filterMap_append,ZB];simp[h]
theorem jQ(c h):∀l,(fA c h l).length=l.length+1
 | []=>rfl
 |x::l=>by
  unfold fA;split
  .rw[WA,jQ c h l,WA]
  .rfl
theorem sP(c h):∀l x,x∈fA c h l->x=h\/x∈l
 | [],x,a=>.inl (Ya.1 a)
 |y::l,x,a=>by
  unfold fA at a;split at a
  .obtain e|e:=WO.1 a
   .exact .inr (e▸Z5 ..)
   .obtain e'|e':=sP c h l x e
    .exact .inl e'
    .exact .inr (ZD _ e')
  .obtain e|e:=WO.1 a
   .exact .inl e
   .exact .inr e
theorem rM(c):∀k,(kJ c k).length<=k
 |0=>Wv _
 |k+1=>by
  have a:=rM c k;cases h:en c k with
  |none=>rw[pM c k h];omega
  |some x=>rw[pN c k x h,jQ];omega
theorem tM{c m kin}:∀(l) (j r) (v),(∀i,l[i]? =c.rules[j+i]?)->cQ c m kin j l=some (r,v)->∃h,v=bn c.table c.rules[r].kind c.new m
 | [],j,r,v,_,h=>by cases h
 |x::l,j,r,v,b,h=>by
  unfold cQ at h;split at h
  .cases h
   have a:=b 0;rw[XE,aaA]at a;have d:j<c.rules.length:=(Xk.1 a.symm).1;rw[WN d]at a;cases a;exact⟨d,rfl⟩
  .refine tM l (j+1) r v (λi=>?_) h
   have:=b (i+1);rw[List.getElem?_cons_succ]at this;rw[this]
   congr 1
   omega
def xc(c k)(d:k<c.marks.length)(e:k<c.kin.length):(oH c k= -1/\en c k=none)\/∃r,∃h:r<c.rules.length,oH c k=r/\en c k=some ⟨k,r,bn c.table c.rules[r].kind c.new c.marks[k]⟩:=by have a:=DU c k d e;cases b:cQ c c.marks[k] c.kin[k] 0 c.rules with|none=>rw[b]at a;exact .inl ⟨by unfold oH;rw[a];rfl,a⟩|some x=>obtain⟨r,v⟩:=x;obtain⟨h,rfl⟩:=tM c.rules 0 r v (λi=>by rw[WH]) b;rw[b]at a;exact .inr ⟨r,h,by unfold oH;rw[a];rfl,a⟩
theorem oJ(c)(b:c.kin.length=c.marks.length):∀k,k<=c.marks.length->∀x∈kJ c k,∃(i r:Nat) (v:Int),i<c.marks.length/\r<c.rules.length/\-1000000<=0/\x=⟨i,r,v⟩
 |0,_,x,a=>by cases a
 |k+1,f,x,a=>by
  obtain⟨_,h⟩|⟨r,d,_,h⟩:=xc c k (by omega) (by omega)
  .rw[pM c k h]at a
   exact oJ c b k (by omega) x a
  .rw[pN c k _ h]at a
   obtain rfl|e:=sP c _ _ _ a
   .exact⟨k,r,_,by omega,d,by decide,rfl⟩
   .exact oJ c b k (by omega) x e
def F7(c h l k)(b:k<=l.length)(d:∀i (a:i<l.length),i<k->aV c l[i] h=true)(e:∀a,aV c l[k] h=false):fA c h l=l.take k++h::l.drop k:=by
 induction l generalizing k with
 |nil=>cases k with
  |zero=>rfl
  |succ k=>simp at b
 |cons x l g=>
  cases k with
  |zero=>have:=e (YF _);simp only[YW]at this;unfold fA;rw[this];rfl
  |succ k=>
   have f:=d 0 (YF _) (YF _);simp only[YW]at f;unfold fA;rw[f,Wu rfl,g k (by simpa using b) (λi a j=>?_) λa=>?_]
   .rfl
   .have:=d (i+1) (by simpa using a) (by omega)
    simpa using this
   .have:=e (by simpa using a)
    simpa using this
def bI(l:List Hit):List Go.Value:=l.flatMap λx=>[.i x.mark,.i x.di,.i x.level]
def jh(l):(bI l).length=l.length*3:=by induction l with|nil=>rfl|cons x l a=>unfold bI at a⊢;rw[Xz,WS,a,WA];simp only[WA,WQ];omega
def DZ(a b):bI (a++b)=bI a++bI b:=by unfold bI;rw[Yu]
def vv(l):∀u∈bI l,∃n,u=.i n:=by intro u a;unfold bI at a;obtain⟨x,_,b⟩:=YX.1 a;simp only[WO,WY,W7]at b;rcases b with e|e|e<;>exact⟨_,e⟩
def F8(l k)(a:k<l.length):(bI l)[k*3]? =some (.i l[k].mark)/\(bI l)[k*3+1]? =some (.i l[k].di)/\(bI l)[k*3+2]? =some (.i l[k].level):=by induction l generalizing k with|nil=>cases a|cons x l b=>cases k with|zero=>exact⟨rfl,rfl,rfl⟩|succ k=>(have h:=b k (by simpa using a);have e:bI (x::l)=[.i x.mark,.i x.di,.i x.level]++bI l:=rfl;rw[e];have e3:∀j,([.i x.mark,.i x.di,.i x.level]++bI l:List Go.Value)[(k+1)*3+j]? =(bI l)[k*3+j]? :=λj=>by rw[Zg (by simp;omega)];congr 1;simp;omega);exact⟨(e3 0).trans h.1,(e3 1).trans h.2.1,(e3 2).trans h.2.2⟩
def Jp(l k):bI (l.drop k)=(bI l).drop (k*3):=by induction l generalizing k with|nil=>simp[bI]|cons x l a=>cases k with|zero=>rfl|succ k=>have e:bI (x::l)=.i x.mark:: .i x.di:: .i x.level::bI l:=rfl;rw[Xn,a,e,show(k+1)*3=k*3+1+1+1 by omega,Xn,Xn,Xn]
def Jq(l k):bI (l.take k)=(bI l).take (k*3):=by induction l generalizing k with|nil=>simp[bI]|cons x l a=>cases k with|zero=>simp[bI]|succ k=>have e:∀l,bI (x::l)=.i x.mark:: .i x.di:: .i x.level::bI l:=λ_=>rfl;rw[Xi,e,a,e,show(k+1)*3=k*3+1+1+1 by omega,Xi,Xi,Xi]
def oN(c a b):aV c a b=true↔a.di<b.di\/(a.di=b.di/\(b.level<a.level\/(a.level=b.level/\(iM c a.mark<iM c b.mark\/(iM c a.mark=iM c b.mark/\a.mark<b.mark))))):=by unfold aV;generalize iM c a.mark=x;generalize iM c b.mark=y;by_cases d:a.di=b.di;rw[Wt (λh=>h d)];by_cases e:a.level=b.level;rw[Wt (λh=>h e)];by_cases f:x=y;rw[Wt (λh=>h f)];simp only[WR];omega;rw[Wu f];simp only[WR];omega;rw[Wu e];simp only[WR];omega;rw[Wu d];simp only[WR];omega
def qY(c a b):aV c a b=false↔¬(a.di<b.di\/(a.di=b.di/\(b.level<a.level\/(a.level=b.level/\(iM c a.mark<iM c b.mark\/(iM c a.mark=iM c b.mark/\a.mark<b.mark)))))):=by rw[<-oN];simp
def Gq(c a):aV c a a=false:=by rw[qY];omega
def Ef{c a b}(h:aV c a b=true):aV c b a=false:=by rw[oN]at h;rw[qY];omega
def before_trans{c a b d}(h:aV c a b=true)(k:aV c b d=true):aV c a d=true:=by rw[oN]at*;omega
def rQ{c a b d}(h:aV c a b=false)(k:aV c b d=false):aV c a d=false:=by rw[qY]at*;omega
def Cj{c a b}(h:aV c a b=false)(k:aV c b a=false):a=b:=by (rw[qY]at*;have d:a.di=b.di:=by omega);(have e:a.level=b.level:=by omega);(have f:a.mark=b.mark:=by omega);cases a;cases b;simp_all
def mL(c:Case)(l:List Hit):Prop:=l.Pairwise λx y=>aV c y x=false
theorem rR(c h):∀l,mL c l->mL c (fA c h l)
 | [],_=>by simp[fA,mL]
 |x::xs,d=>by
  have a:=Zn.1 d;unfold fA;split
  .rename_i b
   refine Zn.2 ⟨λy hy=>?_,rR c h xs a.2⟩;obtain rfl|hy:=sP c h xs y hy
   .exact Ef b
   .exact a.1 y hy
  .rename_i b
   have b:aV c x h=false:=by simpa using b
   refine Zn.2 ⟨λy hy=>?_,d⟩;obtain rfl|hy:=WO.1 hy
   .exact b
   .exact rQ (a.1 y hy) b
theorem xe(c h):∀l,(fA c h l).Perm (h::l)
 | []=>.refl _
 |x::xs=>by
  unfold fA;split
  .exact((xe c h xs).cons x).trans (.swap h x xs)
  .exact .refl _
theorem Eg(c):∀(xs acc:List Hit),mL c acc->mL c (xs.foldl (λl h=>fA c h l) acc)/\(xs.foldl (λl h=>fA c h l) acc).Perm (xs++acc)
 | [],acc,a=>⟨a,.refl _⟩
 |x::xs,acc,a=>by obtain⟨b,d⟩:=Eg c xs (fA c x acc) (rR c x acc a);refine⟨b,d.trans ?_⟩;exact((List.perm_append_left_iff xs).2 (xe c x acc)).trans (List.perm_middle)
def pR(c):mL c (aA c):=(Eg c _ [] List.Pairwise.nil).1
def dN(c):(aA c).Perm ((List.range c.marks.length).filterMap (en c)):=by have h:=(Eg c ((List.range c.marks.length).filterMap (en c)) [] List.Pairwise.nil).2;rw[XJ]at h;exact h
def A5{c l m}(d:mL c l)(e:mL c m)(h:l.Perm m):l=m:=List.Perm.eq_of_pairwise (le:=λx y=>aV c y x=false) (λa b _ _ f g=>Cj g f) d e h
def dY:Table where
 az:=[(⟨#[207,129]⟩,⟨#[114]⟩),(⟨#[206,191]⟩,⟨#[111]⟩),(⟨#[206,182]⟩,⟨#[122]⟩),(⟨#[206,177]⟩,⟨#[97]⟩),(⟨#[206,178]⟩,⟨#[118]⟩)]
 aI:=[⟨⟨#[105,116]⟩,[(⟨#[122]⟩,⟨#[115]⟩),(⟨#[104]⟩,⟨#[]⟩)]⟩]
 bG:=[[⟨#[114,111,122,97]⟩,⟨#[114,111,115,101]⟩]]
def xF:Mark:=⟨⟨#[110,111,118,97]⟩,⟨#[207,129,206,191,206,182,206,177]⟩,[],9,false⟩
def tk:Mark:=⟨⟨#[97,108,98,97]⟩,⟨#[114,111,115,97]⟩,[],1,false⟩
def VJ:Mark:=⟨⟨#[98,101,108,97]⟩,⟨#[114,111,115,101]⟩,[],3,false⟩
def rF:Mark:=⟨⟨#[99,111,114,97]⟩,⟨#[97,115,111,114]⟩,[],2,false⟩
def T3:Mark:=⟨⟨#[100,111,114,97]⟩,⟨#[114,104,111,115,97]⟩,[],9,false⟩
def exC:Case where
 table:=dY
 rules:=[⟨1,90,3,1⟩,⟨2,100,5,2⟩,⟨3,70,6,6⟩]
 new:=xF
 marks:=[tk,VJ,rF,T3]
 kin:=[4,5,3,9]
def exA:Mark:=⟨⟨#[97]⟩,⟨#[]⟩,[101,203],0,false⟩
def exB:Mark:=⟨⟨#[98]⟩,⟨#[]⟩,[101,204,305],0,false⟩
def od:du dY=0:=by decide+kernel
def As:bO exC=0:=by decide+kernel
def SL:aX dY.az [207,129,206,191,206,182,206,177]=[114,111,122,97]:=by decide+kernel
def QB:bS dY 0 [114,104,111,115,97]=[114,111,115,97]:=by decide+kernel
def Ny:bn dY 0 xF tk=75:=by decide+kernel
def Nz:bn dY 3 xF rF=75:=by decide+kernel
def NA:bn dY 5 exA exB=60:=by decide+kernel
def oe:bL exA=0/\bL exB=0/\bL xF=0/\bL tk=0/\bL rF=0:=by decide+kernel
def NB:aA exC=[⟨0,0,100⟩,⟨1,1,100⟩]:=by decide+kernel
def NC:exC.rules.map (fK exC rF 3)=[⟨0,90,0⟩,⟨0,100,2⟩,⟨0,0,3⟩]:=by decide+kernel
def ND:exC.rules.length=3/\(exC.rules.map (fK exC T3 9))[0]? =some ⟨1,0,0⟩:=by decide+kernel
def QC:kQ [114,111,122,97] [114,111,115,101]=[(2,2,115),(3,2,101)]:=by unfold kQ;rw[bj,Wt (by decide+kernel),Wt (by decide+kernel),Wt (by decide+kernel),Wt (by decide)];rw[bj,Wt (by decide+kernel),Wt (by decide+kernel),Wt (by decide+kernel),Wt (by decide)];rw[bj,Wt (by decide+kernel),Wt (by decide+kernel),Wt (by decide+kernel),Wu (by decide)];rw[bj,Wt (by decide+kernel),Wt (by decide+kernel),Wt (by decide+kernel),Wu (by decide)];rw[bj];rfl
def NF:kQ [97,98] [98,97]=[(0,0,98),(1,1,0)]:=by unfold kQ;rw[bj,Wt (by decide+kernel),Wu (by decide+kernel)];rw[bj,Wt (by decide+kernel),Wt (by decide+kernel),Wt (by decide+kernel),Wt (by decide)];rw[bj,bj];rfl
def wM:OkT dY:=by constructor;simp[dY];decide;simp[dY];intro x a p b;simp only[dY,WO,WY,W7]at a;subst a;simp only[WO,WY,W7]at b;rcases b with rfl|rfl<;>decide;simp[dY];simp[dY];simp[dY]
def xG:OkC exC:=by constructor;exact wM;constructor<;>simp[exC,xF]<;>decide;intro m a;(simp only[exC,WO,WY,W7]at a;rcases a with rfl|rfl|rfl|rfl<;>(constructor<;>simp[tk,VJ,rF,T3]<;>decide));decide;decide;decide;simp[exC];simp[exC]
end Go.Proofs

import Derived.Deep.QuietTactic
import Derived.OwnWalkIn
import Derived.TacticsInMore
import Derived.LoopNIn
import Derived.LoopIn
import Derived.WalkMore
import Derived.Shelf.Strings.Builder1
import Derived.Shelf.Strings.Replace
import Derived.RangeFuncLeaves
import Derived.Test.YtaglpcmhopjebaaGreatDoorT22
set_option linter.all false
set_option maxRecDepth 100000
set_option maxHeartbeats 20000000
namespace Go.RowKit
def Below.fM{B:Nat}{a w:World}(h:Below B a w)(n:Nat):Below B a (w.drewN n):=⟨h.os,h.tape,h.output,h.size,h.block⟩
end Go.RowKit
namespace Go.Proofs
open Go.Tm Go.RowKit
variable {fs:Array Func} (L:bQ fs)
def bH.boxed{K w sc c}(h:bH K w sc c):∃v0 v1 v2 b d e f g i j a,sc=#[v0,v1,v2,b,d,e,f,g,i,j,a]:=by obtain⟨v0,v1,v2,k,l,m,n,rfl,_⟩:=h;exact⟨_,_,_,_,_,_,_,_,_,_,_,rfl⟩
def mL(c:Case)(i:Nat):Int:=(gZ c i).elim (-1) (·.dY)
def qZ(c m kin k)(a:k<c.rules.length):ey c m kin k (c.rules.drop k)=if lU c m kin c.rules[k]=⟨0,0,0⟩then some (k,aS c.table c.rules[k].kind c.new m)else ey c m kin (k+1) (c.rules.drop (k+1)):=by rw[UW a];rfl
def AA(c i)(a:i<c.marks.length)(b:i<c.kin.length):gZ c i=(ey c c.marks[i] c.kin[i] 0 c.rules).map λx=>⟨i,x.1,x.2⟩:=by unfold gZ;rw[TA a,TA b]
def CN{c:Case}{i:Nat}{p:Option (Nat×Int)}{k:Nat}{v:Int}(h:gZ c i=p.map λx=>⟨i,x.1,x.2⟩)(a:p=some (k,v)):mL c i=k:=by unfold mL;rw[h,a];rfl
def CO{c:Case}{i:Nat}{p:Option (Nat×Int)}(h:gZ c i=p.map λx=>⟨i,x.1,x.2⟩)(a:p=none):mL c i= -1:=by unfold mL;rw[h,a];rfl
def PH{K:Nat->Prop}{sc:Array Value}{c:Case}(i:Nat)(w:World)(G:bH K w sc c)(H:OkC c)(B:i<c.marks.length):Calls (Qs fs) 130 #[.agg sc,.int .i64 i] w λe w'=>e=.returned (.int .i64 (mL c i))/\Below w.heap.size w w':=by
 have e85:=e85 L;have l:i<c.kin.length:=by rw[H.PF];exact B
 have m:=AA c i B l;have u:=λk (I:k<c.rules.length) x (C:ae w x)=>Oc L i k x (G.stays C) H B I l;obtain⟨v0,v1,v2,vr,J,M,O,rfl,U,n,V,W,D⟩:=G;obtain⟨o,P,rfl,lr,X,_,Y⟩:=n;obtain⟨w1,g⟩:=ex (w.alloc (.cells #[v0,v1,v2,.slice o c.rules.length P,.string c.new.name,.string c.new.word,J,.int .i64 c.new.day,.bool c.new.known,M,O] 60));have y:ae w w1:=by rw[g];exact ae.alloc _ _
 have z:Below w.heap.size w w1:=by rw[g];exact aK _ _
 have ct:∀i v,(#[v0,v1,v2,.slice o c.rules.length P,.string c.new.name,.string c.new.word,J,.int .i64 c.new.day,.bool c.new.known,M,O]:Array Value)[i]? =some v->w1.cell? ⟨w.heap.size,i,none⟩=some v:=λi v h=>by rw[g];exact az w _ 60 i v h
 obtain⟨N,E⟩:=ex (w.heap.size);have b:=λx (C:ae w1 x) i v h=>C.cell (ct i v h);rw[<-E]at b;clear U V W D Y;go_enter (n130 L),Tryz.ntmps130;go_wp2;rw[<-g,<-E];clear g E ct;go_loopw [5] (λs wr=>∃k:Nat,k<=c.rules.length/\s=.int .i64 k/\ae w1 wr/\Below w.heap.size w wr/\ey c c.marks[i] c.kin[i] 0 c.rules=ey c c.marks[i] c.kin[i] k (c.rules.drop k)) (λs _=>c.rules.length-(intOf s).toNat);case atStart=>exact⟨0,Tb _,rfl,ae.refl _,z,rfl⟩
 case round=>
  obtain⟨k,I,rfl,a,d,f⟩:=hrel;have u0:=b wr a 0 _ rfl;have u1:=b wr a 1 _ rfl;have u2:=b wr a 2 _ rfl;have u3:=b wr a 3 _ rfl;have u4:=b wr a 4 _ rfl;have u5:=b wr a 5 _ rfl;have u6:=b wr a 6 _ rfl;have u7:=b wr a 7 _ rfl;have u8:=b wr a 8 _ rfl;have u9:=b wr a 9 _ rfl;have Z:=b wr a 10 _ rfl;have HW:Hid _:=(⟨a,d⟩:ae w1 wr/\Below w.heap.size w wr)
  obtain p|hge:=S6 k c.rules.length
  ·have A:=u k p wr (y.trans a);rw[qZ c _ _ k p]at f;obtain⟨r,n⟩:=ex (lU c c.marks[i] c.kin[i] c.rules[k]);rw[<-n]at f A;have F:Hid _:=m;obtain⟨Q,R,S⟩:=r;have T:=CM fs Q R S 0 0 0;have hG:=iF fs vc .eql (.tmp 16) (.tmp 17);unfold Cw at A;by_cases q:(⟨Q,R,S⟩:Cl)=⟨0,0,0⟩
   ·rw[SS q]at f;cases q;have t:Hid _:=f;rw[Ta ⟨rfl,rfl,rfl⟩]at T;clear f n u b y z a d m;go_wp2_with (first|(go_at_call 85;refine A.mono ?_;rintro e w3 ⟨rfl,j⟩));go_ret;exact⟨by rw[CN F.out t.out];rfl,HW.out.2.trans (j.mono HW.out.2.size)⟩
   rw[SQ q]at f;have t:Hid _:=f;rw[S9 (λh=>q (by rw[h.1,h.2.1,h.2.2]))]at T;clear f n u b y z a d m q;go_wp2_with (first|(go_at_call 85;refine A.mono ?_;rintro e w3 ⟨rfl,j⟩));exact⟨⟨k+1,by omega,by go_num,HW.out.1.trans (ae.below j),HW.out.2.trans (j.mono HW.out.2.size),t.out⟩,by simp[intOf];omega⟩
  have t:Hid _:=f;have F:Hid _:=m;clear a d u b y z f m;go_wp2;go_ret;refine⟨?_,HW.out.2⟩;have f:=t.out;rw[Tz hge]at f;rw[CO F.out f];rfl
def CP(i j:Nat):decide ((i:Int)<j)=decide (i<j):=by by_cases h:i<j;rw[Ta h,Ta (by omega)];rw[S9 h,S9 (by omega)]
def mM(x:Hit):Value:=.agg #[.int .i64 x.mark,.int .i64 x.dY,.int .i64 x.level]
def oR(c)(i:Nat)(a:i<c.marks.length):gG c i=c.marks[i].day:=by unfold gG;rw[Int.toNat_natCast,TA a];rfl
def Lu{K:Nat->Prop}{sc:Array Value}{c:Case}(i j:Nat)(f g m n:Int)(w:World)(hc:bH K w sc c)(C:i<c.marks.length)(D:j<c.marks.length):Calls (Qs fs) 131 #[.agg sc,mM ⟨i,f,g⟩,mM ⟨j,m,n⟩] w λe w'=>e=.returned (.bool (aR c ⟨i,f,g⟩ ⟨j,m,n⟩))/\Below w.heap.size w w':=by
 obtain⟨v0,v1,v2,V,W,X,Y,rfl,ht,s,hf,Z,E⟩:=hc;obtain⟨q,a⟩:=ex (w.alloc (.cells #[v0,v1,v2,V,.string c.new.name,.string c.new.word,W,.int .i64 c.new.day,.bool c.new.known,X,Y] 60));obtain⟨t,d⟩:=ex (q.alloc (.cells #[.int .i64 i,.int .i64 f,.int .i64 g] 66));obtain⟨w1,l⟩:=ex (t.alloc (.cells #[.int .i64 j,.int .i64 m,.int .i64 n] 66));have F:ae t w1:=by rw[l];exact ae.alloc _ _
 have G:ae q w1:=(by rw[d];exact ae.alloc _ _:ae q t).trans F;have H:ae w w1:=(by rw[a];exact ae.alloc _ _:ae w q).trans G;have B1:Below w.heap.size w w1:=by rw[l,d,a];exact(((Below.refl _ w).alloc (SU _) _).alloc (by simp) _).alloc (by simp;omega) _
 have p:q.heap.size=w.heap.size+1:=by rw[a];simp
 have hsb:t.heap.size=w.heap.size+1+1:=by rw[d,<-p];simp
 have ct:∀i v,(#[v0,v1,v2,V,.string c.new.name,.string c.new.word,W,.int .i64 c.new.day,.bool c.new.known,X,Y]:Array Value)[i]? =some v->w1.cell? ⟨w.heap.size,i,none⟩=some v:=λi v h=>G.cell (by rw[a];exact az w _ 60 i v h);have z:∀k v,(#[.int .i64 i,.int .i64 f,.int .i64 g]:Array Value)[k]? =some v->w1.cell? ⟨w.heap.size+1,k,none⟩=some v:=λi v h=>F.cell (by rw[d,<-p];exact az q _ 66 i v h);have A:∀k v,(#[.int .i64 j,.int .i64 m,.int .i64 n]:Array Value)[k]? =some v->w1.cell? ⟨w.heap.size+1+1,k,none⟩=some v:=λi v h=>by rw[l,<-hsb];exact az t _ 66 i v h
 obtain⟨N0,I⟩:=ex (w.heap.size);obtain⟨N1,J⟩:=ex (w.heap.size+1);obtain⟨N2,M⟩:=ex (w.heap.size+1+1);have N:=Z.stays H λb b' o x e h=>by subst e;exact pg.carry (Carry.keep H) b b o x rfl h
 obtain⟨aa,cm,rfl,lm,ab,_,O⟩:=N;obtain⟨bm,om,rfl,_,_,_,x3,_⟩:=O i C;obtain⟨ad,af,P,_,_,_,y3,_⟩:=O j D;cases P;have t9:=ct 9 _ rfl;have a0:=z 0 _ rfl;have a1:=z 1 _ rfl;have a2:=z 2 _ rfl;have b0:=A 0 _ rfl;have b1:=A 1 _ rfl;have b2:=A 2 _ rfl;rw[<-M]at b0 b1 b2;rw[<-J]at a0 a1 a2;rw[<-I]at t9;have hP:aR c ⟨i,f,g⟩ ⟨j,m,n⟩=if f≠m then decide (f<m)else if g≠n then decide (n<g)else if c.marks[i].day≠c.marks[j].day then decide (c.marks[i].day<c.marks[j].day)else decide ((i:Int)<j):=by unfold aR;simp only[];rw[oR c i C,oR c j D]
 have r:Hid _:=hP;obtain⟨d1,u⟩:=ex (c.marks[i].day);obtain⟨d2,y⟩:=ex (c.marks[j].day);rw[<-u]at x3 r;rw[<-y]at y3 r;have B:Hid _:=B1;have HI:Hid _:=(⟨C,D⟩:i<c.marks.length/\j<c.marks.length)
 have ag:(i:Int)<(c.marks.length:Int):=by omega
 have ak:(j:Int)<(c.marks.length:Int):=by omega
 unfold mM;go_enter (n131 L),Tryz.ntmps131;go_upto_region 1 with fail;rw[<-a,<-d,<-l,<-M,<-J,<-I];clear a d l G F H B1 p hsb ct z A ht s hf Z E O I J M hP u y;by_cases s:f=m
 ·subst s;have Q:(f !=f)=false:=by simp
  by_cases R:g=n
  ·subst R;(have S:(g !=g)=false:=by simp);by_cases T:d1=d2
   ·subst T;(have U:(d1 !=d1)=false:=by simp);go_wp2;go_quiet (fail);go_wp2;go_ret;refine⟨?_,B.out.fM _⟩;rw[r.out,SQ (λh=>h rfl),SQ (λh=>h rfl),SQ (λh=>h rfl),CP];rfl
   (have U:(d1 !=d2)=true:=by simpa using T);go_wp2;go_quiet (fail);go_wp2;go_quiet (fail);go_wp2;go_ret;refine⟨?_,(B.out.fM _).fM _⟩;rw[r.out,SQ (λh=>h rfl),SQ (λh=>h rfl),SS T];rfl
  have S:(g !=n)=true:=by simpa using R
  go_wp2;go_ret;refine⟨?_,B.out⟩;rw[r.out,SQ (λh=>h rfl),SS R];rfl
 have Q:(f !=m)=true:=by simpa using s
 go_wp2;go_ret;refine⟨?_,B.out⟩;rw[r.out,SS s];rfl
end Go.Proofs
namespace Go.Proofs
open Go.Tm Go.RowKit
variable {fs:Array Func} (L:bQ fs)
def dk{w w':World}{b o}(h:w'.heap[b]? =w.heap[b]?):w'.cell? ⟨b,o,none⟩=w.cell? ⟨b,o,none⟩:=by unfold World.cell?;rw[show w'.heap[(⟨b,o,none⟩:Addr).block]? =w.heap[(⟨b,o,none⟩:Addr).block]? from h]
def uI{a}(h:0<a.size):(gJ a none).1.size=1:=by show(a.extract 0 1).size=1;rw[UD];omega
def FE(a ob p)(c:1<=p.1.size):dV a.data.toList ob p=if(gJ a ob).2.2<(p.1.size:Int)/\p.1.data.toList.isPrefixOf a.data.toList=true then some p else ob:=by (unfold dV;have:decide ((ob.elim 0 λq=>q.1.size)<p.1.size)=decide ((gJ a ob).2.2<(p.1.size:Int)):=by cases ob with|none=>show decide (0<p.1.size)=decide ((0:Int)<(p.1.size:Int));rw[Ta (by omega),Ta (by omega)]|some q=>show decide (q.1.size<p.1.size)=decide ((q.1.size:Int)<(p.1.size:Int));by_cases h:q.1.size<p.1.size;rw[Ta h,Ta (by omega)];rw[S9 h,S9 (by omega)]);rw[this];by_cases b:(gJ a ob).2.2<(p.1.size:Int)<;>cases d:p.1.data.toList.isPrefixOf a.data.toList<;>simp[b]
def FF(W:World)(a:Nat):Nat:=match W.cell? ⟨a,0,none⟩with
 |some (.string s)=>s.size
 |_=>0
def zb{W a s}(h:W.cell? ⟨a,0,none⟩=some (.string s)):FF W a=s.size:=by unfold FF;rw[h]
def I4{a:List Pr2}(e:∀p∈a,1<=p.1.size)(cur)(f:0<cur.size):dZ a cur.data.toList=(gJ cur (bJ a cur.data.toList)).2.1::dZ a (cur.extract (gJ cur (bJ a cur.data.toList)).1.size cur.size).data.toList/\1<=(gJ cur (bJ a cur.data.toList)).1.size/\(gJ cur (bJ a cur.data.toList)).1.size<=cur.size:=by (have c:=drop_cons cur 0 f;rw[TF]at c;have g:∀k,(cur.extract k cur.size).data.toList=cur.data.toList.drop k:=λk=>by rw[Lib.extract_data];exact Vy (by rw[Tg,Lib.size_eq];exact SU _));cases d:bJ a cur.data.toList with|some p=>have i:=e p (gH d);have b:=(T8.1 (nF d)).length_le;rw[<-Lib.size_eq,<-Lib.size_eq]at b;refine⟨?_,i,b⟩;rw[g];rw[c]at d⊢;exact Ft e d|none=>have j:=uI f;refine⟨?_,by omega,by omega⟩;rw[g,j];rw[c]at d;have h:=Cz d;rw[<-c]at h;have l:cur.data.toList.drop 1=cur.data.toList.drop (0+1):=rfl;have m:cur.extract 0 1=⟨#[cur[0]]⟩:=pU (by rw[Lib.extract_data,TF,c];rfl);(have n:cur.data.toList.head?.any bG=bG cur[0]:=by rw[c];rfl);rw[h,l];show _=(if cur.data.toList.head?.any bG=true then cur.extract 0 1 else⟨#[]⟩)::_;rw[m,n]
def Lv{K v0 ls}(n s g m G w)(aa:g<w.heap.size)(H:m<w.heap.size)(ab:g≠G)(I:m≠G)(M:m≠g)(N:∀b,K b->b<w.heap.size/\b≠g/\b≠G) (c:aE K 2 dB w v0 ls) (a:w.rowIs g 9 1 (λ_=>.string s)) (d:w.cell? ⟨m,0,none⟩=some v0) (ok:∀p∈ls,1<=p.1.size) (hs:s.size<=1000) (l) (J:List ByteArray->World->Prop) (W) (hW:Below w.heap.size w W) (hJ:∀pre W W',Stp W.heap.size g W W'->J pre W->J pre W') (hY:∀pre x O,J pre O->pre++[x]<+:dZ ls s.data.toList->YieldAt Fence.wide n (Qs fs) l #[.string x] O λe W'=>e=.returned (.bool true)/\J (pre++[x]) W'/\Stp w.heap.size G O W') (h0:J [] W):Calls (Qs fs) 132 #[.func (.yield l) #[] #[],.pointer (some ⟨g,0,none⟩),.pointer (some ⟨m,0,none⟩)] W λe W'=>(∃v,e=.returned v)/\J (dZ ls s.data.toList) W':=by
 have e91:=e91 L;have NW:=NW L;have HH:Hid (g<w.heap.size/\m<w.heap.size/\g≠G/\m≠G/\m≠g/\(∀b,K b->b<w.heap.size/\b≠g/\b≠G)):=⟨aa,H,ab,I,M,N⟩
 have HJ:Hid (∀pre W W',Stp W.heap.size g W W'->J pre W->J pre W'):=hJ;have HY:Hid (∀pre x O,J pre O->pre++[x]<+:dZ ls s.data.toList->YieldAt Fence.wide n (Qs fs) l #[.string x] O λe W'=>e=.returned (.bool true)/\J (pre++[x]) W'/\Stp w.heap.size G O W'):=hY;have ad:Hid (∀p∈ls,1<=p.1.size):=ok;have HS:Hid (aE K 2 dB W v0 ls/\W.rowIs g 9 1 (λ_=>.string s)/\W.cell? ⟨m,0,none⟩=some v0/\J [] W/\w.heap.size<=W.heap.size):=⟨c.blocks λb P=>hW.block b (N b P).1,a.of_block (hW.block g aa),(dk (hW.block m H)).trans d,h0,hW.size⟩
 clear hJ hY ok h0 c a d hW N;go_enter (n132 L),Tryz.ntmps132;go_wp2;go_loopw [4] (λs4 wr=>∃(pre:List ByteArray) (cur:ByteArray),aE K 2 dB wr v0 ls/\wr.rowIs g 9 1 (λ_=>.string cur)/\wr.cell? ⟨m,0,none⟩=some v0/\J pre wr/\w.heap.size<=wr.heap.size/\pre++dZ ls cur.data.toList=dZ ls s.data.toList/\cur.size<=1000) (λs4 wr=>FF wr g);case atStart=>exact⟨[],s,HS.out.1,HS.out.2.1,HS.out.2.2.1,HS.out.2.2.2.1,HS.out.2.2.2.2,rfl,hs⟩
 case round=>
  clear HS;obtain⟨pre,cur,c,a,d,hj,t,f,hc⟩:=hrel;have C:Hid (aE K 2 dB wr v0 ls/\wr.rowIs g 9 1 (λ_=>.string cur)/\J pre wr/\w.heap.size<=wr.heap.size/\pre++dZ ls cur.data.toList=dZ ls s.data.toList):=⟨c,a,hj,t,f⟩
  have hw:=a.cell (show 0<1 by omega);have Q:=a.frozen 0;clear c a hj t f;by_cases R:cur.size=0
  ·(have ax:cur.toList.isEmpty=true:=by rw[Lib.toList_data,fB];exact Ta R);go_wp2
   (go_end0);refine⟨⟨_,rfl⟩,?_⟩;have h:=C.out.2.2.2.2;have hn:cur.data.toList=[]:=Up.1 (by rw[<-Lib.size_eq];exact R);rw[hn]at h;have h2:dZ ls []=[]:=rfl;rw[h2,Ux]at h;subst h;exact C.out.2.2.1
  have af:0<cur.size:=by omega
  have ax:cur.toList.isEmpty=false:=by rw[Lib.toList_data,fB];exact S9 R
  have bk:(1:Int)<=(cur.size:Int):=by omega
  have S:∀wx,Calls (Qs fs) 91 #[.int .u8 (cur[0].toNat:Int)] wx λe w'=>e=.returned (.bool (bG cur[0]))/\w'=wx:=λwx=>mG fs (n91 L) _ wx;have q:Hid ((gJ cur none).1=cur.extract 0 1/\(gJ cur none).2.1=(if bG cur[0]=true then cur.extract 0 1 else⟨#[]⟩)/\(gJ cur none).2.2=0):=by refine⟨rfl,?_,rfl⟩;have hd:=drop_cons cur 0 af;rw[TF]at hd;show(if cur.data.toList.head?.any bG=true then _ else _)=_;rw[hd];rfl
  obtain⟨z,D⟩:=ex (bG cur[0]);rw[<-D]at S q;clear D;go_wp2
  go_step3
  go_upto_if 15 with(first|(go_at_call 91;refine(S _).mono ?_;clear S;rintro e w2 ⟨rfl,rfl⟩))
  go_cut [4,5]from 9 to 52 (λs4 s5 wx=>s4=.string (gJ cur none).1/\s5=.string (gJ cur none).2.1/\wx=w2)
  case first=>cases z with|true=>go_wp2;all_goals (go_meet;exact⟨by rw[q.out.1],by rw[q.out.2.1];simp,rfl⟩)|false=>go_wp2;all_goals (go_meet;exact⟨by rw[q.out.1],by rw[q.out.2.1];simp,rfl⟩)
  case rest=>
   obtain⟨rfl,rfl,rfl⟩:=hcut;have ay:Hid ((gJ cur none).2.2=0):=q.out.2.2;clear q;obtain⟨ao,cc,rfl,aM,a1,a6,r⟩:=id C.out.1;clear aM a1 a6;go_wp2
   (go_step3);go_wp2;go_loopw [21,4,5,6] (λT s4 s5 s6 wi=>∃(j:Nat) (ob:Option Pr2),j<=ls.length/\T=.int .i64 j/\s4=.string (gJ cur ob).1/\s5=.string (gJ cur ob).2.1/\s6=.int .i64 (gJ cur ob).2.2/\bJ (ls.take j) cur.data.toList=ob/\aE K 2 dB wi (.slice ao ls.length cc) ls/\wi.rowIs g 9 1 (λ_=>.string cur)/\wi.cell? ⟨m,0,none⟩=some (.slice ao ls.length cc)/\J pre wi/\w.heap.size<=wi.heap.size) (λT _ _ _ _=>ls.length-(intOf T).toNat);case atStart=>exact⟨0,none,Tb _,rfl,rfl,rfl,by rw[ay.out],rfl,C.out.1,C.out.2.1,d,C.out.2.2.1,C.out.2.2.2.1⟩
   case round=>
    (clear hw Q d;obtain⟨j,ob,hj,rfl,rfl,rfl,rfl,U,c,a,d,E,t⟩:=hrel;have u:Hid _:=U;have HI:Hid (aE K 2 dB wr (.slice ao ls.length cc) ls/\wr.rowIs g 9 1 (λ_=>.string cur)/\wr.cell? ⟨m,0,none⟩=some (.slice ao ls.length cc)/\J pre wr/\w.heap.size<=wr.heap.size):=⟨c,a,d,E,t⟩);(have y:Hid (∀w',Below wr.heap.size wr w'->aE K 2 dB w' (.slice ao ls.length cc) ls/\w'.rowIs g 9 1 (λ_=>.string cur)/\w'.cell? ⟨m,0,none⟩=some (.slice ao ls.length cc)/\J pre w'/\w.heap.size<=w'.heap.size):=λw' h=>⟨c.blocks λb P=>h.block b (by have:=(HH.out.2.2.2.2.2 b P).1;omega),a.of_block (h.block _ (by have:=HH.out.1;omega)),(dk (h.block _ (by have:=HH.out.2.1;omega))).trans d,HJ.out _ _ _ (Stp.Ck h) E,by have:=h.size;omega⟩);have hw:=a.cell (show 0<1 by omega);have Q:=a.frozen 0;obtain V|hge:=S6 j ls.length
    ·obtain⟨_,_,e',_,_,_,r⟩:=c;(cases e';obtain⟨b,br,rfl,x0,x1⟩:=r j V;have hp:=ad.out ls[j] (Ti V);have A:Hid _:=FE cur ob ls[j] hp;have F:Hid _:=jN ls j V cur.data.toList;obtain⟨pp,ag⟩:=ex (ls[j]);rw[<-ag]at x0 x1 A F;obtain⟨ak,B⟩:=ex ((gJ cur ob).2.2);rw[<-B]at A⊢;have an:Hid _:=B;have k:=λwx=>nI L cur pp.1 wx;have bs:(j:Int)<(ls.length:Int):=by omega);have bx:∀o,(wr.alloc o).cell? ⟨g,0,none⟩=some (.string cur):=λo=>(a.alloc o).cell (show 0<1 by omega);clear ag U a E t r B hp;by_cases X:(pp.1.size:Int)<=ak
     ·(have HN:Hid (bJ (ls.take (j+1)) cur.data.toList=ob):=by rw[Hid,F.out,u.out,A.out,SQ (by omega)]);clear k;go_wp2;refine⟨⟨j+1,ob,by omega,by go_num,rfl,rfl,by rw[an.out],HN.out,?_⟩,by simp[intOf];omega⟩;exact y.out _ (by first|exact aK _ _|exact(aK _ _).fM _)
     have bm:decide ((pp.1.size:Int)<=ak)=false:=S9 X
     cases D:pp.1.data.toList.isPrefixOf cur.data.toList with
     |false=>(rw[D]at k;have HN:Hid (bJ (ls.take (j+1)) cur.data.toList=ob):=by rw[Hid,F.out,u.out,A.out,SQ (by rw[D];simp)]);clear X D;go_wp2_with (first|(go_at_call 133;refine(k _).mono ?_;clear k;rintro e w3 ⟨rfl,rfl⟩));refine⟨⟨j+1,ob,by omega,by go_num,rfl,rfl,by rw[an.out],HN.out,?_⟩,by simp[intOf];omega⟩;exact y.out _ (by first|exact aK _ _|exact(aK _ _).fM _)
     |true=>(rw[D]at k;have HN:Hid (bJ (ls.take (j+1)) cur.data.toList=some pp):=by rw[Hid,F.out,u.out,A.out,SS ⟨by omega,D⟩]);clear X D;go_wp2_with (first|(go_at_call 133;refine(k _).mono ?_;clear k;rintro e w3 ⟨rfl,rfl⟩));go_quiet (fail);go_wp2;refine⟨⟨j+1,some pp,by omega,by go_num,rfl,rfl,rfl,HN.out,?_⟩,by simp[intOf];omega⟩;exact y.out _ (by first|exact aK _ _|exact(aK _ _).fM _)
    (obtain rfl:j=ls.length:=by omega);(rw[Uo]at u;go_upto_region 11 with fail;have PN:=I4 ad.out cur af;rw[u.out]at PN;obtain⟨ar,a7,a8⟩:=PN;have f:=C.out.2.2.2.2;rw[ar]at f;obtain⟨x,hx⟩:=ex ((gJ cur ob).2.1);obtain⟨fr,Y⟩:=ex ((gJ cur ob).1);rw[<-hx,<-Y]at f⊢;rw[<-Y]at a7 a8;obtain⟨fn,tmps,assign,body,hy,hR⟩:=HY.out pre x wr HI.out.2.2.2.1 ⟨dZ ls (cur.extract fr.size cur.size).data.toList,by rw[<-f,Uj];rfl⟩;have HT:Hid ((pre++[x])++dZ ls (cur.extract fr.size cur.size).data.toList=dZ ls s.data.toList):=by rw[Hid,<-f,Uj];rfl);(have bo:(fr.size:Int)<=(cur.size:Int):=by omega);clear U c a d E t ar f hx Y hw Q;refine(wpIn_wide (n:=n+1)).1 ?_
    (gi_wp2);refine hR.mono ?_;rintro e W' ⟨rfl,ba,hS⟩;have Z:W'.rowIs g 9 1 (λ_=>.string cur):=HI.out.2.1.of_block (hS.block _ HH.out.1 HH.out.2.2.1);have bb:=Z.cell (show 0<1 by omega);have bA:=Z.frozen 0;clear hR hy
    (gi_wp2);go_wp2;simp(config:={zetaDelta:=true}) only [Exit.noGoto_normal,Exit.inBlock,Exit.then]
    (go_roundw);(case rel=>obtain⟨_,_,ab,I,M,N⟩:=HH.out;refine⟨pre++[x],cur.extract fr.size cur.size,HI.out.1.blocks λb P=>(Below.heap_setCell W' ⟨g,0,none⟩ _ b (N b P).2.1).trans (hS.block b (N b P).1 (N b P).2.2),(Z.set 0 _).congr λi hi=>?_,(dk (Below.heap_setCell W' ⟨g,0,none⟩ _ m M)).trans ((dk (hS.block m H I)).trans HI.out.2.2.1),HJ.out _ W' _ (Stp.setCell W' 0 _) ba,?_,HT.out,?_⟩;rw[SS (by omega)];exact SV HI.out.2.2.2.2 (SV hS.size (Stp.setCell (n:=0) W' 0 _).size);rw[UD];omega);case measure=>rw[zb (C.out.2.1.cell (show 0<1 by omega)),zb (s:=cur.extract fr.size cur.size) (World.cell?_setCell_same' _ _ _ (by rw[bb];rfl)),UD];omega
end Go.Proofs
namespace Go.Proofs
open Go.Tm Go.RowKit Go.Shelf
variable {fs:Array Func} (L:bQ fs)
def lF(fs:Array Func):Builder.Extra (Qs fs) sT where
 sizeBuilder:=(by kernel_rfl:(Tryz.prog.info? (sT.t 72)).map (·.size)=some 2)
 liesBuilder:=by kernel_rfl
 t5:=(aL _ _ _).trans Tryz.underlying5
 a5:=λw=>(As _ _ _ w).trans (Tryz.isAgg5 w)
 z5:=λw=>(vt _ _ _ w).trans (Tryz.sizeOf5 w)
 v5:=λw=>(jb _ _ _ w).trans (Tryz.zeroValue5 w)
 infoByte:=(by kernel_rfl:(Tryz.prog.info? (sT.t 5)).map (λi=>(i.zero,i.size,i.bytes))=some (some (.int .u8 0),1,1))
 cellsByte:=by kernel_rfl
 sizeByte:=(by kernel_rfl:(Tryz.prog.info? (sT.t 5)).map (·.size)=some 1)
 neB5:=by decide
def fX(q:Prop)(b B:Nat)(bs:List Value)(w:World):Prop:=b<B/\∃p v,(p=.pointer none\/p=.pointer (some ⟨b,0,none⟩))/\w.heap[b]? =some (.cells #[p,v] 153 (0,0))/\w.ownsRow B 5 1 v bs.length bs/\(bs=[]->q\/v=.slice none 0 0)
def fX.keep{q}{b B:Nat}{bs:List Value}{w w':World}(h:fX q b B bs w)(d:∀k c e F,w.heap[k]? =some (.cells c e F)->(k=b\/B<=k)->w'.heap[k]? =some (.cells c e F)):fX q b B bs w':=by obtain⟨j,p,v,l,m,f,n⟩:=h;refine⟨j,p,v,l,d _ _ _ _ m (.inl rfl),⟨f.1,?_⟩,n⟩;obtain h|⟨g,cap,a,k1,i,o,r⟩:=f.2;exact .inl h;exact .inr ⟨g,cap,a,k1,i,d _ _ _ _ o (.inr i),r⟩
def AB{w:World}{B B' e k v n xs}(h:w.ownsRow B' e k v n xs)(i:B<=B'):w.ownsRow B e k v n xs:=by refine⟨h.1,?_⟩;obtain b|⟨g,cap,a,c,j,d,f⟩:=h.2;exact .inl b;exact .inr ⟨g,cap,a,c,by omega,d,f⟩
def iQ{q}(b B:Nat)(bs:List Value)(s:ByteArray)(w:World)(h:fX q b B bs w)(T:bs.length+s.size<=140737488355328)(hB:B<=w.heap.size):Calls (Qs fs) 94 #[.pointer (some ⟨b,0,none⟩),.string s] w λe w'=>e=.returned (.tuple #[.int .i64 s.size,.nilIface])/\fX q b B (bs++Lib.strCells s) w'/\Stp B b w w':=by (have NX:=NX L;have X:=lF fs;have m:Lays.n240 (Qs fs) sT:={(jv L).2.2 with});(obtain⟨Y,p,v,U,a,i,n⟩:=h;obtain⟨i0,Z,G,H,I⟩:=info_parts X.infoByte;have J:(Qs fs).info? 5=some i0:=Z;have aa:b<w.heap.size:=by omega);(have t:Calls (Qs fs) 134 #[.pointer (some ⟨b,0,none⟩)] w λe w'=>e=.returned (.tuple #[])/\w'.heap[b]? =some (.cells #[.pointer (some ⟨b,0,none⟩),v] 153 (0,0))/\Stp B b w w'/\w'.heap.size=w.heap.size/\∀k,k≠b->w'.heap[k]? =w.heap[k]? :=by obtain rfl|rfl:=U;have c:=Any.Builder_copyCheck_fresh m X.toX72 b w (by rw[Lib.cell_of_heap a];rfl) (by simp[World.shape?,a];rfl) (Lib.frozen_of_heap a 0);(refine c.mono ?_;rintro e w' ⟨rfl,rfl⟩;refine⟨rfl,?_,Stp.setCell _ _ _,by simp[World.setCell],λk V=>Below.heap_setCell w ⟨b,0,none⟩ _ k V⟩;have K:(w.heap.modify b λo=>match o with| .cells c e F=>.cells (c.setIfInBounds 0 (.pointer (some ⟨b,0,none⟩))) e F|o=>o)[b]? =some (.cells #[.pointer (some ⟨b,0,none⟩),v] 153 (0,0)):=by rw[TR,a];simp);exact K;have c:=Any.Builder_copyCheck_used m X.toX72 b w (by rw[Lib.cell_of_heap a];rfl);refine c.mono ?_;rintro e w' ⟨rfl,rfl⟩;exact⟨rfl,a,Stp.refl _ _ _,rfl,λ_ _=>rfl⟩);(have M:v.ownBlock≠some b:=by intro e;have:=en i b e;omega);clear U a;go_enter (n94 L),Tryz.ntmps94;go_wp2_with (go_at_call 134;refine t.mono ?_);(clear t;rintro e w1 ⟨rfl,u,x,W,y⟩;have j:w1.ownsRow B 5 1 v bs.length bs:=by refine⟨i.1,?_⟩;obtain h|⟨g,cap,l,k1,N,O,P⟩:=i.2;exact .inl h;exact .inr ⟨g,cap,l,k1,N,(y g (by omega)).trans O,P⟩);(have c1:w1.cell? ⟨b,1,none⟩=some v:=by rw[Lib.cell_of_heap u];rfl);(have z:b<w1.heap.size:=by omega);(go_wp2_with (at_builtin;refine Lib.wpList_append_own_string _ rfl _ _ 120 9 rfl B 5 i0 Tryz.underlying120 Tryz.underlying9 J G H I _ _ _ rfl j s rfl ?c3 ?c4 ?c5 ?_));(case c3=>unfold maxLen;omega);(case c4=>omega);(case c5=>omega);(intro v' w2 d f A;have Q:Hid _:=A;have R:Hid _:=n;clear A n;have r:w2.heap[b]? =some (.cells #[.pointer (some ⟨b,0,none⟩),v] 153 (0,0)):=by rw[f.block b z (λe=>M e.symm)];exact u);(have d1:w2.cell? ⟨b,1,none⟩=some v:=by rw[Lib.cell_of_heap r];rfl);(have f1:w2.frozen? ⟨b,1,none⟩=false:=Lib.frozen_of_heap r 1;obtain⟨C,D,cap,rfl⟩:∃C D cap,v'=.slice C D cap:=by obtain⟨S,_⟩|⟨g,cap,l,S,_⟩:=d.2;exact⟨_,_,_,S⟩;exact⟨_,_,_,S⟩);have E:Hid _:=f;clear f;go_wp2;(go_ret2);refine⟨rfl,⟨Y,.pointer (some ⟨b,0,none⟩),.slice C D cap,.inr rfl,?_,?_,?_⟩,?_⟩;(have K:(w2.heap.modify b λo=>match o with| .cells c e F=>.cells (c.setIfInBounds 1 (.slice C D cap)) e F|o=>o)[b]? =some (.cells #[.pointer (some ⟨b,0,none⟩),.slice C D cap] 153 (0,0)):=by rw[TR,r];simp);exact K;rw[To,Lib.strCells_length];refine⟨d.1,?_⟩;obtain h|⟨g,cap,l,k1,N,O,P⟩:=d.2;exact .inl h;exact .inr ⟨g,cap,l,k1,N,(Below.heap_setCell w2 ⟨b,1,none⟩ _ g (by show g≠b;omega)).trans O,P⟩;intro e;(obtain⟨e1,e2⟩:=List.append_eq_nil_iff.1 e;have e3:s.size=0:=by rw[<-Lib.strCells_length,e2];rfl);exact(R.out e1).imp id λe4=>Q.out.2 ⟨e4,by simpa using e3⟩;refine x.trans (Stp.trans ⟨E.out.os,E.out.tape,E.out.output,E.out.size,λk V _=>E.out.block k (by omega) (λe=>?_)⟩ (Stp.setCell _ _ _));have:=en j k e.symm;omega
def CQ:nv.ntmps=14:=by kernel_rfl
def AD{w w':World}{b:Nat}(h:Below b w w')(g:∀D,b<=D->w'.heap[D]? =w.heap[D]? \/∃c e F,w.heap[D]? =some (.cells c e F)):∀(D:Nat) (ds:Option (List Deferred)),w.heap[D]? =some (Go.Obj.deferred ds)->w'.heap[D]? =some (Go.Obj.deferred ds):=λD ds a=>by obtain d|hge:=S6 D b;exact(h.block D d).trans a;obtain f|⟨c,e,F,f⟩:=g D hge;exact f.trans a;rw[f]at a;cases a
def vR(b B:Nat)(l:List UInt8)(w:World)(h:fX False b B (Lib.byteCells l) w)(F:b<=w.heap.size):Calls (Qs fs) 95 #[.pointer (some ⟨b,0,none⟩)] w λe w'=>e=.returned (.string (bs l))/\Below b w w'/\∀(D:Nat) (ds:Option (List Deferred)),w.heap[D]? =some (Go.Obj.deferred ds)->w'.heap[D]? =some (Go.Obj.deferred ds):=by
 have X:=lF fs;have k:(Qs fs).follows .mixedOrders=true:=(jv L).1.mixed;obtain⟨N,p,v,O,i,a,d⟩:=h;cases l with
 |nil=>(have m:v=.slice none 0 0:=(d rfl).elim False.elim id;subst m;have n:=Lib.run_unsafeString_none (P:=Qs fs);have G:w.drew.cell? ⟨b,1,none⟩=some (.slice none 0 0):=by have:w.drew.heap[b]? =some (.cells #[p,.slice none 0 0] 153 (0,0)):=i;rw[Lib.cell_of_heap this];rfl);have o:(Builtin.unsafeSliceData_ #[120] pR #[.slice none 0 0]).run (Qs fs) w.drew=.ok (.pointer none) w.drew:=rfl;clear d;go_enter (n95 L),CQ;go_wp2;(go_region_o);all_goals (go_wp2;go_ret;exact⟨rfl,Below.drew (Below.refl b w),λD ds A=>A⟩)
 |cons x r=>
  obtain⟨l,q⟩:=ex (x::r);rw[<-q]at a⊢;have C:l≠[]:=by rw[q];simp
  clear q d;have s:l.length≠0:=by simpa using C
  rw[Lib.byteCells_length]at a;obtain⟨g,cap,c,rfl,H,t,I,u,y,f⟩:∃g cap c,v=.slice (some ⟨g,0,none⟩) l.length cap/\B<=g/\w.heap[g]? =some (.cells c 5 (0,0))/\l.length<=cap/\cap<=maxLen/\c.size=cap*1/\c.toList.take (l.length*1)=Lib.byteCells l:=by obtain⟨_,J⟩|⟨g,cap,c,m,r⟩:=a.2;exact absurd J s;exact⟨g,cap,c,m,r⟩
  have G:w.drew.cell? ⟨b,1,none⟩=some (.slice (some ⟨g,0,none⟩) l.length cap):=by have:w.drew.heap[b]? =some (.cells #[p,.slice (some ⟨g,0,none⟩) l.length cap] 153 (0,0)):=i;rw[Lib.cell_of_heap this];rfl
  have o:(Builtin.unsafeSliceData_ #[120] pR #[.slice (some ⟨g,0,none⟩) l.length cap]).run (Qs fs) w.drew=.ok (.pointer (some ⟨g,0,none⟩)) w.drew:=Lib.run_unsafeSliceData_row _ _ _ _ _ _ (by omega);have n:(Builtin.unsafeString_ #[203,3] 9 #[.pointer (some ⟨g,0,none⟩),.int .i64 l.length]).run (Qs fs) w.drew=.ok (.string ⟨l.toArray⟩) (w.drew.freeze ⟨g,0,none⟩ l.length):=by refine Lib.run_unsafeString_row w.drew 203 3 9 5 ((aL _ _ _).trans Tryz.underlying203) X.cellsByte g c.size (by have z:w.drew.heap[g]? =some (.cells c 5 (0,0)):=t;simp[World.shape?,z]) l C (by omega) (by unfold maxLen at u;omega) ?_;intro j x K;have:=a.cells (g:=g) rfl j (.int .u8 x.toNat) (by simp[Lib.byteCells,K]);exact this
  have E:Hid (Below b w (w.drew.freeze ⟨g,0,none⟩ l.length)):=Lib.below_freeze (Below.drew (Below.refl b w)) (p:=⟨g,0,none⟩) (by show b<=g;omega) _;have M:Hid _:=t;clear t a y f;go_enter (n95 L),CQ;go_wp2
  go_region_o
  all_goals (
   go_wp2;go_ret;refine⟨rfl,E.out,AD E.out λD A=>?_⟩;by_cases e:D=g
   ·subst e
    exact .inr ⟨_,_,_,M.out⟩
   ·exact .inl (gq w.drew ⟨g,0,none⟩ _ D e))
end Go.Proofs
namespace Go.Proofs
open Go.Tm Go.RowKit Go.Shelf
variable {fs:Array Func} (L:bQ fs)
attribute [local go_sem] Oper.semAt_some
def Ok(v0 v1 v2:Value)(s:ByteArray)(w:World):Calls (Qs fs) 93 #[.agg #[v0,v1,v2],.string s] w λe w'=>e=.returned (.func (.func 132) #[] #[.pointer (some ⟨w.heap.size+1,0,none⟩),.pointer (some ⟨w.heap.size,0,none⟩)])/\w'=(w.alloc (.cells #[v0,v1,v2] 100)).alloc (.cells #[.string s] 9):=by have a:∀(fn:Fn) (first cap:Array Value) (w:World),(Instr.makeFunc fn first cap).run (Qs fs) w=.ok (.func fn first cap) w:=λ_ _ _ _=>rfl;go_enter (n93 L),Tryz.ntmps93;go_wp2;go_ret;exact⟨by simp,rfl⟩
def vT(x):Lib.strCells x=Lib.byteCells x.data.toList:=rfl
def yo(a b):Lib.byteCells a++Lib.byteCells b=Lib.byteCells (a++b):=by unfold Lib.byteCells;rw[Uz]
def I5(a:List Pr2)(h:∀p∈a,1<=p.1.size/\p.1.size<=4/\p.2.size<=3)(s):(aI a s).length<=3*s.length:=qJ a h _ s
def CR{l}{xs:List ByteArray}(h:l<+:xs):(l.flatMap λx=>x.data.toList).length<=(xs.flatMap λx=>x.data.toList).length:=by obtain⟨t,rfl⟩:=h;rw[Vk,To];omega
def pZ{K:Nat->Prop}{v0 v1 v2:Value}{ls:List Pr2}(s:ByteArray)(w:World)(q:aE K 2 dB w v0 ls)(V:∀p∈ls,1<=p.1.size/\p.1.size<=4/\p.2.size<=3)(r:s.size<=1000):Calls (Qs fs) 53 #[.agg #[v0,v1,v2],.string s] w λe w'=>e=.returned (.string (bs (aI ls s.data.toList)))/\Below w.heap.size w w':=by
 have e93:=e93 L;have e94:=e94 L;have e95:=e95 L;have PC:=PC L;refine callsIn_wide.1 (?_:CallsIn Fence.wide 5 _ _ _ _ _);refine callsIn_of_wp_marks (n53 L) rfl trivial ?_ rfl;simp only[Tryz.ntmps53,Tp,SY,Th,Nat.reduceAdd,Nat.reduceSub,Wh,Array.replicate_zero,List.push_toArray,List.append_toArray,U4,Vl];have z:=λwx=>Ok L v0 v1 v2 s wx
 gi_wp2_with (refine⟨trivial,?_⟩;gi_at_call 93;refine(callsIn_wide.2 (z _)).mono ?_;rintro e w3 ⟨rfl,rfl⟩)
 clear z;obtain⟨N,A⟩:=ex (w.heap.size);rw[<-A];obtain⟨P,n⟩:=ex (w.alloc (.cells #[v0,v1,v2] 100));obtain⟨B,j⟩:=ex (P.alloc (.cells #[.pointer none,.slice none 0 0] 153));obtain⟨y,g⟩:=ex (B.alloc (.cells #[v0,v1,v2] 100));obtain⟨W0,d⟩:=ex (y.alloc (.cells #[.string s] 9));rw[<-n,<-j,<-g,<-d];have Q:P.heap.size=N+1:=by rw[n,A];simp
 have sb:B.heap.size=N+2:=by rw[j];simp[Q]
 have sc:y.heap.size=N+3:=by rw[g];simp[sb]
 have sd:W0.heap.size=N+4:=by rw[d];simp[sc]
 have X:Below N w W0:=by rw[d,g,j,n];exact((((Below.refl N w).alloc (by omega) _).alloc (by simp;omega) _).alloc (by simp;omega) _).alloc (by simp;omega) _
 have C:W0.heap[N+1]? =some (.cells #[.pointer none,.slice none 0 0] 153 (0,0)):=by (have f:B.heap[N+1]? =some (.cells #[.pointer none,.slice none 0 0] 153 (0,0)):=by rw[j,<-Q];exact World.alloc_heap_new P _);(have a:y.heap[N+1]? =B.heap[N+1]? :=by rw[g];exact Below.heap_alloc _ _ _ (by omega));(have Y:W0.heap[N+1]? =y.heap[N+1]? :=by rw[d];exact Below.heap_alloc _ _ _ (by omega));rw[Y,a,f]
 have E:W0.cell? ⟨N+2,0,none⟩=some v0:=by (have f:y.cell? ⟨N+2,0,none⟩=some v0:=by rw[g,<-sb];exact az B _ 100 0 _ rfl);exact(dk (by rw[d];exact Below.heap_alloc _ _ _ (by omega))).trans f
 have u:W0.rowIs (N+3) 9 1 (λ_=>.string s):=by have h:=World.rowIs_alloc y #[.string s] 9 (λ_=>.string s) (λi hi=>by (have:i=0:=by simp at hi;omega);subst this;rfl);rw[sc,<-d]at h;exact h
 have v:aE (λb=>b<N) 2 dB W0 v0 ls:=by have h:=q.below;rw[<-A]at h;exact h.blocks λb t=>X.block b t
 have Z:Hid _:=A;clear n j g d Q sb sc q A;refine yc rfl (by omega) (gf:=132) (lb:=#[.pointer (some ⟨N+1+1+1,0,none⟩),.pointer (some ⟨N+1+1,0,none⟩)]) rfl trivial PC (encs:=λx:ByteArray=>#[.string x]) (λ_=>rfl) (N+3) (N+1) (by omega) (by omega) (dZ ls s.data.toList)
  (λpre W=>fX False (N+1) (N+6) (Lib.byteCells (pre.flatMap λx=>x.data.toList)) W/\Below N w W) ?hI1 ?hI2 ?h0 ?hseq
  (λx=>{tmps:=#[.agg #[v0,v1,v2],.string s,.pointer (some ⟨N,0,none⟩),undef,.string ⟨#[]⟩,.pointer (some ⟨N+1,0,none⟩),.string x,.agg #[v0,v1,v2],.string s,.func (.func 132) #[] #[.pointer (some ⟨N+1+1+1,0,none⟩),.pointer (some ⟨N+1+1,0,none⟩)],.string x,undef,undef,undef],defers:=[]}) ?assign ?body ?done
 case hI1=>(rintro pre W l o o' hl ho R ⟨f,a⟩;refine⟨f.keep λk c e F G _=>?_,a.trans ⟨rfl,rfl,rfl,by simp,λb t=>World.putObj_heap_other (by omega)⟩⟩;have S:k≠l:=by rintro rfl;rw[G]at ho;cases ho;cases R);exact(World.putObj_heap_other S).trans G
 case hI2=>rintro pre W W' r ⟨f,a⟩;refine⟨f.keep λk c e F G aa=>(r.block k (S8.1 G).1 (by omega)).trans G,a.trans ⟨r.os,r.tape,r.output,r.size,λb t=>r.block b (by have:=a.size;have:=Z.out;omega) (by omega)⟩⟩
 case h0=>exact⟨⟨by omega,.pointer none,.slice none 0 0,.inl rfl,C,World.ownsRow_nil _ _ _ _,λ_=>.inr rfl⟩,X⟩
 case hseq=>intro l J W hW hJ hY h0;exact callsIn_wide.2 (Lv L _ s (N+3) (N+2) (N+1) W0 (by omega) (by omega) (by omega) (by omega) (by omega) (λb t=>⟨by omega,by omega,by omega⟩) v u E (λp hp=>(V p hp).1) r l J W hW hJ hY h0)
 case assign=>intro l x W K O;(gi_wp2);exact O
 case body=>(rintro l pre x W ⟨T,m⟩ H ab;have I:(Lib.byteCells (pre.flatMap λx=>x.data.toList)).length+x.size<=140737488355328:=by (have f:=CR H;rw[vC]at f;have a:=I5 ls V s.data.toList;rw[<-Lib.size_eq]at a;rw[Vk,To]at f;rw[Lib.byteCells_length];have Y:([x].flatMap λx=>x.data.toList).length=x.size:=by rw[UB,List.flatMap_nil,Ux];exact(Lib.size_eq x).symm);omega);(gi_wp2_with (refine⟨trivial,?_⟩;gi_at_call 94;refine(CallsIn.inRound l (callsIn_wide.2 (iQ L (N+1) (N+6) _ x W T I (by omega)))).mono ?_;rintro e w2 ⟨rfl,f,a⟩));rw[vT,yo]at f;exact⟨f,m.trans ⟨a.os,a.tape,a.output,a.size,λb t=>a.block b (by omega) (by omega)⟩⟩
 case done=>rintro D W hD ⟨T,m⟩ O;have M:=vR L (N+1) (N+6) _ W T (by have h:=(S8.1 O).1;omega);rw[vC]at M;dsimp only;(gi_wp2_with (refine⟨trivial,?_⟩;gi_at_call 95;refine(callsIn_wide.2 M).mono ?_;rintro e w2 ⟨rfl,f,a⟩));have U:=a D _ O;refine⟨by simp,.inl ⟨_,_,rfl,run_takeDeferred U,?_⟩⟩;refine⟨_,results_tmp rfl _ _ _,rfl,?_⟩;have t:Below N w w2:=m.trans (f.mono (by omega));rw[<-Z.out];exact t.trans ⟨rfl,rfl,rfl,by simp,λb t=>World.putObj_heap_other (by omega)⟩
end Go.Proofs

import Derived.Deep.QuietTactic
import Derived.OwnWalkIn
import Derived.TacticsInMore
import Derived.LoopNIn
import Derived.LoopIn
import Derived.WalkMore
import Derived.Shelf.Strings.Builder1
import Derived.Shelf.Strings.Replace
import Derived.RangeFuncLeaves
import Derived.Test.YtaglpcmhopjebaaGreatDoorU22
set_option linter.all false
set_option maxRecDepth 100000
set_option maxHeartbeats 20000000
namespace Go.RowKit
def Below.fU{B:Nat}{a w:World}(h:Below B a w)(n:Nat):Below B a (w.drewN n):=⟨h.os,h.tape,h.output,h.size,h.block⟩
end Go.RowKit
namespace Go.Proofs
open Go.Tm Go.RowKit
variable {fs:Array Func} (L:bT fs)
def bP.boxed{K w sc c}(h:bP K w sc c):∃v0 v1 v2 b d e f g i j a,sc=#[v0,v1,v2,b,d,e,f,g,i,j,a]:=by obtain⟨v0,v1,v2,k,l,m,n,rfl,_⟩:=h;exact⟨_,_,_,_,_,_,_,_,_,_,_,rfl⟩
def ni(c:Case)(i:Nat):Int:=(iv c i).elim (-1) (·.eo)
def rS(c m kin k)(a:k<c.rules.length):eD c m kin k (c.rules.drop k)=if mA c m kin c.rules[k]=⟨0,0,0⟩then some (k,bE c.table c.rules[k].kind c.new m)else eD c m kin (k+1) (c.rules.drop (k+1)):=by rw[VO a];rfl
def Bu(c i)(hi:i<c.marks.length)(a:i<c.kin.length):iv c i=(eD c c.marks[i] c.kin[i] 0 c.rules).map λx=>⟨i,x.1,x.2⟩:=by unfold iv;rw[UG hi,UG a]
def DO{c:Case}{i:Nat}{p:Option (Nat×Int)}{k:Nat}{v:Int}(h:iv c i=p.map λx=>⟨i,x.1,x.2⟩)(a:p=some (k,v)):ni c i=k:=by unfold ni;rw[h,a];rfl
def DT{c:Case}{i:Nat}{p:Option (Nat×Int)}(h:iv c i=p.map λx=>⟨i,x.1,x.2⟩)(a:p=none):ni c i= -1:=by unfold ni;rw[h,a];rfl
def QQ{K:Nat->Prop}{sc:Array Value}{c:Case}(i:Nat)(w:World)(F:bP K w sc c)(G:OkC c)(hi:i<c.marks.length):Calls (Qs fs) 130 #[.agg sc,.int .i64 i] w λe w'=>e=.returned (.int .i64 (ni c i))/\Below w.heap.size w w':=by
 have e85:=e85 L;have l:i<c.kin.length:=by rw[G.QO];exact hi
 have m:=Bu c i hi l;have u:=λk (H:k<c.rules.length) x (B:ae w x)=>Pa L i k x (F.stays B) G hi H l;obtain⟨v0,v1,v2,Z,I,J,M,rfl,T,n,U,V,C⟩:=F;obtain⟨o,O,rfl,lr,W,_,X⟩:=n;obtain⟨w1,g⟩:=ex (w.alloc (.cells #[v0,v1,v2,.slice o c.rules.length O,.string c.new.name,.string c.new.word,I,.int .i64 c.new.day,.bool c.new.known,J,M] 60));have y:ae w w1:=by rw[g];exact ae.alloc _ _
 have z:Below w.heap.size w w1:=by rw[g];exact aF _ _
 have ct:∀i v,(#[v0,v1,v2,.slice o c.rules.length O,.string c.new.name,.string c.new.word,I,.int .i64 c.new.day,.bool c.new.known,J,M]:Array Value)[i]? =some v->w1.cell? ⟨w.heap.size,i,none⟩=some v:=λi v h=>by rw[g];exact az w _ 60 i v h
 obtain⟨N,D⟩:=ex (w.heap.size);have b:=λx (B:ae w1 x) i v h=>B.cell (ct i v h);rw[<-D]at b;clear T U V C X;go_enter (n130 L),Tryz.ntmps130;go_wp2;rw[<-g,<-D];clear g D ct;go_loopw [5] (λs wr=>∃k:Nat,k<=c.rules.length/\s=.int .i64 k/\ae w1 wr/\Below w.heap.size w wr/\eD c c.marks[i] c.kin[i] 0 c.rules=eD c c.marks[i] c.kin[i] k (c.rules.drop k)) (λs _=>c.rules.length-(intOf s).toNat);case atStart=>exact⟨0,Ul _,rfl,ae.refl _,z,rfl⟩
 case round=>
  obtain⟨k,H,rfl,a,d,f⟩:=hrel;have u0:=b wr a 0 _ rfl;have u1:=b wr a 1 _ rfl;have u2:=b wr a 2 _ rfl;have u3:=b wr a 3 _ rfl;have u4:=b wr a 4 _ rfl;have u5:=b wr a 5 _ rfl;have u6:=b wr a 6 _ rfl;have u7:=b wr a 7 _ rfl;have u8:=b wr a 8 _ rfl;have u9:=b wr a 9 _ rfl;have Y:=b wr a 10 _ rfl;have HW:Hid _:=(⟨a,d⟩:ae w1 wr/\Below w.heap.size w wr)
  obtain p|hge:=Uh k c.rules.length
  ·have A:=u k p wr (y.trans a);rw[rS c _ _ k p]at f;obtain⟨r,n⟩:=ex (mA c c.marks[i] c.kin[i] c.rules[k]);rw[<-n]at f A;have E:Hid _:=m;obtain⟨P,Q,R⟩:=r;have S:=DN fs P Q R 0 0 0;have hG:=iW fs vZ .eql (.tmp 16) (.tmp 17);unfold Dt at A;by_cases q:(⟨P,Q,R⟩:Dj)=⟨0,0,0⟩
   ·rw[Ud q]at f;cases q;have t:Hid _:=f;rw[Um ⟨rfl,rfl,rfl⟩]at S;clear f n u b y z a d m;go_wp2_with (first|(go_at_call 85;refine A.mono ?_;rintro e w3 ⟨rfl,j⟩));go_ret;exact⟨by rw[DO E.out t.out];rfl,HW.out.2.trans (j.mono HW.out.2.size)⟩
   rw[Uc q]at f;have t:Hid _:=f;rw[Uj (λh=>q (by rw[h.1,h.2.1,h.2.2]))]at S;clear f n u b y z a d m q;go_wp2_with (first|(go_at_call 85;refine A.mono ?_;rintro e w3 ⟨rfl,j⟩));exact⟨⟨k+1,by omega,by go_num,HW.out.1.trans (ae.below j),HW.out.2.trans (j.mono HW.out.2.size),t.out⟩,by simp[intOf];omega⟩
  have t:Hid _:=f;have E:Hid _:=m;clear a d u b y z f m;go_wp2;go_ret;refine⟨?_,HW.out.2⟩;have f:=t.out;rw[UP hge]at f;rw[DT E.out f];rfl
def DU(i j:Nat):decide ((i:Int)<j)=decide (i<j):=by by_cases h:i<j;rw[Um h,Um (by omega)];rw[Uj h,Uj (by omega)]
def nj(x:Hit):Value:=.agg #[.int .i64 x.mark,.int .i64 x.eo,.int .i64 x.level]
def pr(c)(i:Nat)(hi:i<c.marks.length):gX c i=c.marks[i].day:=by unfold gX;rw[Int.toNat_natCast,UG hi];rfl
def Ms{K:Nat->Prop}{sc:Array Value}{c:Case}(i j:Nat)(f g m n:Int)(w:World)(hc:bP K w sc c)(hi:i<c.marks.length)(C:j<c.marks.length):Calls (Qs fs) 131 #[.agg sc,nj ⟨i,f,g⟩,nj ⟨j,m,n⟩] w λe w'=>e=.returned (.bool (aU c ⟨i,f,g⟩ ⟨j,m,n⟩))/\Below w.heap.size w w':=by
 obtain⟨v0,v1,v2,U,V,W,X,rfl,ht,s,hf,Y,D⟩:=hc;obtain⟨q,a⟩:=ex (w.alloc (.cells #[v0,v1,v2,U,.string c.new.name,.string c.new.word,V,.int .i64 c.new.day,.bool c.new.known,W,X] 60));obtain⟨t,d⟩:=ex (q.alloc (.cells #[.int .i64 i,.int .i64 f,.int .i64 g] 66));obtain⟨w1,l⟩:=ex (t.alloc (.cells #[.int .i64 j,.int .i64 m,.int .i64 n] 66));have E:ae t w1:=by rw[l];exact ae.alloc _ _
 have F:ae q w1:=(by rw[d];exact ae.alloc _ _:ae q t).trans E;have G:ae w w1:=(by rw[a];exact ae.alloc _ _:ae w q).trans F;have Z:Below w.heap.size w w1:=by rw[l,d,a];exact(((Below.refl _ w).alloc (Ue _) _).alloc (by simp) _).alloc (by simp;omega) _
 have p:q.heap.size=w.heap.size+1:=by rw[a];simp
 have hsb:t.heap.size=w.heap.size+1+1:=by rw[d,<-p];simp
 have ct:∀i v,(#[v0,v1,v2,U,.string c.new.name,.string c.new.word,V,.int .i64 c.new.day,.bool c.new.known,W,X]:Array Value)[i]? =some v->w1.cell? ⟨w.heap.size,i,none⟩=some v:=λi v h=>F.cell (by rw[a];exact az w _ 60 i v h);have z:∀k v,(#[.int .i64 i,.int .i64 f,.int .i64 g]:Array Value)[k]? =some v->w1.cell? ⟨w.heap.size+1,k,none⟩=some v:=λi v h=>E.cell (by rw[d,<-p];exact az q _ 66 i v h);have A:∀k v,(#[.int .i64 j,.int .i64 m,.int .i64 n]:Array Value)[k]? =some v->w1.cell? ⟨w.heap.size+1+1,k,none⟩=some v:=λi v h=>by rw[l,<-hsb];exact az t _ 66 i v h
 obtain⟨N0,H⟩:=ex (w.heap.size);obtain⟨N1,I⟩:=ex (w.heap.size+1);obtain⟨N2,J⟩:=ex (w.heap.size+1+1);have M:=Y.stays G λb b' o x e h=>by subst e;exact pO.carry (Carry.keep G) b b o x rfl h
 obtain⟨aa,cm,rfl,lm,ab,_,N⟩:=M;obtain⟨bm,om,rfl,_,_,_,x3,_⟩:=N i hi;obtain⟨ad,af,O,_,_,_,y3,_⟩:=N j C;cases O;have t9:=ct 9 _ rfl;have a0:=z 0 _ rfl;have a1:=z 1 _ rfl;have a2:=z 2 _ rfl;have b0:=A 0 _ rfl;have b1:=A 1 _ rfl;have b2:=A 2 _ rfl;rw[<-J]at b0 b1 b2;rw[<-I]at a0 a1 a2;rw[<-H]at t9;have hP:aU c ⟨i,f,g⟩ ⟨j,m,n⟩=if f≠m then decide (f<m)else if g≠n then decide (n<g)else if c.marks[i].day≠c.marks[j].day then decide (c.marks[i].day<c.marks[j].day)else decide ((i:Int)<j):=by unfold aU;simp only[];rw[pr c i hi,pr c j C]
 have r:Hid _:=hP;obtain⟨d1,u⟩:=ex (c.marks[i].day);obtain⟨d2,y⟩:=ex (c.marks[j].day);rw[<-u]at x3 r;rw[<-y]at y3 r;have B:Hid _:=Z;have HI:Hid _:=(⟨hi,C⟩:i<c.marks.length/\j<c.marks.length)
 have ag:(i:Int)<(c.marks.length:Int):=by omega
 have ak:(j:Int)<(c.marks.length:Int):=by omega
 unfold nj;go_enter (n131 L),Tryz.ntmps131;go_upto_region 1 with fail;rw[<-a,<-d,<-l,<-J,<-I,<-H];clear a d l F E G Z p hsb ct z A ht s hf Y D N H I J hP u y;by_cases s:f=m
 ·subst s;have P:(f !=f)=false:=by simp
  by_cases Q:g=n
  ·subst Q;(have R:(g !=g)=false:=by simp);by_cases S:d1=d2
   ·subst S;(have T:(d1 !=d1)=false:=by simp);go_wp2;go_quiet (fail);go_wp2;go_ret;refine⟨?_,B.out.fU _⟩;rw[r.out,Uc (λh=>h rfl),Uc (λh=>h rfl),Uc (λh=>h rfl),DU];rfl
   (have T:(d1 !=d2)=true:=by simpa using S);go_wp2;go_quiet (fail);go_wp2;go_quiet (fail);go_wp2;go_ret;refine⟨?_,(B.out.fU _).fU _⟩;rw[r.out,Uc (λh=>h rfl),Uc (λh=>h rfl),Ud S];rfl
  have R:(g !=n)=true:=by simpa using Q
  go_wp2;go_ret;refine⟨?_,B.out⟩;rw[r.out,Uc (λh=>h rfl),Ud Q];rfl
 have P:(f !=m)=true:=by simpa using s
 go_wp2;go_ret;refine⟨?_,B.out⟩;rw[r.out,Ud s];rfl
end Go.Proofs
namespace Go.Proofs
open Go.Tm Go.RowKit
variable {fs:Array Func} (L:bT fs)
def dx{w w':World}{b o}(h:w'.heap[b]? =w.heap[b]?):w'.cell? ⟨b,o,none⟩=w.cell? ⟨b,o,none⟩:=by unfold World.cell?;rw[show w'.heap[(⟨b,o,none⟩:Addr).block]? =w.heap[(⟨b,o,none⟩:Addr).block]? from h]
def vA{a}(h:0<a.size):(hU a none).1.size=1:=by show(a.extract 0 1).size=1;rw[VF];omega
def GB(a ob p)(c:1<=p.1.size):eh a.data.toList ob p=if(hU a ob).2.2<(p.1.size:Int)/\p.1.data.toList.isPrefixOf a.data.toList=true then some p else ob:=by (unfold eh;have:decide ((ob.elim 0 λq=>q.1.size)<p.1.size)=decide ((hU a ob).2.2<(p.1.size:Int)):=by cases ob with|none=>show decide (0<p.1.size)=decide ((0:Int)<(p.1.size:Int));rw[Um (by omega),Um (by omega)]|some q=>show decide (q.1.size<p.1.size)=decide ((q.1.size:Int)<(p.1.size:Int));by_cases h:q.1.size<p.1.size;rw[Um h,Um (by omega)];rw[Uj h,Uj (by omega)]);rw[this];by_cases b:(hU a ob).2.2<(p.1.size:Int)<;>cases d:p.1.data.toList.isPrefixOf a.data.toList<;>simp[b]
def GC(W:World)(a:Nat):Nat:=match W.cell? ⟨a,0,none⟩with
 |some (.string s)=>s.size
 |_=>0
def zV{W a s}(h:W.cell? ⟨a,0,none⟩=some (.string s)):GC W a=s.size:=by unfold GC;rw[h]
def J0{a:List Pr2}(e:∀p∈a,1<=p.1.size)(cur)(f:0<cur.size):ep a cur.data.toList=(hU cur (bO a cur.data.toList)).2.1::ep a (cur.extract (hU cur (bO a cur.data.toList)).1.size cur.size).data.toList/\1<=(hU cur (bO a cur.data.toList)).1.size/\(hU cur (bO a cur.data.toList)).1.size<=cur.size:=by (have c:=drop_cons cur 0 f;rw[UM]at c;have g:∀k,(cur.extract k cur.size).data.toList=cur.data.toList.drop k:=λk=>by rw[Lib.extract_data];exact WX (by rw[Uq,Lib.size_eq];exact Ue _));cases d:bO a cur.data.toList with|some p=>have i:=e p (gY d);have b:=(Va.1 (nZ d)).length_le;rw[<-Lib.size_eq,<-Lib.size_eq]at b;refine⟨?_,i,b⟩;rw[g];rw[c]at d⊢;exact Gt e d|none=>have j:=vA f;refine⟨?_,by omega,by omega⟩;rw[g,j];rw[c]at d;have h:=Dw d;rw[<-c]at h;have l:cur.data.toList.drop 1=cur.data.toList.drop (0+1):=rfl;have m:cur.extract 0 1=⟨#[cur[0]]⟩:=lP (by rw[Lib.extract_data,UM,c];rfl);(have n:cur.data.toList.head?.any aQ=aQ cur[0]:=by rw[c];rfl);rw[h,l];show _=(if cur.data.toList.head?.any aQ=true then cur.extract 0 1 else⟨#[]⟩)::_;rw[m,n]
def Mt{K v0 ls}(n s g m G w)(aa:g<w.heap.size)(H:m<w.heap.size)(ab:g≠G)(I:m≠G)(M:m≠g)(N:∀b,K b->b<w.heap.size/\b≠g/\b≠G) (c:aE K 2 dA w v0 ls) (a:w.rowIs g 9 1 (λ_=>.string s)) (d:w.cell? ⟨m,0,none⟩=some v0) (ok:∀p∈ls,1<=p.1.size) (hs:s.size<=1000) (l) (J:List ByteArray->World->Prop) (W) (hW:Below w.heap.size w W) (hJ:∀pre W W',Stp W.heap.size g W W'->J pre W->J pre W') (hY:∀pre x O,J pre O->pre++[x]<+:ep ls s.data.toList->YieldAt Fence.wide n (Qs fs) l #[.string x] O λe W'=>e=.returned (.bool true)/\J (pre++[x]) W'/\Stp w.heap.size G O W') (h0:J [] W):Calls (Qs fs) 132 #[.func (.yield l) #[] #[],.pointer (some ⟨g,0,none⟩),.pointer (some ⟨m,0,none⟩)] W λe W'=>(∃v,e=.returned v)/\J (ep ls s.data.toList) W':=by
 have e91:=e91 L;have OY:=OY L;have HH:Hid (g<w.heap.size/\m<w.heap.size/\g≠G/\m≠G/\m≠g/\(∀b,K b->b<w.heap.size/\b≠g/\b≠G)):=⟨aa,H,ab,I,M,N⟩
 have HJ:Hid (∀pre W W',Stp W.heap.size g W W'->J pre W->J pre W'):=hJ;have HY:Hid (∀pre x O,J pre O->pre++[x]<+:ep ls s.data.toList->YieldAt Fence.wide n (Qs fs) l #[.string x] O λe W'=>e=.returned (.bool true)/\J (pre++[x]) W'/\Stp w.heap.size G O W'):=hY;have ad:Hid (∀p∈ls,1<=p.1.size):=ok;have HS:Hid (aE K 2 dA W v0 ls/\W.rowIs g 9 1 (λ_=>.string s)/\W.cell? ⟨m,0,none⟩=some v0/\J [] W/\w.heap.size<=W.heap.size):=⟨c.blocks λb P=>hW.block b (N b P).1,a.of_block (hW.block g aa),(dx (hW.block m H)).trans d,h0,hW.size⟩
 clear hJ hY ok h0 c a d hW N;go_enter (n132 L),Tryz.ntmps132;go_wp2;go_loopw [4] (λs4 wr=>∃(pre:List ByteArray) (cur:ByteArray),aE K 2 dA wr v0 ls/\wr.rowIs g 9 1 (λ_=>.string cur)/\wr.cell? ⟨m,0,none⟩=some v0/\J pre wr/\w.heap.size<=wr.heap.size/\pre++ep ls cur.data.toList=ep ls s.data.toList/\cur.size<=1000) (λs4 wr=>GC wr g);case atStart=>exact⟨[],s,HS.out.1,HS.out.2.1,HS.out.2.2.1,HS.out.2.2.2.1,HS.out.2.2.2.2,rfl,hs⟩
 case round=>
  clear HS;obtain⟨pre,cur,c,a,d,hj,t,f,hc⟩:=hrel;have C:Hid (aE K 2 dA wr v0 ls/\wr.rowIs g 9 1 (λ_=>.string cur)/\J pre wr/\w.heap.size<=wr.heap.size/\pre++ep ls cur.data.toList=ep ls s.data.toList):=⟨c,a,hj,t,f⟩
  have hw:=a.cell (show 0<1 by omega);have Q:=a.frozen 0;clear c a hj t f;by_cases R:cur.size=0
  ·(have ax:cur.toList.isEmpty=true:=by rw[Lib.toList_data,fH];exact Um R);go_wp2
   (go_end0);refine⟨⟨_,rfl⟩,?_⟩;have h:=C.out.2.2.2.2;have hn:cur.data.toList=[]:=VD.1 (by rw[<-Lib.size_eq];exact R);rw[hn]at h;have h2:ep ls []=[]:=rfl;rw[h2,Vb]at h;subst h;exact C.out.2.2.1
  have af:0<cur.size:=by omega
  have ax:cur.toList.isEmpty=false:=by rw[Lib.toList_data,fH];exact Uj R
  have bk:(1:Int)<=(cur.size:Int):=by omega
  have S:∀wx,Calls (Qs fs) 91 #[.int .u8 (cur[0].toNat:Int)] wx λe w'=>e=.returned (.bool (aQ cur[0]))/\w'=wx:=λwx=>m7 fs (n91 L) _ wx;have q:Hid ((hU cur none).1=cur.extract 0 1/\(hU cur none).2.1=(if aQ cur[0]=true then cur.extract 0 1 else⟨#[]⟩)/\(hU cur none).2.2=0):=by refine⟨rfl,?_,rfl⟩;have hd:=drop_cons cur 0 af;rw[UM]at hd;show(if cur.data.toList.head?.any aQ=true then _ else _)=_;rw[hd];rfl
  obtain⟨z,D⟩:=ex (aQ cur[0]);rw[<-D]at S q;clear D;go_wp2
  go_step3
  go_upto_if 15 with(first|(go_at_call 91;refine(S _).mono ?_;clear S;rintro e w2 ⟨rfl,rfl⟩))
  go_cut [4,5]from 9 to 52 (λs4 s5 wx=>s4=.string (hU cur none).1/\s5=.string (hU cur none).2.1/\wx=w2)
  case first=>cases z with|true=>go_wp2;all_goals (go_meet;exact⟨by rw[q.out.1],by rw[q.out.2.1];simp,rfl⟩)|false=>go_wp2;all_goals (go_meet;exact⟨by rw[q.out.1],by rw[q.out.2.1];simp,rfl⟩)
  case rest=>
   obtain⟨rfl,rfl,rfl⟩:=hcut;have ay:Hid ((hU cur none).2.2=0):=q.out.2.2;clear q;obtain⟨ao,cc,rfl,aM,a1,a6,r⟩:=id C.out.1;clear aM a1 a6;go_wp2
   (go_step3);go_wp2;go_loopw [21,4,5,6] (λT s4 s5 s6 wi=>∃(j:Nat) (ob:Option Pr2),j<=ls.length/\T=.int .i64 j/\s4=.string (hU cur ob).1/\s5=.string (hU cur ob).2.1/\s6=.int .i64 (hU cur ob).2.2/\bO (ls.take j) cur.data.toList=ob/\aE K 2 dA wi (.slice ao ls.length cc) ls/\wi.rowIs g 9 1 (λ_=>.string cur)/\wi.cell? ⟨m,0,none⟩=some (.slice ao ls.length cc)/\J pre wi/\w.heap.size<=wi.heap.size) (λT _ _ _ _=>ls.length-(intOf T).toNat);case atStart=>exact⟨0,none,Ul _,rfl,rfl,rfl,by rw[ay.out],rfl,C.out.1,C.out.2.1,d,C.out.2.2.1,C.out.2.2.2.1⟩
   case round=>
    (clear hw Q d;obtain⟨j,ob,hj,rfl,rfl,rfl,rfl,U,c,a,d,E,t⟩:=hrel;have u:Hid _:=U;have HI:Hid (aE K 2 dA wr (.slice ao ls.length cc) ls/\wr.rowIs g 9 1 (λ_=>.string cur)/\wr.cell? ⟨m,0,none⟩=some (.slice ao ls.length cc)/\J pre wr/\w.heap.size<=wr.heap.size):=⟨c,a,d,E,t⟩);(have y:Hid (∀w',Below wr.heap.size wr w'->aE K 2 dA w' (.slice ao ls.length cc) ls/\w'.rowIs g 9 1 (λ_=>.string cur)/\w'.cell? ⟨m,0,none⟩=some (.slice ao ls.length cc)/\J pre w'/\w.heap.size<=w'.heap.size):=λw' h=>⟨c.blocks λb P=>h.block b (by have:=(HH.out.2.2.2.2.2 b P).1;omega),a.of_block (h.block _ (by have:=HH.out.1;omega)),(dx (h.block _ (by have:=HH.out.2.1;omega))).trans d,HJ.out _ _ _ (Stp.Di h) E,by have:=h.size;omega⟩);have hw:=a.cell (show 0<1 by omega);have Q:=a.frozen 0;obtain V|hge:=Uh j ls.length
    ·obtain⟨_,_,e',_,_,_,r⟩:=c;(cases e';obtain⟨b,bp,rfl,x0,x1⟩:=r j V;have hp:=ad.out ls[j] (Up V);have A:Hid _:=GB cur ob ls[j] hp;have F:Hid _:=j6 ls j V cur.data.toList;obtain⟨pp,ag⟩:=ex (ls[j]);rw[<-ag]at x0 x1 A F;obtain⟨ak,B⟩:=ex ((hU cur ob).2.2);rw[<-B]at A⊢;have an:Hid _:=B;have k:=λwx=>od L cur pp.1 wx;have bq:(j:Int)<(ls.length:Int):=by omega);have br:∀o,(wr.alloc o).cell? ⟨g,0,none⟩=some (.string cur):=λo=>(a.alloc o).cell (show 0<1 by omega);clear ag U a E t r B hp;by_cases X:(pp.1.size:Int)<=ak
     ·(have HN:Hid (bO (ls.take (j+1)) cur.data.toList=ob):=by rw[Hid,F.out,u.out,A.out,Uc (by omega)]);clear k;go_wp2;refine⟨⟨j+1,ob,by omega,by go_num,rfl,rfl,by rw[an.out],HN.out,?_⟩,by simp[intOf];omega⟩;exact y.out _ (by first|exact aF _ _|exact(aF _ _).fU _)
     have bm:decide ((pp.1.size:Int)<=ak)=false:=Uj X
     cases D:pp.1.data.toList.isPrefixOf cur.data.toList with
     |false=>(rw[D]at k;have HN:Hid (bO (ls.take (j+1)) cur.data.toList=ob):=by rw[Hid,F.out,u.out,A.out,Uc (by rw[D];simp)]);clear X D;go_wp2_with (first|(go_at_call 133;refine(k _).mono ?_;clear k;rintro e w3 ⟨rfl,rfl⟩));refine⟨⟨j+1,ob,by omega,by go_num,rfl,rfl,by rw[an.out],HN.out,?_⟩,by simp[intOf];omega⟩;exact y.out _ (by first|exact aF _ _|exact(aF _ _).fU _)
     |true=>(rw[D]at k;have HN:Hid (bO (ls.take (j+1)) cur.data.toList=some pp):=by rw[Hid,F.out,u.out,A.out,Ud ⟨by omega,D⟩]);clear X D;go_wp2_with (first|(go_at_call 133;refine(k _).mono ?_;clear k;rintro e w3 ⟨rfl,rfl⟩));go_quiet (fail);go_wp2;refine⟨⟨j+1,some pp,by omega,by go_num,rfl,rfl,rfl,HN.out,?_⟩,by simp[intOf];omega⟩;exact y.out _ (by first|exact aF _ _|exact(aF _ _).fU _)
    (obtain rfl:j=ls.length:=by omega);(rw[VC]at u;go_upto_region 11 with fail;have PN:=J0 ad.out cur af;rw[u.out]at PN;obtain⟨ar,a7,a8⟩:=PN;have f:=C.out.2.2.2.2;rw[ar]at f;obtain⟨x,hx⟩:=ex ((hU cur ob).2.1);obtain⟨fr,Y⟩:=ex ((hU cur ob).1);rw[<-hx,<-Y]at f⊢;rw[<-Y]at a7 a8;obtain⟨fn,tmps,assign,body,hy,hR⟩:=HY.out pre x wr HI.out.2.2.2.1 ⟨ep ls (cur.extract fr.size cur.size).data.toList,by rw[<-f,Vn];rfl⟩;have HT:Hid ((pre++[x])++ep ls (cur.extract fr.size cur.size).data.toList=ep ls s.data.toList):=by rw[Hid,<-f,Vn];rfl);(have bo:(fr.size:Int)<=(cur.size:Int):=by omega);clear U c a d E t ar f hx Y hw Q;refine(wpIn_wide (n:=n+1)).1 ?_
    (gi_wp2);refine hR.mono ?_;rintro e W' ⟨rfl,ba,hS⟩;have Z:W'.rowIs g 9 1 (λ_=>.string cur):=HI.out.2.1.of_block (hS.block _ HH.out.1 HH.out.2.2.1);have bb:=Z.cell (show 0<1 by omega);have bs:=Z.frozen 0;clear hR hy
    (gi_wp2);go_wp2;simp(config:={zetaDelta:=true}) only [Exit.noGoto_normal,Exit.inBlock,Exit.then]
    (go_roundw);(case rel=>obtain⟨_,_,ab,I,M,N⟩:=HH.out;refine⟨pre++[x],cur.extract fr.size cur.size,HI.out.1.blocks λb P=>(Below.heap_setCell W' ⟨g,0,none⟩ _ b (N b P).2.1).trans (hS.block b (N b P).1 (N b P).2.2),(Z.set 0 _).congr λi hi=>?_,(dx (Below.heap_setCell W' ⟨g,0,none⟩ _ m M)).trans ((dx (hS.block m H I)).trans HI.out.2.2.1),HJ.out _ W' _ (Stp.setCell W' 0 _) ba,?_,HT.out,?_⟩;rw[Ud (by omega)];exact Uf HI.out.2.2.2.2 (Uf hS.size (Stp.setCell (n:=0) W' 0 _).size);rw[VF];omega);case measure=>rw[zV (C.out.2.1.cell (show 0<1 by omega)),zV (s:=cur.extract fr.size cur.size) (World.cell?_setCell_same' _ _ _ (by rw[bb];rfl)),VF];omega
end Go.Proofs
namespace Go.Proofs
open Go.Tm Go.RowKit Go.Shelf
variable {fs:Array Func} (L:bT fs)
def lW(fs:Array Func):Builder.Extra (Qs fs) tK where
 sizeBuilder:=(by kernel_rfl:(Tryz.prog.info? (tK.t 72)).map (·.size)=some 2)
 liesBuilder:=by kernel_rfl
 t5:=(aI _ _ _).trans Tryz.underlying5
 a5:=λw=>(Bb _ _ _ w).trans (Tryz.isAgg5 w)
 z5:=λw=>(wK _ _ _ w).trans (Tryz.sizeOf5 w)
 v5:=λw=>(jr _ _ _ w).trans (Tryz.zeroValue5 w)
 infoByte:=(by kernel_rfl:(Tryz.prog.info? (tK.t 5)).map (λi=>(i.zero,i.size,i.bytes))=some (some (.int .u8 0),1,1))
 cellsByte:=by kernel_rfl
 sizeByte:=(by kernel_rfl:(Tryz.prog.info? (tK.t 5)).map (·.size)=some 1)
 neB5:=by decide
def gz(q:Prop)(b B:Nat)(bs:List Value)(w:World):Prop:=b<B/\∃p v,(p=.pointer none\/p=.pointer (some ⟨b,0,none⟩))/\w.heap[b]? =some (.cells #[p,v] 153 (0,0))/\w.ownsRow B 5 1 v bs.length bs/\(bs=[]->q\/v=.slice none 0 0)
def gz.keep{q}{b B:Nat}{bs:List Value}{w w':World}(h:gz q b B bs w)(d:∀k c e F,w.heap[k]? =some (.cells c e F)->(k=b\/B<=k)->w'.heap[k]? =some (.cells c e F)):gz q b B bs w':=by obtain⟨j,p,v,l,m,f,n⟩:=h;refine⟨j,p,v,l,d _ _ _ _ m (.inl rfl),⟨f.1,?_⟩,n⟩;obtain h|⟨g,cap,a,k1,i,o,r⟩:=f.2;exact .inl h;exact .inr ⟨g,cap,a,k1,i,d _ _ _ _ o (.inr i),r⟩
def Bv{w:World}{B B' e k v n xs}(h:w.ownsRow B' e k v n xs)(i:B<=B'):w.ownsRow B e k v n xs:=by refine⟨h.1,?_⟩;obtain b|⟨g,cap,a,c,j,d,f⟩:=h.2;exact .inl b;exact .inr ⟨g,cap,a,c,by omega,d,f⟩
def jf{q}(b B:Nat)(bs:List Value)(s:ByteArray)(w:World)(h:gz q b B bs w)(T:bs.length+s.size<=140737488355328)(hB:B<=w.heap.size):Calls (Qs fs) 94 #[.pointer (some ⟨b,0,none⟩),.string s] w λe w'=>e=.returned (.tuple #[.int .i64 s.size,.nilIface])/\gz q b B (bs++Lib.strCells s) w'/\Stp B b w w':=by (have OZ:=OZ L;have X:=lW fs;have m:Lays.n240 (Qs fs) tK:={(jL L).2.2 with});(obtain⟨Y,p,v,U,a,i,n⟩:=h;obtain⟨i0,hi,G,H,I⟩:=info_parts X.infoByte;have J:(Qs fs).info? 5=some i0:=hi;have Z:b<w.heap.size:=by omega);(have t:Calls (Qs fs) 134 #[.pointer (some ⟨b,0,none⟩)] w λe w'=>e=.returned (.tuple #[])/\w'.heap[b]? =some (.cells #[.pointer (some ⟨b,0,none⟩),v] 153 (0,0))/\Stp B b w w'/\w'.heap.size=w.heap.size/\∀k,k≠b->w'.heap[k]? =w.heap[k]? :=by obtain rfl|rfl:=U;have c:=Any.Builder_copyCheck_fresh m X.toX72 b w (by rw[Lib.cell_of_heap a];rfl) (by simp[World.shape?,a];rfl) (Lib.frozen_of_heap a 0);(refine c.mono ?_;rintro e w' ⟨rfl,rfl⟩;refine⟨rfl,?_,Stp.setCell _ _ _,by simp[World.setCell],λk V=>Below.heap_setCell w ⟨b,0,none⟩ _ k V⟩;have K:(w.heap.modify b λo=>match o with| .cells c e F=>.cells (c.setIfInBounds 0 (.pointer (some ⟨b,0,none⟩))) e F|o=>o)[b]? =some (.cells #[.pointer (some ⟨b,0,none⟩),v] 153 (0,0)):=by rw[U5,a];simp);exact K;have c:=Any.Builder_copyCheck_used m X.toX72 b w (by rw[Lib.cell_of_heap a];rfl);refine c.mono ?_;rintro e w' ⟨rfl,rfl⟩;exact⟨rfl,a,Stp.refl _ _ _,rfl,λ_ _=>rfl⟩);(have M:v.ownBlock≠some b:=by intro e;have:=et i b e;omega);clear U a;go_enter (n94 L),Tryz.ntmps94;go_wp2_with (go_at_call 134;refine t.mono ?_);(clear t;rintro e w1 ⟨rfl,u,x,W,y⟩;have j:w1.ownsRow B 5 1 v bs.length bs:=by refine⟨i.1,?_⟩;obtain h|⟨g,cap,l,k1,N,O,P⟩:=i.2;exact .inl h;exact .inr ⟨g,cap,l,k1,N,(y g (by omega)).trans O,P⟩);(have c1:w1.cell? ⟨b,1,none⟩=some v:=by rw[Lib.cell_of_heap u];rfl);(have z:b<w1.heap.size:=by omega);(go_wp2_with (at_builtin;refine Lib.wpList_append_own_string _ rfl _ _ 120 9 rfl B 5 i0 Tryz.underlying120 Tryz.underlying9 J G H I _ _ _ rfl j s rfl ?c3 ?c4 ?c5 ?_));(case c3=>unfold maxLen;omega);(case c4=>omega);(case c5=>omega);(intro v' w2 d f A;have Q:Hid _:=A;have R:Hid _:=n;clear A n;have r:w2.heap[b]? =some (.cells #[.pointer (some ⟨b,0,none⟩),v] 153 (0,0)):=by rw[f.block b z (λe=>M e.symm)];exact u);(have d1:w2.cell? ⟨b,1,none⟩=some v:=by rw[Lib.cell_of_heap r];rfl);(have f1:w2.frozen? ⟨b,1,none⟩=false:=Lib.frozen_of_heap r 1;obtain⟨C,D,cap,rfl⟩:∃C D cap,v'=.slice C D cap:=by obtain⟨S,_⟩|⟨g,cap,l,S,_⟩:=d.2;exact⟨_,_,_,S⟩;exact⟨_,_,_,S⟩);have E:Hid _:=f;clear f;go_wp2;(go_ret2);refine⟨rfl,⟨Y,.pointer (some ⟨b,0,none⟩),.slice C D cap,.inr rfl,?_,?_,?_⟩,?_⟩;(have K:(w2.heap.modify b λo=>match o with| .cells c e F=>.cells (c.setIfInBounds 1 (.slice C D cap)) e F|o=>o)[b]? =some (.cells #[.pointer (some ⟨b,0,none⟩),.slice C D cap] 153 (0,0)):=by rw[U5,r];simp);exact K;rw[Uw,Lib.strCells_length];refine⟨d.1,?_⟩;obtain h|⟨g,cap,l,k1,N,O,P⟩:=d.2;exact .inl h;exact .inr ⟨g,cap,l,k1,N,(Below.heap_setCell w2 ⟨b,1,none⟩ _ g (by show g≠b;omega)).trans O,P⟩;intro e;(obtain⟨e1,e2⟩:=List.append_eq_nil_iff.1 e;have e3:s.size=0:=by rw[<-Lib.strCells_length,e2];rfl);exact(R.out e1).imp id λe4=>Q.out.2 ⟨e4,by simpa using e3⟩;refine x.trans (Stp.trans ⟨E.out.os,E.out.tape,E.out.output,E.out.size,λk V _=>E.out.block k (by omega) (λe=>?_)⟩ (Stp.setCell _ _ _));have:=et j k e.symm;omega
def DV:nS.ntmps=14:=by kernel_rfl
def Bw{w w':World}{b:Nat}(h:Below b w w')(g:∀D,b<=D->w'.heap[D]? =w.heap[D]? \/∃c e F,w.heap[D]? =some (.cells c e F)):∀(D:Nat) (ds:Option (List Deferred)),w.heap[D]? =some (Go.Obj.deferred ds)->w'.heap[D]? =some (Go.Obj.deferred ds):=λD ds a=>by obtain d|hge:=Uh D b;exact(h.block D d).trans a;obtain f|⟨c,e,F,f⟩:=g D hge;exact f.trans a;rw[f]at a;cases a
def xc(b B:Nat)(l:List UInt8)(w:World)(h:gz False b B (Lib.byteCells l) w)(F:b<=w.heap.size):Calls (Qs fs) 95 #[.pointer (some ⟨b,0,none⟩)] w λe w'=>e=.returned (.string (bs l))/\Below b w w'/\∀(D:Nat) (ds:Option (List Deferred)),w.heap[D]? =some (Go.Obj.deferred ds)->w'.heap[D]? =some (Go.Obj.deferred ds):=by
 have X:=lW fs;have k:(Qs fs).follows .mixedOrders=true:=(jL L).1.mixed;obtain⟨N,p,v,O,i,a,d⟩:=h;cases l with
 |nil=>(have m:v=.slice none 0 0:=(d rfl).elim False.elim id;subst m;have n:=Lib.run_unsafeString_none (P:=Qs fs);have G:w.drew.cell? ⟨b,1,none⟩=some (.slice none 0 0):=by have:w.drew.heap[b]? =some (.cells #[p,.slice none 0 0] 153 (0,0)):=i;rw[Lib.cell_of_heap this];rfl);have o:(Builtin.unsafeSliceData_ #[120] qG #[.slice none 0 0]).run (Qs fs) w.drew=.ok (.pointer none) w.drew:=rfl;clear d;go_enter (n95 L),DV;go_wp2;(go_region_o);all_goals (go_wp2;go_ret;exact⟨rfl,Below.drew (Below.refl b w),λD ds A=>A⟩)
 |cons x r=>
  obtain⟨l,q⟩:=ex (x::r);rw[<-q]at a⊢;have C:l≠[]:=by rw[q];simp
  clear q d;have s:l.length≠0:=by simpa using C
  rw[Lib.byteCells_length]at a;obtain⟨g,cap,c,rfl,H,t,I,u,y,f⟩:∃g cap c,v=.slice (some ⟨g,0,none⟩) l.length cap/\B<=g/\w.heap[g]? =some (.cells c 5 (0,0))/\l.length<=cap/\cap<=maxLen/\c.size=cap*1/\c.toList.take (l.length*1)=Lib.byteCells l:=by obtain⟨_,J⟩|⟨g,cap,c,m,r⟩:=a.2;exact absurd J s;exact⟨g,cap,c,m,r⟩
  have G:w.drew.cell? ⟨b,1,none⟩=some (.slice (some ⟨g,0,none⟩) l.length cap):=by have:w.drew.heap[b]? =some (.cells #[p,.slice (some ⟨g,0,none⟩) l.length cap] 153 (0,0)):=i;rw[Lib.cell_of_heap this];rfl
  have o:(Builtin.unsafeSliceData_ #[120] qG #[.slice (some ⟨g,0,none⟩) l.length cap]).run (Qs fs) w.drew=.ok (.pointer (some ⟨g,0,none⟩)) w.drew:=Lib.run_unsafeSliceData_row _ _ _ _ _ _ (by omega);have n:(Builtin.unsafeString_ #[203,3] 9 #[.pointer (some ⟨g,0,none⟩),.int .i64 l.length]).run (Qs fs) w.drew=.ok (.string ⟨l.toArray⟩) (w.drew.freeze ⟨g,0,none⟩ l.length):=by refine Lib.run_unsafeString_row w.drew 203 3 9 5 ((aI _ _ _).trans Tryz.underlying203) X.cellsByte g c.size (by have z:w.drew.heap[g]? =some (.cells c 5 (0,0)):=t;simp[World.shape?,z]) l C (by omega) (by unfold maxLen at u;omega) ?_;intro j x K;have:=a.cells (g:=g) rfl j (.int .u8 x.toNat) (by simp[Lib.byteCells,K]);exact this
  have E:Hid (Below b w (w.drew.freeze ⟨g,0,none⟩ l.length)):=Lib.below_freeze (Below.drew (Below.refl b w)) (p:=⟨g,0,none⟩) (by show b<=g;omega) _;have M:Hid _:=t;clear t a y f;go_enter (n95 L),DV;go_wp2
  go_region_o
  all_goals (
   go_wp2;go_ret;refine⟨rfl,E.out,Bw E.out λD A=>?_⟩;by_cases e:D=g
   ·subst e
    exact .inr ⟨_,_,_,M.out⟩
   ·exact .inl (gM w.drew ⟨g,0,none⟩ _ D e))
end Go.Proofs
namespace Go.Proofs
open Go.Tm Go.RowKit Go.Shelf
variable {fs:Array Func} (L:bT fs)
attribute [local go_sem] Oper.semAt_some
def Pj(v0 v1 v2:Value)(s:ByteArray)(w:World):Calls (Qs fs) 93 #[.agg #[v0,v1,v2],.string s] w λe w'=>e=.returned (.func (.func 132) #[] #[.pointer (some ⟨w.heap.size+1,0,none⟩),.pointer (some ⟨w.heap.size,0,none⟩)])/\w'=(w.alloc (.cells #[v0,v1,v2] 100)).alloc (.cells #[.string s] 9):=by have a:∀(fn:Fn) (first cap:Array Value) (w:World),(Instr.makeFunc fn first cap).run (Qs fs) w=.ok (.func fn first cap) w:=λ_ _ _ _=>rfl;go_enter (n93 L),Tryz.ntmps93;go_wp2;go_ret;exact⟨by simp,rfl⟩
def xd(x):Lib.strCells x=Lib.byteCells x.data.toList:=rfl
def y7(a b):Lib.byteCells a++Lib.byteCells b=Lib.byteCells (a++b):=by unfold Lib.byteCells;rw[V9]
def zW(a:List Pr2)(h:∀p∈a,1<=p.1.size/\p.1.size<=4/\p.2.size<=3)(s):(aL a s).length<=3*s.length:=rF a h _ s
def DX{l}{xs:List ByteArray}(h:l<+:xs):(l.flatMap λx=>x.data.toList).length<=(xs.flatMap λx=>x.data.toList).length:=by obtain⟨t,rfl⟩:=h;rw[WI,Uw];omega
def qQ{K:Nat->Prop}{v0 v1 v2:Value}{ls:List Pr2}(s:ByteArray)(w:World)(q:aE K 2 dA w v0 ls)(V:∀p∈ls,1<=p.1.size/\p.1.size<=4/\p.2.size<=3)(r:s.size<=1000):Calls (Qs fs) 53 #[.agg #[v0,v1,v2],.string s] w λe w'=>e=.returned (.string (bs (aL ls s.data.toList)))/\Below w.heap.size w w':=by
 have e93:=e93 L;have e94:=e94 L;have e95:=e95 L;have QL:=QL L;refine callsIn_wide.1 (?_:CallsIn Fence.wide 5 _ _ _ _ _);refine callsIn_of_wp_marks (n53 L) rfl trivial ?_ rfl;simp only[Tryz.ntmps53,UB,Ug,Uv,Nat.reduceAdd,Nat.reduceSub,Xz,Array.replicate_zero,List.push_toArray,List.append_toArray,Wr,WJ];have z:=λwx=>Pj L v0 v1 v2 s wx
 gi_wp2_with (refine⟨trivial,?_⟩;gi_at_call 93;refine(callsIn_wide.2 (z _)).mono ?_;rintro e w3 ⟨rfl,rfl⟩)
 clear z;obtain⟨N,A⟩:=ex (w.heap.size);rw[<-A];obtain⟨P,n⟩:=ex (w.alloc (.cells #[v0,v1,v2] 100));obtain⟨B,j⟩:=ex (P.alloc (.cells #[.pointer none,.slice none 0 0] 153));obtain⟨y,g⟩:=ex (B.alloc (.cells #[v0,v1,v2] 100));obtain⟨W0,d⟩:=ex (y.alloc (.cells #[.string s] 9));rw[<-n,<-j,<-g,<-d];have Q:P.heap.size=N+1:=by rw[n,A];simp
 have sb:B.heap.size=N+2:=by rw[j];simp[Q]
 have sc:y.heap.size=N+3:=by rw[g];simp[sb]
 have sd:W0.heap.size=N+4:=by rw[d];simp[sc]
 have X:Below N w W0:=by rw[d,g,j,n];exact((((Below.refl N w).alloc (by omega) _).alloc (by simp;omega) _).alloc (by simp;omega) _).alloc (by simp;omega) _
 have C:W0.heap[N+1]? =some (.cells #[.pointer none,.slice none 0 0] 153 (0,0)):=by (have f:B.heap[N+1]? =some (.cells #[.pointer none,.slice none 0 0] 153 (0,0)):=by rw[j,<-Q];exact World.alloc_heap_new P _);(have a:y.heap[N+1]? =B.heap[N+1]? :=by rw[g];exact Below.heap_alloc _ _ _ (by omega));(have Y:W0.heap[N+1]? =y.heap[N+1]? :=by rw[d];exact Below.heap_alloc _ _ _ (by omega));rw[Y,a,f]
 have E:W0.cell? ⟨N+2,0,none⟩=some v0:=by (have f:y.cell? ⟨N+2,0,none⟩=some v0:=by rw[g,<-sb];exact az B _ 100 0 _ rfl);exact(dx (by rw[d];exact Below.heap_alloc _ _ _ (by omega))).trans f
 have u:W0.rowIs (N+3) 9 1 (λ_=>.string s):=by have h:=World.rowIs_alloc y #[.string s] 9 (λ_=>.string s) (λi hi=>by (have:i=0:=by simp at hi;omega);subst this;rfl);rw[sc,<-d]at h;exact h
 have v:aE (λb=>b<N) 2 dA W0 v0 ls:=by have h:=q.below;rw[<-A]at h;exact h.blocks λb t=>X.block b t
 have Z:Hid _:=A;clear n j g d Q sb sc q A;refine yQ rfl (by omega) (gf:=132) (lb:=#[.pointer (some ⟨N+1+1+1,0,none⟩),.pointer (some ⟨N+1+1,0,none⟩)]) rfl trivial QL (encs:=λx:ByteArray=>#[.string x]) (λ_=>rfl) (N+3) (N+1) (by omega) (by omega) (ep ls s.data.toList)
  (λpre W=>gz False (N+1) (N+6) (Lib.byteCells (pre.flatMap λx=>x.data.toList)) W/\Below N w W) ?hI1 ?hI2 ?h0 ?hseq
  (λx=>{tmps:=#[.agg #[v0,v1,v2],.string s,.pointer (some ⟨N,0,none⟩),undef,.string ⟨#[]⟩,.pointer (some ⟨N+1,0,none⟩),.string x,.agg #[v0,v1,v2],.string s,.func (.func 132) #[] #[.pointer (some ⟨N+1+1+1,0,none⟩),.pointer (some ⟨N+1+1,0,none⟩)],.string x,undef,undef,undef],defers:=[]}) ?assign ?body ?done
 case hI1=>(rintro pre W l o o' hl ho R ⟨f,a⟩;refine⟨f.keep λk c e F G _=>?_,a.trans ⟨rfl,rfl,rfl,by simp,λb t=>World.putObj_heap_other (by omega)⟩⟩;have S:k≠l:=by rintro rfl;rw[G]at ho;cases ho;cases R);exact(World.putObj_heap_other S).trans G
 case hI2=>rintro pre W W' r ⟨f,a⟩;refine⟨f.keep λk c e F G aa=>(r.block k (Uk.1 G).1 (by omega)).trans G,a.trans ⟨r.os,r.tape,r.output,r.size,λb t=>r.block b (by have:=a.size;have:=Z.out;omega) (by omega)⟩⟩
 case h0=>exact⟨⟨by omega,.pointer none,.slice none 0 0,.inl rfl,C,World.ownsRow_nil _ _ _ _,λ_=>.inr rfl⟩,X⟩
 case hseq=>intro l J W hW hJ hY h0;exact callsIn_wide.2 (Mt L _ s (N+3) (N+2) (N+1) W0 (by omega) (by omega) (by omega) (by omega) (by omega) (λb t=>⟨by omega,by omega,by omega⟩) v u E (λp hp=>(V p hp).1) r l J W hW hJ hY h0)
 case assign=>intro l x W K O;(gi_wp2);exact O
 case body=>(rintro l pre x W ⟨T,m⟩ H ab;have I:(Lib.byteCells (pre.flatMap λx=>x.data.toList)).length+x.size<=140737488355328:=by (have f:=DX H;rw[wR]at f;have a:=zW ls V s.data.toList;rw[<-Lib.size_eq]at a;rw[WI,Uw]at f;rw[Lib.byteCells_length];have Y:([x].flatMap λx=>x.data.toList).length=x.size:=by rw[VR,List.flatMap_nil,Vb];exact(Lib.size_eq x).symm);omega);(gi_wp2_with (refine⟨trivial,?_⟩;gi_at_call 94;refine(CallsIn.inRound l (callsIn_wide.2 (jf L (N+1) (N+6) _ x W T I (by omega)))).mono ?_;rintro e w2 ⟨rfl,f,a⟩));rw[xd,y7]at f;exact⟨f,m.trans ⟨a.os,a.tape,a.output,a.size,λb t=>a.block b (by omega) (by omega)⟩⟩
 case done=>rintro D W hD ⟨T,m⟩ O;have M:=xc L (N+1) (N+6) _ W T (by have h:=(Uk.1 O).1;omega);rw[wR]at M;dsimp only;(gi_wp2_with (refine⟨trivial,?_⟩;gi_at_call 95;refine(callsIn_wide.2 M).mono ?_;rintro e w2 ⟨rfl,f,a⟩));have U:=a D _ O;refine⟨by simp,.inl ⟨_,_,rfl,run_takeDeferred U,?_⟩⟩;refine⟨_,results_tmp rfl _ _ _,rfl,?_⟩;have t:Below N w w2:=m.trans (f.mono (by omega));rw[<-Z.out];exact t.trans ⟨rfl,rfl,rfl,by simp,λb t=>World.putObj_heap_other (by omega)⟩
end Go.Proofs

import Derived.Lib.Replace
import Derived.Test.YtaglpcmhopjebaaGreatDoorY29
set_option linter.all false
set_option maxRecDepth 100000
set_option maxHeartbeats 20000000
namespace Go.Proofs
open Go.Tm Go.RowKit Go.Shelf
variable {fs:Array Func} (L:bQ fs)
theorem mF(p)(a:p.1.data.toList≠[])(b:p.1.data.toList=p.2.data.toList):∀(n) (s),s.length<=n->cQ p s=s
 |_,[],_=>mv p
 |0,c::s,h=>by simp at h
 |n+1,c::s,h=>by
  cases d:p.1.data.toList.isPrefixOf (c::s)with
  |true=>
   rw[my d a,mF p a b n _ (by rw[RI];have:0<p.1.data.toList.length:=SY.2 a;omega),<-b]
   obtain⟨t,e⟩:=S9.1 d;rw[<-e,List.drop_left]
  |false=>rw[kZ d,mF p a b n s (by simp only[Rs]at h;omega)]
theorem iI(p)(b:p.1.data.toList≠[]):∀(n) (s:Bs),s.length<=n->Lib.replaceK p.1.data.toList p.2.data.toList (Lib.count s p.1.data.toList) s=cQ p s
 |n,[],_=>by
  have a:Lib.index [] p.1.data.toList= -1:=by unfold Lib.index;rw[Ro (by simpa using b)]
  rw[Lib.count_miss a,mv,Lib.replaceK]
 |0,c::s,h=>by simp at h
 |n+1,c::s,h=>by
  simp only[Rs]at h;have f:0<p.1.data.toList.length:=SY.2 b;cases d:p.1.data.toList.isPrefixOf (c::s)with
  |true=>
   have a:Lib.index (c::s) p.1.data.toList=((0:Nat):Int):=by unfold Lib.index;rw[Rp d];rfl
   rw[Lib.count_hit b a,Tu 1,Lib.replaceK_hit _ _ _ _ 0 a,my d b,RB,Si,Tc,iI p b n _ (by rw[RI,Rs];omega)]
  |false=>
   rw[kZ d,<-iI p b n s (by omega)];have k:=Lib.index_ge s p.1.data.toList;by_cases g:Lib.index s p.1.data.toList= -1
   ·have a:Lib.index (c::s) p.1.data.toList= -1:=by unfold Lib.index;rw[Ro (by rw[d];simp),g];rfl
    rw[Lib.count_miss a,Lib.count_miss g,Lib.replaceK,Lib.replaceK]
   ·obtain⟨i,a⟩:∃i:Nat,Lib.index s p.1.data.toList=i:=⟨(Lib.index s p.1.data.toList).toNat,by omega⟩
    have e:Lib.index (c::s) p.1.data.toList=((i+1:Nat):Int):=by unfold Lib.index;rw[Ro (by rw[d];simp),Ro (by rw[a,Sq];omega),a];omega
    have j:(c::s).drop (i+1+p.1.data.toList.length)=s.drop (i+p.1.data.toList.length):=by rw[show i+1+p.1.data.toList.length=(i+p.1.data.toList.length)+1 by omega,Sk]
    rw[Lib.count_hit b e,Lib.count_hit b a,j,Tu 1,Lib.replaceK_hit _ _ _ _ _ e,Lib.replaceK_hit _ _ _ _ _ a,j,R7];simp
def pS(p)(b:p.1.data.toList≠[])(s:Bs):Lib.replaceAll s p.1.data.toList p.2.data.toList=cQ p s:=by
 unfold Lib.replaceAll Lib.replace;by_cases a:p.1.data.toList=p.2.data.toList
 ·rw[Rp (by rw[Sq];exact a),mF p b a _ s (Rq _)]
 ·rw[Ro (by rw[Sq];exact a)]
  unfold Lib.replaceNum;rw[Rp (.inl (by decide)),iI p b _ s (Rq _)]
def gZ(w:World):Prop:=∃m,w.cell? ⟨2,0,none⟩=some (.int .i64 m)
def gZ.stays{w w'}(h:gZ w)(a:ae w w'):gZ w':=h.elim λm h=>⟨m,a.cell h⟩
def zW(s:ByteArray)(p:Pr2)(w:World)(i:s.size<=100000)(a:gZ w)(b:1<=p.1.size)(d:p.2.size<=100):Calls (Qs fs) 139 #[.string s,.string p.1,.string p.2] w λe w'=>e=.returned (.string (bs (cQ p s.data.toList)))/\Below w.heap.size w w':=by
 obtain⟨m,a⟩:=a;have f:p.1.data.toList≠[]:=λh=>by have:=Lib.size_eq p.1;rw[h,RF]at this;omega
 have g:Lib.countB s p.1<=s.size+1:=by have:=Lib.count_le s.data.toList p.1.data.toList;rw[<-Lib.size_eq]at this;exact this
 have c:=Any.strings_ReplaceAll (P:=Qs fs) (ρ:=xJ) (pR L).2 (lu fs) s p.1 p.2 m w (by omega) a b (by have:Lib.countB s p.1*p.2.size<=(s.size+1)*100:=Nat.mul_le_mul g d;omega)
 rw[pS p f]at c;exact c
def J2(s:ByteArray)(p:Pr2)(a:Nat)(w:World)(d:s.size<=100000)(b:gZ w)(f:1<=p.1.size)(g:p.2.size<=100)(h:w.cell? ⟨a,0,none⟩=some (.string p.1))(i:w.cell? ⟨a,1,none⟩=some (.string p.2)):
 Calls (Qs fs) 138 #[.string s,.pointer (some ⟨a,0,none⟩)] w λe w'=>e=.returned (.string (bs (cQ p s.data.toList)))/\Below w.heap.size w w':=by
 have PF:=PF L;have q:=zW L s p w d b f g;obtain⟨z,c⟩:=ex (bs (cQ p s.data.toList));rw[<-c]at q⊢;clear c b;go_enter (n138 L),Tryz.ntmps138;go_wp2_with (first|(go_at_call 139;refine q.mono ?_;clear q;rintro e w2 ⟨rfl,j⟩))
 go_ret;exact⟨rfl,j⟩
end Go.Proofs
namespace Go.Proofs
def jw(c:Case)(k:Nat):List Hit:=((List.range k).filterMap (gU c)).foldl (λl h=>eA c h l) []
def nF(c k)(h:gU c k=none):jw c (k+1)=jw c k:=by unfold jw;rw[T6,Vt,Uj];simp[h]
def nG(c k x)(h:gU c k=some x):jw c (k+1)=eA c x (jw c k):=by unfold jw;rw[T6,Vt,Uj];simp[h]
theorem iR(c h):∀l,(eA c h l).length=l.length+1
 | []=>rfl
 |x::l=>by
  unfold eA;split
  ·rw[Rs,iR c h l,Rs]
  ·rfl
theorem pT(c h):∀l x,x∈eA c h l->x=h\/x∈l
 | [],x,a=>.inl (TD.1 a)
 |y::l,x,a=>by
  unfold eA at a;split at a
  ·obtain e|e:=RX.1 a
   ·exact .inr (e▸TP ..)
   ·obtain e'|e':=pT c h l x e
    ·exact .inl e'
    ·exact .inr (TQ _ e')
  ·obtain e|e:=RX.1 a
   ·exact .inl e
   ·exact .inr e
theorem pc(c):∀k,(jw c k).length<=k
 |0=>Rq _
 |k+1=>by
  have a:=pc c k;cases h:gU c k with
  |none=>rw[nF c k h];omega
  |some x=>rw[nG c k x h,iR];omega
theorem qS{c m kin}:∀(l) (j r) (v),(∀i,l[i]? =c.rules[j+i]?)->ey c m kin j l=some (r,v)->∃h,v=bD c.table c.rules[r].kind c.new m
 | [],j,r,v,_,h=>by cases h
 |x::l,j,r,v,b,h=>by
  unfold ey at h;split at h
  ·cases h
   have a:=b 0;rw[SM,Vu]at a;have d:j<c.rules.length:=(Ts.1 a.symm).1;rw[R5 d]at a;cases a;exact⟨d,rfl⟩
  ·refine qS l (j+1) r v (λi=>?_) h
   have:=b (i+1);rw[List.getElem?_cons_succ]at this;rw[this]
   congr 1
   omega
def tG(c k)(d:k<c.marks.length)(e:k<c.kin.length):(mC c k= -1/\gU c k=none)\/∃r,∃h:r<c.rules.length,mC c k=r/\gU c k=some ⟨k,r,bD c.table c.rules[r].kind c.new c.marks[k]⟩:=by
 have a:=zV c k d e;cases b:ey c c.marks[k] c.kin[k] 0 c.rules with
 |none=>rw[b]at a;exact .inl ⟨by unfold mC;rw[a];rfl,a⟩
 |some x=>obtain⟨r,v⟩:=x;obtain⟨h,rfl⟩:=qS c.rules 0 r v (λi=>by rw[RB]) b;rw[b]at a;exact .inr ⟨r,h,by unfold mC;rw[a];rfl,a⟩
theorem mG(c)(b:c.kin.length=c.marks.length):∀k,k<=c.marks.length->∀x∈jw c k,∃(i r:Nat) (v:Int),i<c.marks.length/\r<c.rules.length/\-1000000<=0/\x=⟨i,r,v⟩
 |0,_,x,a=>by cases a
 |k+1,f,x,a=>by
  obtain⟨_,h⟩|⟨r,d,_,h⟩:=tG c k (by omega) (by omega)
  ·rw[nF c k h]at a
   exact mG c b k (by omega) x a
  ·rw[nG c k _ h]at a
   obtain rfl|e:=pT c _ _ _ a
   ·exact⟨k,r,_,by omega,d,by decide,rfl⟩
   ·exact mG c b k (by omega) x e
def Cc(c h l k)(b:k<=l.length)(d:∀i (a:i<l.length),i<k->aQ c l[i] h=true)(e:∀a,aQ c l[k] h=false):eA c h l=l.take k++h::l.drop k:=by
 induction l generalizing k with
 |nil=>cases k with
  |zero=>rfl
  |succ k=>simp at b
 |cons x l g=>
  cases k with
  |zero=>have:=e (TO _);simp only[UR]at this;unfold eA;rw[this];rfl
  |succ k=>
   have f:=d 0 (TO _) (TO _);simp only[UR]at f;unfold eA;rw[f,Rp rfl,g k (by simpa using b) (λi a j=>?_) λa=>?_]
   ·rfl
   ·have:=d (i+1) (by simpa using a) (by omega)
    simpa using this
   ·have:=e (by simpa using a)
    simpa using this
def bq(l:List Hit):List Go.Value:=l.flatMap λx=>[.int .i64 x.mark,.int .i64 x.dZ,.int .i64 x.level]
def hU(l):(bq l).length=l.length*3:=by
 induction l with
 |nil=>rfl
 |cons x l a=>unfold bq at a⊢;rw[Tr,RM,a,Rs];simp only[Rs,RF];omega
def zX(a b):bq (a++b)=bq a++bq b:=by unfold bq;rw[T9]
def sK(l):∀u∈bq l,∃n,u=.int .i64 n:=by intro u a;unfold bq at a;obtain⟨x,_,b⟩:=US.1 a;simp only[RX,Se,Sf]at b;rcases b with e|e|e<;>exact⟨_,e⟩
def Cd(l k)(a:k<l.length):(bq l)[k*3]? =some (.int .i64 l[k].mark)/\(bq l)[k*3+1]? =some (.int .i64 l[k].dZ)/\(bq l)[k*3+2]? =some (.int .i64 l[k].level):=by
 induction l generalizing k with
 |nil=>cases a
 |cons x l b=>
  cases k with
  |zero=>exact⟨rfl,rfl,rfl⟩
  |succ k=>
   have h:=b k (by simpa using a);have e:bq (x::l)=[.int .i64 x.mark,.int .i64 x.dZ,.int .i64 x.level]++bq l:=rfl;rw[e];have e3:∀j,([.int .i64 x.mark,.int .i64 x.dZ,.int .i64 x.level]++bq l:List Go.Value)[(k+1)*3+j]? =(bq l)[k*3+j]? :=λj=>by
    rw[UM (by simp;omega)]
    congr 1
    simp;omega
   exact⟨(e3 0).trans h.1,(e3 1).trans h.2.1,(e3 2).trans h.2.2⟩
def EJ(l k):bq (l.drop k)=(bq l).drop (k*3):=by
 induction l generalizing k with
 |nil=>simp[bq]
 |cons x l a=>
  cases k with
  |zero=>rfl
  |succ k=>have e:bq (x::l)=.int .i64 x.mark:: .int .i64 x.dZ:: .int .i64 x.level::bq l:=rfl;rw[Sk,a,e,show(k+1)*3=k*3+1+1+1 by omega,Sk,Sk,Sk]
def EL(l k):bq (l.take k)=(bq l).take (k*3):=by
 induction l generalizing k with
 |nil=>simp[bq]
 |cons x l a=>
  cases k with
  |zero=>simp[bq]
  |succ k=>have e:∀l,bq (x::l)=.int .i64 x.mark:: .int .i64 x.dZ:: .int .i64 x.level::bq l:=λ_=>rfl;rw[R7,e,a,e,show(k+1)*3=k*3+1+1+1 by omega,R7,R7,R7]
def mI(c a b):aQ c a b=true↔a.dZ<b.dZ\/(a.dZ=b.dZ/\(b.level<a.level\/(a.level=b.level/\(gF c a.mark<gF c b.mark\/(gF c a.mark=gF c b.mark/\a.mark<b.mark))))):=by
 unfold aQ;generalize gF c a.mark=x;generalize gF c b.mark=y;by_cases d:a.dZ=b.dZ
 ·rw[Ro (λh=>h d)]
  by_cases e:a.level=b.level
  ·rw[Ro (λh=>h e)]
   by_cases f:x=y
   ·rw[Ro (λh=>h f)]
    simp only[RJ];omega
   ·rw[Rp f]
    simp only[RJ];omega
  ·rw[Rp e]
   simp only[RJ];omega
 ·rw[Rp d]
  simp only[RJ];omega
def oK(c a b):aQ c a b=false↔¬(a.dZ<b.dZ\/(a.dZ=b.dZ/\(b.level<a.level\/(a.level=b.level/\(gF c a.mark<gF c b.mark\/(gF c a.mark=gF c b.mark/\a.mark<b.mark)))))):=by rw[<-mI];simp
def Cx(c a):aQ c a a=false:=by rw[oK];omega
def Aj{c a b}(h:aQ c a b=true):aQ c b a=false:=by rw[mI]at h;rw[oK];omega
def before_trans{c a b d}(h:aQ c a b=true)(k:aQ c b d=true):aQ c a d=true:=by rw[mI]at*;omega
def pj{c a b d}(h:aQ c a b=false)(k:aQ c b d=false):aQ c a d=false:=by rw[oK]at*;omega
def Ig{c a b}(h:aQ c a b=false)(k:aQ c b a=false):a=b:=by
 rw[oK]at*;have d:a.dZ=b.dZ:=by omega
 have e:a.level=b.level:=by omega
 have f:a.mark=b.mark:=by omega
 cases a;cases b;simp_all
def kO(c:Case)(l:List Hit):Prop:=l.Pairwise λx y=>aQ c y x=false
theorem pk(c h):∀l,kO c l->kO c (eA c h l)
 | [],_=>by simp[eA,kO]
 |x::xs,d=>by
  have a:=U4.1 d;unfold eA;split
  ·rename_i b
   refine U4.2 ⟨λy hy=>?_,pk c h xs a.2⟩;obtain rfl|hy:=pT c h xs y hy
   ·exact Aj b
   ·exact a.1 y hy
  ·rename_i b
   have b:aQ c x h=false:=by simpa using b
   refine U4.2 ⟨λy hy=>?_,d⟩;obtain rfl|hy:=RX.1 hy
   ·exact b
   ·exact pj (a.1 y hy) b
theorem tI(c h):∀l,(eA c h l).Perm (h::l)
 | []=>.refl _
 |x::xs=>by
  unfold eA;split
  ·exact((tI c h xs).cons x).trans (.swap h x xs)
  ·exact .refl _
theorem Ak(c):∀(xs acc:List Hit),kO c acc->kO c (xs.foldl (λl h=>eA c h l) acc)/\(xs.foldl (λl h=>eA c h l) acc).Perm (xs++acc)
 | [],acc,a=>⟨a,.refl _⟩
 |x::xs,acc,a=>by obtain⟨b,d⟩:=Ak c xs (eA c x acc) (pk c x acc a);refine⟨b,d.trans ?_⟩;exact((List.perm_append_left_iff xs).2 (tI c x acc)).trans (List.perm_middle)
def vI(c):kO c (bX c):=(Ak c _ [] List.Pairwise.nil).1
def jO(c):(bX c).Perm ((List.range c.marks.length).filterMap (gU c)):=by have h:=(Ak c ((List.range c.marks.length).filterMap (gU c)) [] List.Pairwise.nil).2;rw[Th]at h;exact h
def xP{c l m}(d:kO c l)(e:kO c m)(h:l.Perm m):l=m:=List.Perm.eq_of_pairwise (le:=λx y=>aQ c y x=false) (λa b _ _ f g=>Ig g f) d e h
def dx:Table where
 aC:=[(⟨#[207,129]⟩,⟨#[114]⟩),(⟨#[206,191]⟩,⟨#[111]⟩),(⟨#[206,182]⟩,⟨#[122]⟩),(⟨#[206,177]⟩,⟨#[97]⟩),(⟨#[206,178]⟩,⟨#[118]⟩)]
 aO:=[⟨⟨#[105,116]⟩,[(⟨#[122]⟩,⟨#[115]⟩),(⟨#[104]⟩,⟨#[]⟩)]⟩]
 iy:=[[⟨#[114,111,122,97]⟩,⟨#[114,111,115,101]⟩]]
def ua:Mark:=⟨⟨#[110,111,118,97]⟩,⟨#[207,129,206,191,206,182,206,177]⟩,[],9,false⟩
def qp:Mark:=⟨⟨#[97,108,98,97]⟩,⟨#[114,111,115,97]⟩,[],1,false⟩
def QN:Mark:=⟨⟨#[98,101,108,97]⟩,⟨#[114,111,115,101]⟩,[],3,false⟩
def oX:Mark:=⟨⟨#[99,111,114,97]⟩,⟨#[97,115,111,114]⟩,[],2,false⟩
def OU:Mark:=⟨⟨#[100,111,114,97]⟩,⟨#[114,104,111,115,97]⟩,[],9,false⟩
def exC:Case where
 table:=dx
 rules:=[⟨1,90,3,1⟩,⟨2,100,5,2⟩,⟨3,70,6,6⟩]
 new:=ua
 marks:=[qp,QN,oX,OU]
 kin:=[4,5,3,9]
def exA:Mark:=⟨⟨#[97]⟩,⟨#[]⟩,[101,203],0,false⟩
def exB:Mark:=⟨⟨#[98]⟩,⟨#[]⟩,[101,204,305],0,false⟩
def mj:kg dx=0:=by decide+kernel
def xj:o7 exC=0:=by decide+kernel
def Nu:aR dx.aC [207,129,206,191,206,182,206,177]=[114,111,122,97]:=by decide+kernel
def Lz:bH dx 0 [114,104,111,115,97]=[114,111,115,97]:=by decide+kernel
def I7:bD dx 0 ua qp=75:=by decide+kernel
def I8:bD dx 3 ua oX=75:=by decide+kernel
def I9:bD dx 5 exA exB=60:=by decide+kernel
def ml:eT exA=0/\eT exB=0/\eT ua=0/\eT qp=0/\eT oX=0:=by decide+kernel
def Ja:bX exC=[⟨0,0,100⟩,⟨1,1,100⟩]:=by decide+kernel
def Jb:exC.rules.map (lP exC oX 3)=[⟨0,90,0⟩,⟨0,100,2⟩,⟨0,0,3⟩]:=by decide+kernel
def Jc:exC.rules.length=3/\(exC.rules.map (lP exC OU 9))[0]? =some ⟨1,0,0⟩:=by decide+kernel
def LA:gu [114,111,122,97] [114,111,115,101]=[(2,2,115),(3,2,101)]:=by unfold gu;rw[aV,Ro (by decide+kernel),Ro (by decide+kernel),Ro (by decide+kernel),Ro (by decide)];rw[aV,Ro (by decide+kernel),Ro (by decide+kernel),Ro (by decide+kernel),Ro (by decide)];rw[aV,Ro (by decide+kernel),Ro (by decide+kernel),Ro (by decide+kernel),Rp (by decide)];rw[aV,Ro (by decide+kernel),Ro (by decide+kernel),Ro (by decide+kernel),Rp (by decide)];rw[aV];rfl
def Jd:gu [97,98] [98,97]=[(0,0,98),(1,1,0)]:=by unfold gu;rw[aV,Ro (by decide+kernel),Rp (by decide+kernel)];rw[aV,Ro (by decide+kernel),Ro (by decide+kernel),Ro (by decide+kernel),Ro (by decide)];rw[aV,aV];rfl
def tx:OkT dx:=by
 constructor
 ·simp[dx];decide
 ·simp[dx]
 ·intro x a p b
  simp only[dx,RX,Se,Sf]at a;subst a;simp only[RX,Se,Sf]at b;rcases b with rfl|rfl<;>decide
 ·simp[dx]
 ·simp[dx]
 ·simp[dx]
def ub:OkC exC:=by
 constructor
 ·exact tx
 ·constructor<;>simp[exC,ua]<;>decide
 ·intro m a
  simp only[exC,RX,Se,Sf]at a;rcases a with rfl|rfl|rfl|rfl<;>(constructor<;>simp[qp,QN,oX,OU]<;>decide)
 ·decide
 ·decide
 ·decide
 ·simp[exC]
 ·simp[exC]
end Go.Proofs

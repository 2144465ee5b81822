import Derived.Lib.Replace
import Derived.Test.YtaglpcmhopjebaaGreatDoorZ29
set_option linter.all false
set_option maxRecDepth 100000
set_option maxHeartbeats 20000000
namespace Go.Proofs
open Go.Tm Go.RowKit Go.Shelf
variable {fs:Array Func} (L:bX fs)
theorem mI(p)(a:p.1.data.toList≠[])(b:p.1.data.toList=p.2.data.toList):∀(n) (s),s.length<=n->cP p s=s
 |_,[],_=>mA p
 |0,c::s,h=>by simp at h
 |n+1,c::s,h=>by
  cases d:p.1.data.toList.isPrefixOf (c::s)with
  |true=>
   rw[mB d a,mI p a b n _ (by rw[RB];have:0<p.1.data.toList.length:=SU.2 a;omega),<-b]
   obtain⟨t,e⟩:=S6.1 d;rw[<-e,List.drop_left]
  |false=>rw[lj d,mI p a b n s (by simp only[Rq]at h;omega)]
theorem iN(p)(b:p.1.data.toList≠[]):∀(n) (s:Bs),s.length<=n->Lib.replaceK p.1.data.toList p.2.data.toList (Lib.count s p.1.data.toList) s=cP p s
 |n,[],_=>by
  have a:Lib.index [] p.1.data.toList= -1:=by unfold Lib.index;rw[Rm (by simpa using b)]
  rw[Lib.count_miss a,mA,Lib.replaceK]
 |0,c::s,h=>by simp at h
 |n+1,c::s,h=>by
  simp only[Rq]at h;have f:0<p.1.data.toList.length:=SU.2 b;cases d:p.1.data.toList.isPrefixOf (c::s)with
  |true=>
   have a:Lib.index (c::s) p.1.data.toList=((0:Nat):Int):=by unfold Lib.index;rw[Rn d];rfl
   rw[Lib.count_hit b a,Ts 1,Lib.replaceK_hit _ _ _ _ 0 a,mB d b,RA,Sg,Tb,iN p b n _ (by rw[RB,Rq];omega)]
  |false=>
   rw[lj d,<-iN p b n s (by omega)];have k:=Lib.index_ge s p.1.data.toList;by_cases g:Lib.index s p.1.data.toList= -1
   ·have a:Lib.index (c::s) p.1.data.toList= -1:=by unfold Lib.index;rw[Rm (by rw[d];simp),g];rfl
    rw[Lib.count_miss a,Lib.count_miss g,Lib.replaceK,Lib.replaceK]
   ·obtain⟨i,a⟩:∃i:Nat,Lib.index s p.1.data.toList=i:=⟨(Lib.index s p.1.data.toList).toNat,by omega⟩
    have e:Lib.index (c::s) p.1.data.toList=((i+1:Nat):Int):=by unfold Lib.index;rw[Rm (by rw[d];simp),Rm (by rw[a,Sf];omega),a];omega
    have j:(c::s).drop (i+1+p.1.data.toList.length)=s.drop (i+p.1.data.toList.length):=by rw[show i+1+p.1.data.toList.length=(i+p.1.data.toList.length)+1 by omega,Sj]
    rw[Lib.count_hit b e,Lib.count_hit b a,j,Ts 1,Lib.replaceK_hit _ _ _ _ _ e,Lib.replaceK_hit _ _ _ _ _ a,j,R7];simp
def pW(p)(b:p.1.data.toList≠[])(s:Bs):Lib.replaceAll s p.1.data.toList p.2.data.toList=cP p s:=by
 unfold Lib.replaceAll Lib.replace;by_cases a:p.1.data.toList=p.2.data.toList
 ·rw[Rn (by rw[Sf];exact a),mI p b a _ s (Ro _)]
 ·rw[Rm (by rw[Sf];exact a)]
  unfold Lib.replaceNum;rw[Rn (.inl (by decide)),iN p b _ s (Ro _)]
def ia(w:World):Prop:=∃m,w.cell? ⟨2,0,none⟩=some (.int .i64 m)
def ia.stays{w w'}(h:ia w)(a:ae w w'):ia w':=h.elim λm h=>⟨m,a.cell h⟩
def Aj(s:ByteArray)(p:Pr2)(w:World)(i:s.size<=100000)(a:ia w)(b:1<=p.1.size)(d:p.2.size<=100):Calls (Qs fs) 139 #[.string s,.string p.1,.string p.2] w λe w'=>e=.returned (.string (bs (cP p s.data.toList)))/\Below w.heap.size w w':=by
 obtain⟨m,a⟩:=a;have f:p.1.data.toList≠[]:=λh=>by have:=Lib.size_eq p.1;rw[h,RE]at this;omega
 have g:Lib.countB s p.1<=s.size+1:=by have:=Lib.count_le s.data.toList p.1.data.toList;rw[<-Lib.size_eq]at this;exact this
 have c:=Any.strings_ReplaceAll (P:=Qs fs) (ρ:=xV) (pV L).2 (lz fs) s p.1 p.2 m w (by omega) a b (by have:Lib.countB s p.1*p.2.size<=(s.size+1)*100:=Nat.mul_le_mul g d;omega)
 rw[pW p f]at c;exact c
def J2(s:ByteArray)(p:Pr2)(a:Nat)(w:World)(d:s.size<=100000)(b:ia w)(f:1<=p.1.size)(g:p.2.size<=100)(h:w.cell? ⟨a,0,none⟩=some (.string p.1))(i:w.cell? ⟨a,1,none⟩=some (.string p.2)):
 Calls (Qs fs) 138 #[.string s,.pointer (some ⟨a,0,none⟩)] w λe w'=>e=.returned (.string (bs (cP p s.data.toList)))/\Below w.heap.size w w':=by
 have PC:=PC L;have q:=Aj L s p w d b f g;obtain⟨z,c⟩:=ex (bs (cP p s.data.toList));rw[<-c]at q⊢;clear c b;go_enter (n138 L),Tryz.ntmps138;go_wp2_with (first|(go_at_call 139;refine q.mono ?_;clear q;rintro e w2 ⟨rfl,j⟩))
 go_ret;exact⟨rfl,j⟩
end Go.Proofs
namespace Go.Proofs
def jA(c:Case)(k:Nat):List Hit:=((List.range k).filterMap (gY c)).foldl (λl h=>eH c h l) []
def nG(c k)(h:gY c k=none):jA c (k+1)=jA c k:=by unfold jA;rw[T3,Vv,Uj];simp[h]
def nH(c k x)(h:gY c k=some x):jA c (k+1)=eH c x (jA c k):=by unfold jA;rw[T3,Vv,Uj];simp[h]
theorem iW(c h):∀l,(eH c h l).length=l.length+1
 | []=>rfl
 |x::l=>by
  unfold eH;split
  ·rw[Rq,iW c h l,Rq]
  ·rfl
theorem pX(c h):∀l x,x∈eH c h l->x=h\/x∈l
 | [],x,a=>.inl (TB.1 a)
 |y::l,x,a=>by
  unfold eH at a;split at a
  ·obtain e|e:=RX.1 a
   ·exact .inr (e▸TM ..)
   ·obtain e'|e':=pX c h l x e
    ·exact .inl e'
    ·exact .inr (TN _ e')
  ·obtain e|e:=RX.1 a
   ·exact .inl e
   ·exact .inr e
theorem pj(c):∀k,(jA c k).length<=k
 |0=>Ro _
 |k+1=>by
  have a:=pj c k;cases h:gY c k with
  |none=>rw[nG c k h];omega
  |some x=>rw[nH c k x h,iW];omega
theorem qW{c m kin}:∀(l) (j r) (v),(∀i,l[i]? =c.rules[j+i]?)->eG c m kin j l=some (r,v)->∃h,v=bF c.table c.rules[r].kind c.new m
 | [],j,r,v,_,h=>by cases h
 |x::l,j,r,v,b,h=>by
  unfold eG at h;split at h
  ·cases h
   have a:=b 0;rw[Sq,Vw]at a;have d:j<c.rules.length:=(Tq.1 a.symm).1;rw[Sn d]at a;cases a;exact⟨d,rfl⟩
  ·refine qW l (j+1) r v (λi=>?_) h
   have:=b (i+1);rw[List.getElem?_cons_succ]at this;rw[this]
   congr 1
   omega
def tM(c k)(d:k<c.marks.length)(e:k<c.kin.length):(mF c k= -1/\gY c k=none)\/∃r,∃h:r<c.rules.length,mF c k=r/\gY c k=some ⟨k,r,bF c.table c.rules[r].kind c.new c.marks[k]⟩:=by
 have a:=Ai c k d e;cases b:eG c c.marks[k] c.kin[k] 0 c.rules with
 |none=>rw[b]at a;exact .inl ⟨by unfold mF;rw[a];rfl,a⟩
 |some x=>obtain⟨r,v⟩:=x;obtain⟨h,rfl⟩:=qW c.rules 0 r v (λi=>by rw[RA]) b;rw[b]at a;exact .inr ⟨r,h,by unfold mF;rw[a];rfl,a⟩
theorem mJ(c)(b:c.kin.length=c.marks.length):∀k,k<=c.marks.length->∀x∈jA c k,∃(i r:Nat) (v:Int),i<c.marks.length/\r<c.rules.length/\-1000000<=0/\x=⟨i,r,v⟩
 |0,_,x,a=>by cases a
 |k+1,f,x,a=>by
  obtain⟨_,h⟩|⟨r,d,_,h⟩:=tM c k (by omega) (by omega)
  ·rw[nG c k h]at a
   exact mJ c b k (by omega) x a
  ·rw[nH c k _ h]at a
   obtain rfl|e:=pX c _ _ _ a
   ·exact⟨k,r,_,by omega,d,by decide,rfl⟩
   ·exact mJ c b k (by omega) x e
def Cm(c h l k)(b:k<=l.length)(d:∀i (a:i<l.length),i<k->aR c l[i] h=true)(e:∀a,aR c l[k] h=false):eH c h l=l.take k++h::l.drop k:=by
 induction l generalizing k with
 |nil=>cases k with
  |zero=>rfl
  |succ k=>simp at b
 |cons x l g=>
  cases k with
  |zero=>have:=e (TL _);simp only[UR]at this;unfold eH;rw[this];rfl
  |succ k=>
   have f:=d 0 (TL _) (TL _);simp only[UR]at f;unfold eH;rw[f,Rn rfl,g k (by simpa using b) (λi a j=>?_) λa=>?_]
   ·rfl
   ·have:=d (i+1) (by simpa using a) (by omega)
    simpa using this
   ·have:=e (by simpa using a)
    simpa using this
def bu(l:List Hit):List Go.Value:=l.flatMap λx=>[.int .i64 x.mark,.int .i64 x.eo,.int .i64 x.level]
def ic(l):(bu l).length=l.length*3:=by
 induction l with
 |nil=>rfl
 |cons x l a=>unfold bu at a⊢;rw[Tp,RH,a,Rq];simp only[Rq,RE];omega
def Ak(a b):bu (a++b)=bu a++bu b:=by unfold bu;rw[T7]
def sP(l):∀u∈bu l,∃n,u=.int .i64 n:=by intro u a;unfold bu at a;obtain⟨x,_,b⟩:=US.1 a;simp only[RX,R9,Sd]at b;rcases b with e|e|e<;>exact⟨_,e⟩
def Cn(l k)(a:k<l.length):(bu l)[k*3]? =some (.int .i64 l[k].mark)/\(bu l)[k*3+1]? =some (.int .i64 l[k].eo)/\(bu l)[k*3+2]? =some (.int .i64 l[k].level):=by
 induction l generalizing k with
 |nil=>cases a
 |cons x l b=>
  cases k with
  |zero=>exact⟨rfl,rfl,rfl⟩
  |succ k=>
   have h:=b k (by simpa using a);have e:bu (x::l)=[.int .i64 x.mark,.int .i64 x.eo,.int .i64 x.level]++bu l:=rfl;rw[e];have e3:∀j,([.int .i64 x.mark,.int .i64 x.eo,.int .i64 x.level]++bu l:List Go.Value)[(k+1)*3+j]? =(bu l)[k*3+j]? :=λj=>by
    rw[UM (by simp;omega)]
    congr 1
    simp;omega
   exact⟨(e3 0).trans h.1,(e3 1).trans h.2.1,(e3 2).trans h.2.2⟩
def EW(l k):bu (l.drop k)=(bu l).drop (k*3):=by
 induction l generalizing k with
 |nil=>simp[bu]
 |cons x l a=>
  cases k with
  |zero=>rfl
  |succ k=>have e:bu (x::l)=.int .i64 x.mark:: .int .i64 x.eo:: .int .i64 x.level::bu l:=rfl;rw[Sj,a,e,show(k+1)*3=k*3+1+1+1 by omega,Sj,Sj,Sj]
def EX(l k):bu (l.take k)=(bu l).take (k*3):=by
 induction l generalizing k with
 |nil=>simp[bu]
 |cons x l a=>
  cases k with
  |zero=>simp[bu]
  |succ k=>have e:∀l,bu (x::l)=.int .i64 x.mark:: .int .i64 x.eo:: .int .i64 x.level::bu l:=λ_=>rfl;rw[R7,e,a,e,show(k+1)*3=k*3+1+1+1 by omega,R7,R7,R7]
def mL(c a b):aR c a b=true↔a.eo<b.eo\/(a.eo=b.eo/\(b.level<a.level\/(a.level=b.level/\(gG c a.mark<gG c b.mark\/(gG c a.mark=gG c b.mark/\a.mark<b.mark))))):=by
 unfold aR;generalize gG c a.mark=x;generalize gG c b.mark=y;by_cases d:a.eo=b.eo
 ·rw[Rm (λh=>h d)]
  by_cases e:a.level=b.level
  ·rw[Rm (λh=>h e)]
   by_cases f:x=y
   ·rw[Rm (λh=>h f)]
    simp only[RI];omega
   ·rw[Rn f]
    simp only[RI];omega
  ·rw[Rn e]
   simp only[RI];omega
 ·rw[Rn d]
  simp only[RI];omega
def oK(c a b):aR c a b=false↔¬(a.eo<b.eo\/(a.eo=b.eo/\(b.level<a.level\/(a.level=b.level/\(gG c a.mark<gG c b.mark\/(gG c a.mark=gG c b.mark/\a.mark<b.mark)))))):=by rw[<-mL];simp
def CK(c a):aR c a a=false:=by rw[oK];omega
def Ay{c a b}(h:aR c a b=true):aR c b a=false:=by rw[mL]at h;rw[oK];omega
def before_trans{c a b d}(h:aR c a b=true)(k:aR c b d=true):aR c a d=true:=by rw[mL]at*;omega
def pw{c a b d}(h:aR c a b=false)(k:aR c b d=false):aR c a d=false:=by rw[oK]at*;omega
def Il{c a b}(h:aR c a b=false)(k:aR c b a=false):a=b:=by
 rw[oK]at*;have d:a.eo=b.eo:=by omega
 have e:a.level=b.level:=by omega
 have f:a.mark=b.mark:=by omega
 cases a;cases b;simp_all
def kR(c:Case)(l:List Hit):Prop:=l.Pairwise λx y=>aR c y x=false
theorem px(c h):∀l,kR c l->kR c (eH c h l)
 | [],_=>by simp[eH,kR]
 |x::xs,d=>by
  have a:=U5.1 d;unfold eH;split
  ·rename_i b
   refine U5.2 ⟨λy hy=>?_,px c h xs a.2⟩;obtain rfl|hy:=pX c h xs y hy
   ·exact Ay b
   ·exact a.1 y hy
  ·rename_i b
   have b:aR c x h=false:=by simpa using b
   refine U5.2 ⟨λy hy=>?_,d⟩;obtain rfl|hy:=RX.1 hy
   ·exact b
   ·exact pw (a.1 y hy) b
theorem tO(c h):∀l,(eH c h l).Perm (h::l)
 | []=>.refl _
 |x::xs=>by
  unfold eH;split
  ·exact((tO c h xs).cons x).trans (.swap h x xs)
  ·exact .refl _
theorem Az(c):∀(xs acc:List Hit),kR c acc->kR c (xs.foldl (λl h=>eH c h l) acc)/\(xs.foldl (λl h=>eH c h l) acc).Perm (xs++acc)
 | [],acc,a=>⟨a,.refl _⟩
 |x::xs,acc,a=>by obtain⟨b,d⟩:=Az c xs (eH c x acc) (px c x acc a);refine⟨b,d.trans ?_⟩;exact((List.perm_append_left_iff xs).2 (tO c x acc)).trans (List.perm_middle)
def vP(c):kR c (bV c):=(Az c _ [] List.Pairwise.nil).1
def jR(c):(bV c).Perm ((List.range c.marks.length).filterMap (gY c)):=by have h:=(Az c ((List.range c.marks.length).filterMap (gY c)) [] List.Pairwise.nil).2;rw[S9]at h;exact h
def xZ{c l m}(d:kR c l)(e:kR c m)(h:l.Perm m):l=m:=List.Perm.eq_of_pairwise (le:=λx y=>aR c y x=false) (λa b _ _ f g=>Il g f) d e h
def dD:Table where
 aC:=[(⟨#[207,129]⟩,⟨#[114]⟩),(⟨#[206,191]⟩,⟨#[111]⟩),(⟨#[206,182]⟩,⟨#[122]⟩),(⟨#[206,177]⟩,⟨#[97]⟩),(⟨#[206,178]⟩,⟨#[118]⟩)]
 aO:=[⟨⟨#[105,116]⟩,[(⟨#[122]⟩,⟨#[115]⟩),(⟨#[104]⟩,⟨#[]⟩)]⟩]
 iB:=[[⟨#[114,111,122,97]⟩,⟨#[114,111,115,101]⟩]]
def uh:Mark:=⟨⟨#[110,111,118,97]⟩,⟨#[207,129,206,191,206,182,206,177]⟩,[],9,false⟩
def qw:Mark:=⟨⟨#[97,108,98,97]⟩,⟨#[114,111,115,97]⟩,[],1,false⟩
def QL:Mark:=⟨⟨#[98,101,108,97]⟩,⟨#[114,111,115,101]⟩,[],3,false⟩
def o0:Mark:=⟨⟨#[99,111,114,97]⟩,⟨#[97,115,111,114]⟩,[],2,false⟩
def OS:Mark:=⟨⟨#[100,111,114,97]⟩,⟨#[114,104,111,115,97]⟩,[],9,false⟩
def exC:Case where
 table:=dD
 rules:=[⟨1,90,3,1⟩,⟨2,100,5,2⟩,⟨3,70,6,6⟩]
 new:=uh
 marks:=[qw,QL,o0,OS]
 kin:=[4,5,3,9]
def exA:Mark:=⟨⟨#[97]⟩,⟨#[]⟩,[101,203],0,false⟩
def exB:Mark:=⟨⟨#[98]⟩,⟨#[]⟩,[101,204,305],0,false⟩
def mo:km dD=0:=by decide+kernel
def xz:pa exC=0:=by decide+kernel
def Nu:aS dD.aC [207,129,206,191,206,182,206,177]=[114,111,122,97]:=by decide+kernel
def Lz:bI dD 0 [114,104,111,115,97]=[114,111,115,97]:=by decide+kernel
def I9:bF dD 0 uh qw=75:=by decide+kernel
def Ja:bF dD 3 uh o0=75:=by decide+kernel
def Jb:bF dD 5 exA exB=60:=by decide+kernel
def mr:eY exA=0/\eY exB=0/\eY uh=0/\eY qw=0/\eY o0=0:=by decide+kernel
def Jc:bV exC=[⟨0,0,100⟩,⟨1,1,100⟩]:=by decide+kernel
def Jd:exC.rules.map (lR exC o0 3)=[⟨0,90,0⟩,⟨0,100,2⟩,⟨0,0,3⟩]:=by decide+kernel
def Je:exC.rules.length=3/\(exC.rules.map (lR exC OS 9))[0]? =some ⟨1,0,0⟩:=by decide+kernel
def LA:eP [114,111,122,97] [114,111,115,101]=[(2,2,115),(3,2,101)]:=by unfold eP;rw[aP,Rm (by decide+kernel),Rm (by decide+kernel),Rm (by decide+kernel),Rm (by decide)];rw[aP,Rm (by decide+kernel),Rm (by decide+kernel),Rm (by decide+kernel),Rm (by decide)];rw[aP,Rm (by decide+kernel),Rm (by decide+kernel),Rm (by decide+kernel),Rn (by decide)];rw[aP,Rm (by decide+kernel),Rm (by decide+kernel),Rm (by decide+kernel),Rn (by decide)];rw[aP];rfl
def Jf:eP [97,98] [98,97]=[(0,0,98),(1,1,0)]:=by unfold eP;rw[aP,Rm (by decide+kernel),Rn (by decide+kernel)];rw[aP,Rm (by decide+kernel),Rm (by decide+kernel),Rm (by decide+kernel),Rm (by decide)];rw[aP,aP];rfl
def tD:OkT dD:=by
 constructor
 ·simp[dD];decide
 ·simp[dD]
 ·intro x a p b
  simp only[dD,RX,R9,Sd]at a;subst a;simp only[RX,R9,Sd]at b;rcases b with rfl|rfl<;>decide
 ·simp[dD]
 ·simp[dD]
 ·simp[dD]
def ui:OkC exC:=by
 constructor
 ·exact tD
 ·constructor<;>simp[exC,uh]<;>decide
 ·intro m a
  simp only[exC,RX,R9,Sd]at a;rcases a with rfl|rfl|rfl|rfl<;>(constructor<;>simp[qw,QL,o0,OS]<;>decide)
 ·decide
 ·decide
 ·decide
 ·simp[exC]
 ·simp[exC]
end Go.Proofs

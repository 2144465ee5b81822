import Derived.Sort.WalkA
import Derived.Sort.LotA
import Derived.Test.YtaglpcmhopjebaaGreatDoorU30
import Derived.Test.YtaglpcmhopjebaaGreatDoorU34
set_option linter.all false
set_option maxRecDepth 100000
set_option maxHeartbeats 20000000
namespace Go.Tm
open Go.Proofs
def QF:Value->Bool
 | .agg c=>c.toList.all fR
 |v=>fR v
def QG:Value->Bool
 | .agg c=>c.toList.all fR
 | .tuple c=>c.toList.all QF
 |v=>fR v
def AM{c}(h:c.toList.all fR=true):Plain (.agg c):=by intro G π;refine .F9 (aZ.refl λx a=>oG x (UJ.1 h x (Xj.2 a)) G π)
def Ix(v)(h:QF v=true):Plain v:=by cases v with|agg c=>exact AM h|_=>exact oG _ h
def Iy(v)(h:QG v=true):Plain v:=by cases v with|agg c=>exact AM h|tuple c=>intro G π;exact .tuple' (aZ.refl λx a=>Ix x (UJ.1 h x (Xj.2 a)) G π)|_=>exact oG _ h
def Iz:(Tryz.prog.types.toList.all λi=>i.zero.all QG)=true:=by kernel_rfl
def um:dJ Tryz.prog:=λt i z h a=>Iw Tryz.prog.toTables (λt i h z a=>by have b:=UJ.1 Iz i (Xj.2 (UZ h));rw[a]at b;exact Iy z b) t i h z a
def yo(fs):dJ (ah Tryz.prog fs):=λt i z h a=>um t i z h a
def bare:List Nat:=[164,196,198,208,211]
def K6:(gI.all λi=>jb.contains i||bare.contains i)=true:=by kernel_rfl
def AN:(jb.all λi=>i !=74)=true:=by kernel_rfl
def V5{a b:String}(h:(a==b)=false):a≠b:=λe=>by subst e;simp at h
def P0:(Tryz.f164.name== "runtime.NumGoroutine")=false:=by kernel_rfl
def P1:(Tryz.f196.name== "runtime.NumGoroutine")=false:=by kernel_rfl
def P2:(Tryz.f198.name== "runtime.NumGoroutine")=false:=by kernel_rfl
def P3:(Tryz.f208.name== "runtime.NumGoroutine")=false:=by kernel_rfl
def P4:(Tryz.f211.name== "runtime.NumGoroutine")=false:=by kernel_rfl
def Ra:(Tryz.f74.name== "runtime.NumGoroutine")=false:=by kernel_rfl
def P5:Extern.findNext Tryz.f164=none:=by kernel_rfl
def P6:Extern.findNext Tryz.f196=none:=by kernel_rfl
def P7:Extern.findNext Tryz.f198=none:=by kernel_rfl
def P8:Extern.findNext Tryz.f208=none:=by kernel_rfl
def P9:Extern.findNext Tryz.f211=none:=by kernel_rfl
def Rb:Extern.find Tryz.f164=some Extern.AbiNoEscape.same:=by kernel_rfl
def Rc:Extern.find Tryz.f196=some Extern.BytealgIndex.index:=by kernel_rfl
def Re:Extern.find Tryz.f198=some Extern.BytealgCount.count:=by kernel_rfl
def Rf:Extern.find Tryz.f208=some (Extern.BytealgMakeNoZero.makeNoZero Tryz.f208.params Tryz.f208.resultTypes):=by kernel_rfl
def Rg:Extern.find Tryz.f211=some Extern.BytealgIndexByte.indexByte:=by kernel_rfl
def NP:(Tryz.prog.globals.findIdx? (·.name== "internal/bytealg.MaxLen"))=some 2:=by kernel_rfl
def NR{S Q fs}(b:Q.globals=Tryz.prog.globals)(d:S.dF 2=true){i}(hi:bare.contains i=true):∃g,Tryz.prog.funcs[i]? =some g/\g.name≠ "runtime.NumGoroutine" /\g.body=none/\Extern.findNext g=none/\∃e,Extern.find g=some e/\∀(π:Ren Q.globals.size),(∀g,S.dF g=true->π g g)->∀(a A),VsR π a A->SR S (ah Q fs) Q VQ π (e a) (e A):=by (have h:i=164\/i=196\/i=198\/i=208\/i=211:=by simpa[bare]using hi);obtain rfl|rfl|rfl|rfl|rfl:=h;exact⟨_,Tryz.func164,V5 P0,rfl,P5,_,Rb,λπ _ a A h=>NJ h⟩;exact⟨_,Tryz.func196,V5 P1,rfl,P6,_,Rc,λπ f a A h=>KV f (λg c=>by rw[b,NP]at c;cases c;exact d) h⟩;exact⟨_,Tryz.func198,V5 P2,rfl,P7,_,Re,λπ _ a A h=>NK h⟩;exact⟨_,Tryz.func208,V5 P3,rfl,P8,_,Rf,λπ _ a A h=>zv _ _ h⟩;exact⟨_,Tryz.func211,V5 P4,rfl,P9,_,Rg,λπ _ a A h=>CK h⟩
def Jt{S Q g0}(j:Q.globals=Tryz.prog.globals)(n:S.dF 2=true)(o:Js Q)(k:∀i,jb.contains i=true->S.ent i=true)(h74:S.stop 74=true\/He g0){f g}(h:(fO g0)[f]? =some g):S.ent f=true\/S.stop f=true\/He g\/(Q.funcs[f]? =some g/\g.name≠ "runtime.NumGoroutine" /\g.body=none/\Extern.findNext g=none/\∃e,Extern.find g=some e/\∀(π:Ren Q.globals.size),(∀g,S.dF g=true->π g g)->∀(a A),VsR π a A->SR S (ah Q (fO g0)) Q VQ π (e a) (e A)):=by
 rw[oW]at h;by_cases e:f=74;subst e;obtain h74|h74:=h74;exact .inr (.inl h74);cases c:Tryz.prog.funcs[74]? with|none=>rw[c]at h;cases h|some f=>rw[c]at h;simp at h;subst h;exact .inr (.inr (.inl h74))
 by_cases b:f=95;subst b;exact .inl (k 95 (by kernel_rfl))
 cases d:gI.contains f with
 |false=>cases c:Tryz.prog.funcs[f]? with|none=>rw[c]at h;cases h|some q=>rw[c]at h;simp only[UW,Uc e,Uc b,d,Uz,Uy,UX]at h;subst h;exact .inr (.inr (.inl ⟨rfl,rfl,rfl⟩))
 |true=>cases l:jb.contains f with|true=>exact .inl (k f l)|false=>have m:=UJ.1 K6 f (VL.1 d);rw[l,WK]at m;obtain⟨g',e1,p,e3,e4,x,e5,e6⟩:=NR (S:=S) (fs:=fO g0) j n m;rw[e1]at h;simp only[UW,Uc e,Uc b,d,Us,UX]at h;subst h;exact .inr (.inr (.inr ⟨(o.1 f d b).trans e1,p,e3,e4,x,e5,e6⟩))
def Fo{Q:Program}(d:dJ Q)(a:Q.globals=Tryz.prog.globals)(b:Q.funcs.size=Tryz.prog.funcs.size)(c:Js Q)(e:Q.underlying qG=none):Tab ml Q (fO nR) where
 zero:=d
 bad:=e
 xE:=rfl
 size:=(uk _).trans b.symm
 ent f h:=by exact⟨rfl,NO NM KZ h nR c⟩
 stop f h:=by cases h
 rest f g h:=Jt a rfl c (λ_ h=>h) (.inr ⟨rfl,rfl,rfl⟩) h
def sV(g):(fO g)[74]? =some g:=by rw[oW,Tryz.func74];rfl
def yp:Tryz.prog.underlying qG=none:=by kernel_rfl
def uo:Js Tryz.prog:=⟨λ_ _ _=>rfl,.inl Tryz.func95⟩
def Fp:Tab gP Tryz.prog (fO g74) where
 zero:=um
 bad:=yp
 xE:=rfl
 size:=uk _
 ent f h:=by
  refine⟨?_,NO NL KY h g74 uo⟩;have:=UJ.1 AN f (VL.1 h);have a:f≠74:=by simpa using this
  show(f==74)=false;simpa using a
 stop f h:=by
  have b:f=74:=by have h:(f==74)=true:=h;simpa using h
  subst b;exact⟨rfl,g74,Tryz.f74,sV _,Tryz.func74,V5 (by kernel_rfl),V5 Ra,rfl,rfl⟩
 rest f g h:=Jt rfl rfl uo (λ_ h=>h) (.inl rfl) h
def AO:Tab ml Tryz.prog (fO nR):=Fo (Q:=Tryz.prog) um (Eq.refl _) (Eq.refl _) uo yp
def K7(P fs):(ah P fs).globals=P.globals:=rfl
def kY(P fs):(ah P fs).funcs=fs:=rfl
def K8:Tab ml (ah Tryz.prog (fO g74)) (fO nR):=Fo (yo _) (K7 _ _) (by rw[kY];exact uk _) ⟨λi hi a=>by rw[kY];exact(uj _ _).symm.trans ((pC g74).1 i (VL.1 hi) a),.inr (by rw[kY];exact wu _)⟩ ((jI _ _ _).trans yp)
def uq(g):ml.calm g:=λ_ _ _ h=>by cases h
def AP(g):gP.calm g:=λf h a b=>by (have c:=UJ.1 AN f (VL.1 a);have d:f≠74:=by simpa using c);have e:(f==74)=true:=b;exact absurd (by simpa using e) d
def Fq:(gI.all λi=>(Tryz.prog.funcs[i]?).all λf=> !f.norace)=true:=by kernel_rfl
def IA:(gI.all λi=>(Tryz.prog.funcs[i]?).all λf=>(f.body.map readies).all (·.isEmpty))=true:=by kernel_rfl
def zy:Tryz.prog.follows .staticDataAhead=true:=by kernel_rfl
def NS{Q:Program}(b:∀f∈Q.funcs,f.norace=false)(d:Q.follows .staticDataAhead=true)(e:∀f∈Q.funcs,∀c,f.body=some c->(readies c).isEmpty=true):kP Q where
 norace f:=by
  cases a:Q.funcs[f]? with
  |none=>rfl
  |some g=>exact b g (UZ a)
 follows:=d
 stepOf g:=by
  unfold Program.stepOf;rw[Array.findIdx?_eq_none_iff];intro f a;cases h:f.body with
  |none=>rfl
  |some c=>
   have:=e f a c h;simp only[UW,XO];cases i:readies c with
   |nil=>rfl
   |cons _ _=>rw[i]at this;cases this
def Fs{g f}(h:f∈fO g):f=g\/f=nR\/f=nS\/∃i,i∈gI/\Tryz.prog.funcs[i]? =some f:=by obtain⟨i,hi⟩:=WO.1 h;rw[oW]at hi;cases a:Tryz.prog.funcs[i]? with|none=>rw[a]at hi;cases hi|some c=>rw[a]at hi;simp only[UW,UX]at hi;split at hi;exact .inl hi.symm;split at hi;exact .inr (.inr (.inl hi.symm));split at hi;rename_i b;subst hi;exact .inr (.inr (.inr ⟨i,VL.1 b,a⟩));exact .inr (.inl hi.symm)
def K9:nS.norace=false:=by kernel_rfl
def NT:(nS.body.map readies).all (·.isEmpty)=true:=by kernel_rfl
def Qa:(readies AI).isEmpty=true:=by kernel_rfl
def IB:kP (ah Tryz.prog (fO g74)):=by refine NS (λf a=>?_) zy λf a c b=>?_;rw[kY]at a;obtain rfl|rfl|rfl|⟨i,hi,a⟩:=Fs a;rfl;rfl;exact K9;have:=UJ.1 Fq i hi;rw[a]at this;simpa using this;rw[kY]at a;obtain rfl|rfl|rfl|⟨i,hi,a⟩:=Fs a;(have:c=AI:=by cases b;rfl);subst this;exact Qa;cases b;have:=NT;simp only[b,UW]at this;exact this;have:=UJ.1 IA i hi;rw[a]at this;simp only[Option.all_some,b,UW]at this;exact this
def La:(jb.all λi=>(Tryz.prog.inits.idxOf? i).isNone)=true:=by kernel_rfl
def yq(f)(h:gP.ent f=true):Tryz.prog.inits.idxOf? f=none:=Option.isNone_iff_eq_none.1 (UJ.1 La f (VL.1 h))
def ko:Tryz.prog.globals.size=5:=by kernel_rfl
def ve:0<Tryz.prog.globals.size:=by rw[ko];decide
end Go.Tm
namespace Go.Proofs
open Go.Tm
def vT(c:Case)(i:Nat):Option (Int×Int×Int):=(iv c i).map λx=>(x.mark,x.eo,x.level)
def ik(l:List Hit):List Value:=l.map λx=>eY x.mark x.eo x.level
def Jr(c i):sR (vT c) i=(iv c i).map λx=>eY x.mark x.eo x.level:=by unfold sR vT;cases iv c i<;>rfl
def AK{c a}(h:KL c.marks.length (vT c) a):∃l,a=ik l/\l.Perm (cj c):=by obtain⟨l,b,d,rfl⟩:=h;refine⟨l.filterMap (iv c),?_,?_⟩;unfold ik;rw[List.map_filterMap];congr 1;funext i;exact Jr c i;(have e:l.Perm ((List.range c.marks.length).filter λi=>(iv c i).isSome):=(X4 b (List.nodup_range.filter _)).2 λi=>by rw[d,Wo,Xb,Jr];cases iv c i<;>simp);(refine(e.filterMap (iv c)).trans (List.Perm.trans ?_ (kg c).symm);rw[List.filterMap_filter];have:(λi=>if(iv c i).isSome then iv c i else none)=iv c:=by funext i;cases iv c i<;>rfl);rw[this]
def il(l):bG (ik l)=bF l:=by unfold bG ik bF;rw[List.flatMap_map];rfl
def ui(l):∀v∈ik l,∃a b c,v=eY a b c:=by intro v d;unfold ik at d;obtain⟨x,_,rfl⟩:=VA.1 d;exact⟨_,_,_,rfl⟩
end Go.Proofs
namespace Go.Proofs
open Go.Tm Go.RowKit
variable {fs:Array Func} (L:bT fs)
def KP{c:Case}{i k:Nat}{v:Int}{p:Option (Nat×Int)}(h:iv c i=p.map λx=>⟨i,x.1,x.2⟩)(a:p=some (k,v)):oS (vT c i)=#[.int .i64 i,.int .i64 k,.int .i64 v]/\(vT c i).isSome=true:=by unfold vT;rw[h,a];exact⟨rfl,rfl⟩
def KQ{c:Case}{i:Nat}{p:Option (Nat×Int)}(h:iv c i=p.map λx=>⟨i,x.1,x.2⟩)(a:p=none):oS (vT c i)=#[.int .i64 0,.int .i64 0,.int .i64 0]/\(vT c i).isSome=false:=by unfold vT;rw[h,a];exact⟨rfl,rfl⟩
def wo(fs:Array Func)(c:Case):Prop:=∀r∈c.rules,fZ fs r.kind.toNat
def Tu{K:Nat->Prop}{sc:Array Value}{c:Case}(i:Nat)(w:World)(hc:bP K w sc c)(W:OkC c)(hi:i<c.marks.length)(u:wo fs c)(R:fW w)(y:gF w):Calls (Qs fs) 125 #[.agg sc,.int .i64 i] w λe w'=>e=.returned (.tuple #[.agg (oS (vT c i)),.bool (vT c i).isSome])/\Below w.heap.size w w':=by
 have e84:=e84 L;have I:i<c.kin.length:=by rw[W.QO];exact hi
 have S:=Bu c i hi I;have T:=λk (X:k<c.rules.length) H (A:ae w H)=>MO L i k H (hc.stays A) W hi X I (u _ (Up X)) (R.stays A) (y.stays A);obtain⟨v0,v1,v2,vr,Y,Z,vk,rfl,ht,C,hf,aa,ab⟩:=hc;have D:=λH (A:ae w H)=>C.stays A λb b' o x e h=>by subst e;exact pP.carry (Carry.keep A) b b o x rfl h
 obtain⟨ar,cr,rfl,_,_,_,U⟩:=id C;obtain⟨w1,l⟩:=ex ((w.alloc (.cells #[v0,v1,v2,.slice ar c.rules.length cr,.string c.new.name,.string c.new.word,Y,.int .i64 c.new.day,.bool c.new.known,Z,vk] 125)).alloc (.cells #[.int .i64 0,.int .i64 0,.int .i64 0] 66));have B:ae w w1:=by rw[l];exact(ae.alloc _ _).trans (ae.alloc _ _)
 have V:Below w.heap.size w w1:=by rw[l];exact(aF _ _).alloc (by simp) _
 have ct:∀i v,(#[v0,v1,v2,.slice ar c.rules.length cr,.string c.new.name,.string c.new.word,Y,.int .i64 c.new.day,.bool c.new.known,Z,vk]:Array Value)[i]? =some v->w1.cell? ⟨w.heap.size,i,none⟩=some v:=λi v h=>by rw[l];exact(ae.alloc _ _).cell (az w _ 125 i v h)
 have q:w1.heap[w.heap.size+1]? =some (.cells #[.int .i64 0,.int .i64 0,.int .i64 0] 66):=by (have h:(w.alloc (.cells #[v0,v1,v2,.slice ar c.rules.length cr,.string c.new.name,.string c.new.word,Y,.int .i64 c.new.day,.bool c.new.known,Z,vk] 125)).heap.size=w.heap.size+1:=by simp);rw[l,<-h];exact UT
 obtain⟨N,hN⟩:=ex (w.heap.size);obtain⟨E,z⟩:=ex (w.heap.size+1);have m:Hid (w.heap.size<=E):=by rw[Hid,z];omega
 have f:=λH (A:ae w1 H) i v h=>A.cell (ct i v h);rw[<-hN]at f;rw[<-z]at q;have ad:c.rules.length<=6:=W.Gr;clear ht hf aa ab C ct;go_enter (n125 L),Tryz.ntmps125;go_wp2;rw[<-l,<-z,<-hN];clear l hN z;go_loopw [14] (λs wr=>∃k:Nat,k<=c.rules.length/\s=.int .i64 k/\ae w1 wr/\Below w.heap.size w wr/\eD c c.marks[i] c.kin[i] 0 c.rules=eD c c.marks[i] c.kin[i] k (c.rules.drop k)) (λs _=>c.rules.length-(intOf s).toNat);case atStart=>exact⟨0,Ul _,rfl,ae.refl _,V,rfl⟩
 case round=>
  obtain⟨k,X,rfl,a,g,j⟩:=hrel;have u0:=f wr a 0 _ rfl;have u1:=f wr a 1 _ rfl;have u2:=f wr a 2 _ rfl;have u3:=f wr a 3 _ rfl;have u4:=f wr a 4 _ rfl;have u5:=f wr a 5 _ rfl;have u6:=f wr a 6 _ rfl;have u7:=f wr a 7 _ rfl;have u8:=f wr a 8 _ rfl;have u9:=f wr a 9 _ rfl;have af:=f wr a 10 _ rfl;have HS:Hid _:=a _ _ _ _ q;have HW:Hid _:=(⟨a,g⟩:ae w1 wr/\Below w.heap.size w wr)
  have HP:Hid _:=S;obtain F|hge:=Uh k c.rules.length
  ·obtain⟨b,o,rfl,y0,y1,y2,y3⟩:=U k F;(have y0:=a.cell (B.cell y0);have y1:=a.cell (B.cell y1);have y2:=a.cell (B.cell y2);have y3:=a.cell (B.cell y3);have ag:(k:Int)<(c.rules.length:Int):=by omega);have p0:=λob=>f (wr.alloc ob) (a.trans (ae.alloc _ _)) 0 _ rfl;have p1:=λob=>f (wr.alloc ob) (a.trans (ae.alloc _ _)) 1 _ rfl;have p2:=λob=>f (wr.alloc ob) (a.trans (ae.alloc _ _)) 2 _ rfl;have p3:=λob=>f (wr.alloc ob) (a.trans (ae.alloc _ _)) 3 _ rfl;have p4:=λob=>f (wr.alloc ob) (a.trans (ae.alloc _ _)) 4 _ rfl;have p5:=λob=>f (wr.alloc ob) (a.trans (ae.alloc _ _)) 5 _ rfl;have p6:=λob=>f (wr.alloc ob) (a.trans (ae.alloc _ _)) 6 _ rfl;have p7:=λob=>f (wr.alloc ob) (a.trans (ae.alloc _ _)) 7 _ rfl;have p8:=λob=>f (wr.alloc ob) (a.trans (ae.alloc _ _)) 8 _ rfl;have p9:=λob=>f (wr.alloc ob) (a.trans (ae.alloc _ _)) 9 _ rfl;have ak:=λob=>f (wr.alloc ob) (a.trans (ae.alloc _ _)) 10 _ rfl;have J:=λob=>T k F (wr.alloc ob) (B.trans (a.trans (ae.alloc _ _)));rw[rS c _ _ k F]at j;obtain⟨r,C⟩:=ex (mA c c.marks[i] c.kin[i] c.rules[k]);rw[<-C]at j J;obtain⟨lv,G⟩:=ex (bE c.table c.rules[k].kind c.new c.marks[i]);rw[<-G]at j J;obtain⟨q0,q1,q2⟩:=r;have hE:=DN fs q0 q1 q2 0 0 0;have hG:=iW fs vZ .eql (.tmp 26) (.tmp 27);unfold Dt at J;have t:w.heap.size<=wr.heap.size:=g.size;have HZ:Hid _:=t;by_cases M:(⟨q0,q1,q2⟩:Dj)=⟨0,0,0⟩
   ·rw[Ud M]at j;(cases M;have O:Hid _:=j;rw[Um ⟨rfl,rfl,rfl⟩]at hE;clear j C T f B V a g S U D t G q u R y;go_upto_region 5 with(first|(go_at_call 84;refine(J _).mono ?_;rintro e w3 ⟨rfl,n⟩;have d:=λo=>(ae.alloc w3 o) _ _ _ _ (((ae.alloc wr _).trans (ae.below n)) _ _ _ _ HS.out);have n0:=λo=>cell_of_heap (d o) 0 _ rfl;have n1:=λo=>cell_of_heap (d o) 1 _ rfl;have n2:=λo=>cell_of_heap (d o) 2 _ rfl;have g0:=λo=>frozen_of_heap (d o) 0;have g1:=λo=>frozen_of_heap (d o) 1;have g2:=λo=>frozen_of_heap (d o) 2;have H3:Hid _:=n;clear d n)));go_wp2;have P:=HW.out.2.alloc HZ.out (.cells #[.int .i64 c.rules[k].kind,.int .i64 c.rules[k].least,.int .i64 c.rules[k].plain,.int .i64 c.rules[k].known] 69);have Q:=P.trans (H3.out.mono P.size);have b4:=Q.alloc Q.size (.cells #[.int .i64 0,.int .i64 0,.int .i64 0] 86);refine bodyPost_ret (v:=.tuple #[.agg #[.int .i64 i,.int .i64 k,.int .i64 lv],.bool true]) ?_ rfl ⟨?_,((b4.setCell (p:=⟨E,0,none⟩) m.out _).setCell (p:=⟨E,1,none⟩) m.out _).setCell (p:=⟨E,2,none⟩) m.out _⟩
    ·simp[results,Tryz.results125,go_sem, *]
    obtain⟨e1,e2⟩:=KP HP.out O.out;rw[e1,e2]
   rw[Uc M]at j;have O:Hid _:=j;rw[Uj (λh=>M (by rw[h.1,h.2.1,h.2.2]))]at hE;clear j C T f B V a g S M U D t G q u R y;go_wp2_with (first|(go_at_call 84;refine(J _).mono ?_;rintro e w3 ⟨rfl,n⟩));have P:=HW.out.2.alloc HZ.out (.cells #[.int .i64 c.rules[k].kind,.int .i64 c.rules[k].least,.int .i64 c.rules[k].plain,.int .i64 c.rules[k].known] 69);have Q:=P.trans (n.mono P.size);exact⟨⟨k+1,by omega,by go_num,(HW.out.1.trans (ae.alloc _ _)).trans ((ae.below n).trans (ae.alloc _ _)),Q.alloc Q.size _,O.out⟩,by simp[intOf];omega⟩
  have O:Hid _:=j;clear a g T f B V j S U D q u R y;have d:=HS.out;have n0:=cell_of_heap d 0 _ rfl;have n1:=cell_of_heap d 1 _ rfl;have n2:=cell_of_heap d 2 _ rfl;have g0:=frozen_of_heap d 0;have g1:=frozen_of_heap d 1;have g2:=frozen_of_heap d 2;clear d;go_wp2;refine bodyPost_ret (v:=.tuple #[.agg #[.int .i64 0,.int .i64 0,.int .i64 0],.bool false]) ?_ rfl ⟨?_,((HW.out.2.setCell (p:=⟨E,0,none⟩) m.out _).setCell (p:=⟨E,1,none⟩) m.out _).setCell (p:=⟨E,2,none⟩) m.out _⟩
  ·simp[results,Tryz.results125,go_sem, *]
  have j:=O.out;rw[UP hge]at j;obtain⟨e1,e2⟩:=KQ HP.out j;rw[e1,e2]
def KR(a b:Hit)(d1 d2:Int):Int:=if a.eo-b.eo≠0 then a.eo-b.eo else if b.level-a.level≠0 then b.level-a.level else if d1-d2≠0 then d1-d2 else a.mark-b.mark
def PX(c a b):KR a b (gX c a.mark) (gX c b.mark)<0↔aU c a b=true:=by (rw[ns];unfold KR;repeat' split);all_goals omega
def mj(K:Nat->Prop)(w:World)(sc:Array Value)(c:Case):Prop:=∃v0 v1 v2 e f g j k l a d m,sc=#[v0,v1,v2,e,f,g,j,k,l,.slice d c.marks.length m,a]/\∀i (h:i<c.marks.length),∃b o,d=some ⟨b,o,none⟩/\K b/\w.cell? ⟨b,o+i*5+3,none⟩=some (.int .i64 c.marks[i].day)
def bP.days{K w sc c}(h:bP K w sc c):mj K w sc c:=by obtain⟨v0,v1,v2,l,m,n,p,rfl,q,r,s,a,d⟩:=h;obtain⟨e,f,rfl,t,_,g,j⟩:=a;refine⟨_,_,_,_,_,_,_,_,_,_,e,f,rfl,λi h=>?_⟩;obtain⟨b,o,rfl,_,_,_,k,_⟩:=j i h;exact⟨b,o,rfl,((g.resolve_left (by omega)) _ rfl).2.1,k⟩
def mj.to{K}{w w':World}{sc c}(h:mj K w sc c)(f:∀b,K b->b<w.heap.size->w'.heap[b]? =w.heap[b]?):mj K w' sc c:=by (obtain⟨v0,v1,v2,n,p,q,r,s,t,j,k,l,rfl,g⟩:=h;refine⟨_,_,_,_,_,_,_,_,_,_,k,l,rfl,λi h=>?_⟩;obtain⟨b,o,e,d,a⟩:=g i h;have m:b<w.heap.size:=by obtain h|h:=Uh b w.heap.size;exact h;unfold World.cell? at a;rw[Vz h]at a;cases a);exact⟨b,o,e,d,(dx (f b d m)).trans a⟩
def KS{K:Nat->Prop}{sc:Array Value}{c:Case}(i j:Nat)(o l1 r2 p:Int)(w:World)(hc:mj K w sc c)(hi:i<c.marks.length)(hj:j<c.marks.length)(hn:c.marks.length<=8) (b1: -1000<=o/\o<=1000) (b2: -1000<=r2/\r2<=1000) (b3: -1000000<=l1/\l1<=1000000) (b4: -1000000<=p/\p<=1000000) (U:∀m∈c.marks,-1000000000<=m.day/\m.day<=1000000000):Calls (Qs fs) 129 #[.agg sc,nj ⟨i,o,l1⟩,nj ⟨j,r2,p⟩] w λe w'=>e=.returned (.int .i64 (KR ⟨i,o,l1⟩ ⟨j,r2,p⟩ c.marks[i].day c.marks[j].day))/\Below w.heap.size w w':=by
 obtain⟨v0,v1,v2,v3,v4,v5,v6,v7,v8,E,ao,cp,rfl,g⟩:=hc;obtain⟨C,l⟩:=ex (w.alloc (.cells #[v0,v1,v2,v3,v4,v5,v6,v7,v8,.slice ao c.marks.length cp,E] 125));obtain⟨F,n⟩:=ex (C.alloc (.cells #[.int .i64 i,.int .i64 o,.int .i64 l1] 66));obtain⟨w1,r⟩:=ex (F.alloc (.cells #[.int .i64 j,.int .i64 r2,.int .i64 p] 66));have V:ae F w1:=by rw[r];exact ae.alloc _ _
 have W:ae C w1:=(by rw[n];exact ae.alloc _ _:ae C F).trans V;have X:ae w w1:=(by rw[l];exact ae.alloc _ _:ae w C).trans W;have B1:Below w.heap.size w w1:=by rw[r,n,l];exact(((Below.refl _ w).alloc (Ue _) _).alloc (by simp) _).alloc (by simp;omega) _
 have x:C.heap.size=w.heap.size+1:=by rw[l];simp
 have hsb:F.heap.size=w.heap.size+1+1:=by rw[n,<-x];simp
 have ct:∀i v,(#[v0,v1,v2,v3,v4,v5,v6,v7,v8,.slice ao c.marks.length cp,E]:Array Value)[i]? =some v->w1.cell? ⟨w.heap.size,i,none⟩=some v:=λi v h=>W.cell (by rw[l];exact az w _ 125 i v h);have N:∀k v,(#[.int .i64 i,.int .i64 o,.int .i64 l1]:Array Value)[k]? =some v->w1.cell? ⟨w.heap.size+1,k,none⟩=some v:=λi v h=>V.cell (by rw[n,<-x];exact az C _ 66 i v h);have O:∀k v,(#[.int .i64 j,.int .i64 r2,.int .i64 p]:Array Value)[k]? =some v->w1.cell? ⟨w.heap.size+1+1,k,none⟩=some v:=λi v h=>by rw[r,<-hsb];exact az F _ 66 i v h
 obtain⟨N0,Y⟩:=ex (w.heap.size);obtain⟨N1,Z⟩:=ex (w.heap.size+1);obtain⟨N2,h2⟩:=ex (w.heap.size+1+1);obtain⟨bm,om,rfl,_,P⟩:=g i hi;obtain⟨an,ar,aa,_,Q⟩:=g j hj;cases aa;have P:=X.cell P;have Q:=X.cell Q;have t9:=ct 9 _ rfl;have a0:=N 0 _ rfl;have a1:=N 1 _ rfl;have a2:=N 2 _ rfl;have c0:=O 0 _ rfl;have c1:=O 1 _ rfl;have c2:=O 2 _ rfl;rw[<-h2]at c0 c1 c2;rw[<-Z]at a0 a1 a2;rw[<-Y]at t9;have G:=U _ (Up hi);have H:=U _ (Up hj);obtain⟨d1,I⟩:=ex (c.marks[i].day);obtain⟨d2,J⟩:=ex (c.marks[j].day);rw[<-I]at P G⊢;rw[<-J]at Q H⊢;have ab:IntKind.i64.wrap (o-r2)=o-r2:=wrap_i64 _ (by omega);have ad:IntKind.i64.wrap (p-l1)=p-l1:=wrap_i64 _ (by omega);have af:IntKind.i64.wrap (d1-d2)=d1-d2:=wrap_i64 _ (by omega);have ax:IntKind.i64.wrap ((i:Int)-j)=(i:Int)-j:=wrap_i64 _ (by omega);have D:Hid _:=B1;have ag:(i:Int)<(c.marks.length:Int):=by omega
 have ak:(j:Int)<(c.marks.length:Int):=by omega
 obtain⟨q,u⟩:=ex (KR ⟨i,o,l1⟩ ⟨j,r2,p⟩ d1 d2);rw[<-u];unfold KR at u;simp only[]at u;obtain⟨x0,y⟩:=ex (o-r2);obtain⟨x1,z⟩:=ex (p-l1);obtain⟨x2,A⟩:=ex (d1-d2);have ay:wrap64 (o-r2)=x0:=by rw[y];unfold wrap64;omega
 rw[<-y]at u;have aM:wrap64 (p-l1)=x1:=by rw[z];unfold wrap64;omega
 rw[<-z]at u;have a6:wrap64 (d1-d2)=x2:=by rw[A];unfold wrap64;omega
 rw[<-A]at u;clear ab ad af;have R:Hid _:=u;unfold nj;go_enter (n129 L),Tryz.ntmps129;go_upto_region 1 with fail;rw[<-l,<-n,<-r,<-h2,<-Z,<-Y];clear y z A l n r W V X B1 x hsb ct N O Y Z h2 I J U g u b1 b2 b3 b4 G H;go_quiet (fail);clear P Q t9 a1 a2 c1 c2 ag ak;obtain⟨S,t⟩:=ex (w1.drewN nq);have a0:S.cell? ⟨N1,0,none⟩=some (.int .i64 i):=by rw[t];exact a0
 have c0:S.cell? ⟨N2,0,none⟩=some (.int .i64 j):=by rw[t];exact c0
 have D:Hid (Below w.heap.size w S):=by rw[t];exact D.out.fU _
 rw[<-t];clear t;go_wp2;have a7:∀(a b d:Value) (w:World),(Instr.index 225 (.agg #[a,b,d]) (.int .i64 0)).run (Qs fs) w=.ok a w:=λ_ _ _ _=>rfl;have a8:∀(a b d:Value) (w:World),(Instr.index 225 (.agg #[a,b,d]) (.int .i64 1)).run (Qs fs) w=.ok b w:=λ_ _ _ _=>rfl;have ba:∀(a b d:Value) (w:World),(Instr.index 225 (.agg #[a,b,d]) (.int .i64 2)).run (Qs fs) w=.ok d w:=λ_ _ _ _=>rfl;go_loopw [37] (λs wr=>wr=S/\(s=.int .i64 0\/(s=.int .i64 1/\x0=0)\/(s=.int .i64 2/\x0=0/\x1=0)\/(s=.int .i64 3/\x0=0/\x1=0/\x2=0))) (λs _=>4-(intOf s).toNat);case atStart=>exact⟨rfl,.inl rfl⟩
 case round=>
  obtain⟨rfl,rfl|⟨rfl,B⟩|⟨rfl,B,T⟩|⟨rfl,B,T,z2⟩⟩:=hrel
  ·by_cases f:x0=0
   ·(have M:(x0 !=0)=false:=by rw[f];rfl);go_wp2;exact⟨⟨trivial,.inr (.inl ⟨rfl,f⟩)⟩,by simp[intOf]⟩
   (have M:(x0 !=0)=true:=by simpa using f);go_wp2;go_ret;exact⟨by rw[R.out,Ud f];rfl,D.out⟩
  ·by_cases f:x1=0
   ·(have M:(x1 !=0)=false:=by rw[f];rfl);go_wp2;exact⟨⟨trivial,.inr (.inr (.inl ⟨rfl,B,f⟩))⟩,by simp[intOf]⟩
   (have M:(x1 !=0)=true:=by simpa using f);go_wp2;go_ret;exact⟨by rw[R.out,Uc (λh=>h B),Ud f];rfl,D.out⟩
  ·by_cases f:x2=0
   ·(have M:(x2 !=0)=false:=by rw[f];rfl);go_wp2;exact⟨⟨trivial,.inr (.inr (.inr ⟨rfl,B,T,f⟩))⟩,by simp[intOf]⟩
   (have M:(x2 !=0)=true:=by simpa using f);go_wp2;go_ret;exact⟨by rw[R.out,Uc (λh=>h B),Uc (λh=>h T),Ud f];rfl,D.out⟩
  go_wp2;go_ret;exact⟨by rw[R.out,Uc (λh=>h B),Uc (λh=>h T),Uc (λh=>h z2)];rfl,D.out⟩
instance:Inhabited Hit:=⟨⟨0,0,0⟩⟩
structure gH(c:Case)(x:Hit):Prop where
 mark:∃i:Nat,i<c.marks.length/\x.mark=i
 eo: -1000<=x.eo/\x.eo<=1000
 level: -1000000<=x.level/\x.level<=1000000
def NG(c:Case)(x y:Hit):Int:=KR x y (gX c x.mark) (gX c y.mark)
def ym(c x y):decide (NG c x y<0)=aU c x y:=by rw[Vr,decide_eq_true_iff];exact PX c x y
def Ir{K:Nat->Prop}{sc:Array Value}{c:Case}{x y:Hit}(w:World)(f:mj K w sc c)(b:OkC c)(g:gH c x)(k:gH c y):Calls (Qs fs) 129 #[.agg sc,nj x,nj y] w λe w'=>e=.returned (.int .i64 (NG c x y))/\Below w.heap.size w w':=by obtain⟨⟨i,hi,e1⟩,l,n⟩:=g;obtain⟨⟨j,d,a⟩,o,p⟩:=k;obtain⟨m1,q,r⟩:=x;obtain⟨m2,s,t⟩:=y;have e1:m1=(i:Int):=e1;have a:m2=(j:Int):=a;subst e1 a;have h:=KS L i j q r s t w f hi d b.tG l o n p (λm u=>by have:=(b.marks m u).day;omega);unfold NG;simp only[];rw[pr c i hi,pr c j d];exact h
structure SW(w:World)(g:Nat)(rest:List Value)(d:Array Hit)(wr:World):Prop where
 size:w.heap.size<=wr.heap.size
 other:∀b,b<w.heap.size->b≠g->wr.heap[b]? =w.heap[b]?
 row:wr.heap[g]? =some (.cells (bF d.toList++rest).toArray 66 (0,0))
def SW.below{w wr w' g rest d}(h:SW w g rest d wr)(a:Below wr.heap.size wr w'):SW w g rest d w':=by have e:g<wr.heap.size:=(Uk.1 h.row).1;exact⟨Uf h.size a.size,λb c f=>(a.block b (Ui c h.size)).trans (h.other b c f),(a.block g e).trans h.row⟩
def SW.drewN{w wr g rest d}(h:SW w g rest d wr)(n):SW w g rest d (wr.drewN n):=⟨h.size,h.other,h.row⟩
def SW.drew{w wr g rest d}(h:SW w g rest d wr):SW w g rest d wr.drew:=⟨h.size,h.other,h.row⟩
def hZ{w:World}{g o A}{t:Nat}{F v}(h:w.heap[g]? =some (.cells A t F)):(w.setCell ⟨g,o,none⟩ v).heap[g]? =some (.cells (A.setIfInBounds o v) t F):=by simp[World.setCell,U5,h]
def KT(l k x)(a:k<l.length)(rest):((((bF l++rest).toArray.setIfInBounds (k*3) (.int .i64 x.mark)).setIfInBounds (k*3+1) (.int .i64 x.eo)).setIfInBounds (k*3+2) (.int .i64 x.level))=(bF (l.set k x)++rest).toArray:=by simp only[List.setIfInBounds_toArray];congr 1;induction l generalizing k with|nil=>cases a|cons y l b=>cases k with|zero=>simp[bF,List.set]|succ k=>(have:=b k (by simpa using a);have e:(k+1)*3=k*3+1+1+1:=by omega);simp only[bF,VR,List.set_cons_succ,WJ,Wr,e]at this⊢;simp only[List.set_cons_succ,Xg,true_and];exact this
def Is(w:World)(g k:Nat)(x:Hit):World:=((w.setCell ⟨g,k*3,none⟩ (.int .i64 x.mark)).setCell ⟨g,k*3+1,none⟩ (.int .i64 x.eo)).setCell ⟨g,k*3+2,none⟩ (.int .i64 x.level)
def SW.set{w wr g rest d}(h:SW w g rest d wr)(k x)(c:k<d.size):SW w g rest (d.setIfInBounds k x) (Is wr g k x):=by refine⟨by simp[Is,World.setCell];exact h.size,λb e a=>?_,?_⟩;unfold Is;rw[Below.heap_setCell _ _ _ b a,Below.heap_setCell _ _ _ b a,Below.heap_setCell _ _ _ b a];exact h.other b e a;unfold Is;rw[hZ (hZ (hZ h.row)),KT _ _ _ (by simpa using c),XX]
def SW.swp{w wr g rest d}(h:SW w g rest d wr)(i j)(hi:i<d.size)(a:j<d.size):SW w g rest (Sort.swp d i j) (Is (Is wr g i d[j]!) g j d[i]!):=by unfold Sort.swp;exact(h.set i _ hi).set j _ (by simpa using a)
def swp_size(d:Array Hit)(i j):(Sort.swp d i j).size=d.size:=by unfold Sort.swp;simp
def get_mem(d:Array Hit)(i)(h:i<d.size):d[i]! ∈d:=by rw[Xi d i h];exact Wz h
def NH{c d}(h:∀x∈d,gH c x)(i j)(hi:i<d.size)(b:j<d.size):∀x∈Sort.swp d i j,gH c x:=by intro x a;unfold Sort.swp at a;obtain a|rfl:=X5 a;obtain a|rfl:=X5 a;exact h x a;exact h _ (get_mem d j b);exact h _ (get_mem d i hi)
def SW.cells{w wr g rest d}(h:SW w g rest d wr)(k)(c:k<d.size):wr.cell? ⟨g,k*3,none⟩=some (.int .i64 d[k]!.mark)/\wr.cell? ⟨g,k*3+1,none⟩=some (.int .i64 d[k]!.eo)/\wr.cell? ⟨g,k*3+2,none⟩=some (.int .i64 d[k]!.level):=by (have b:k<d.toList.length:=by simpa using c);(have a:=DZ d.toList k b;have f:d.toList[k]=d[k]! :=by rw[Xi d k c];simp);rw[f]at a;have e:(bF d.toList).length=d.toList.length*3:=iA _;refine⟨cell_of_heap h.row _ _ ?_,cell_of_heap h.row _ _ ?_,cell_of_heap h.row _ _ ?_⟩;rw[Wx,Wa (by omega)];exact a.1;rw[Wx,Wa (by omega)];exact a.2.1;rw[Wx,Wa (by omega)];exact a.2.2
def Tv{K:Nat->Prop}{sc:Array Value}{c:Case}{g cap:Nat}{rest:List Value}{d0:Array Hit}(w:World)(hc:mj K w sc c)(ok:OkC c)(hK:∀b,K b->b≠g)(hd:∀x∈d0,gH c x)(hn:d0.size<=12)(hg:g<w.heap.size)(h0:SW w g rest d0 w):Calls (Qs fs) 183 #[.slice (some ⟨g,0,none⟩) d0.size cap,.int .i64 0,.int .i64 d0.size,.func (.func 129) #[.agg sc] #[]] w λe w'=>e=.returned (.tuple #[])/\SW w g rest (Sort.insertionSort (aU c) d0 0 d0.size) w':=by
 have R3:∀a w,(callFunc 129 a).run (Qs fs) w=.ok (.enter 129 a) w:=R3 L;have aa:(Qs fs).follows .mixedOrders=true:=by kernel_rfl
 have cC:=λwy (hs:∀b,K b->b<w.heap.size->wy.heap[b]? =w.heap[b]?) x y (D:gH c x) (E:gH c y)=>Ir L wy (hc.to hs) ok D E;have CC:Hid _:=cC;have HG:Hid (g<w.heap.size/\∀b,K b->b≠g):=⟨hg,hK⟩
 have H0:Hid _:=h0;have HD:Hid _:=hd;obtain⟨n,q⟩:=ex (d0.size);have HN:Hid _:=q;rw[<-q]at hn;have F:Hid (Sort.insertionSort (aU c) d0 0 n=Sort.insOuter (aU c) 0 n 1 d0):=rfl;rw[<-q];clear hc cC hK hg h0 hd q;go_enter (n183 L),Tryz.ntmps183;go_wp2;go_loopw [8] (λs wr=>∃(i:Nat) (d:Array Hit),s=.int .i64 i/\1<=i/\i<=n+1/\d.size=n/\(∀x∈d,gH c x)/\SW w g rest d wr/\Sort.insOuter (aU c) 0 n i d=Sort.insOuter (aU c) 0 n 1 d0) (λs _=>n+1-(intOf s).toNat);case atStart=>exact⟨1,d0,by go_num,Ue _,by omega,HN.out.symm,HD.out,H0.out,rfl⟩
 case round=>
  obtain⟨i,d,rfl,ad,af,r,t,u,V⟩:=hrel;by_cases G:i<n
  ·(have H:(i:Int)<(n:Int):=by omega);(have A:Hid _:=(⟨r,t,u,V⟩:_/\_/\_/\_));clear r t u V;go_wp2;go_loopw [9] (λs X=>∃(j:Nat) (d2:Array Hit),s=.int .i64 j/\j<=i/\d2.size=n/\(∀x∈d2,gH c x)/\SW w g rest d2 X/\Sort.insInner (aU c) 0 j d2=Sort.insInner (aU c) 0 i d) (λs _=>(intOf s).toNat);case atStart=>exact⟨i,d,rfl,Ue _,A.out.1,A.out.2.1,A.out.2.2.1,rfl⟩
   case round=>
    (obtain⟨j,d2,rfl,ag,p,o,l,v⟩:=hrel;have I:Hid ((j=0\/aU c d2[j]! d2[j-1]! =false)->Sort.insOuter (aU c) 0 n (i+1) d2=Sort.insOuter (aU c) 0 n 1 d0):=λh=>by rw[<-A.out.2.2.2,insOuter_go _ _ _ _ _ G,<-v,insInner_stop _ _ _ _ (h.imp (λh=>by omega) id)]);obtain rfl|hj0:=U4 j
    ·(have m:Hid _:=(⟨p,o,l⟩:_/\_/\_));clear p o l v;go_wp2;go_quiet (fail);go_wp2;exact⟨⟨i+1,d2,by go_num,by omega,by omega,m.out.1,m.out.2.1,m.out.2.2.drewN nq,I.out (.inl trivial)⟩,by simp[intOf];omega⟩
    (obtain⟨f,rfl⟩:∃f,j=f+1:=⟨j-1,by omega⟩);(have jz:((f:Int)+1)<(n:Int):=by omega);(have ak:(f:Int)<(n:Int):=by omega);(have an:(0:Int)<(f:Int)+1:=by omega);(have e0:((f:Int)+1).toNat=f+1:=by omega);(have p0:(0:Int)<=(f:Int)+1:=by omega);(have ao:IntKind.i64.wrap (f:Int)=(f:Int):=by rw[IntKind.wrap_i64];omega);have fx:=o _ (get_mem d2 (f+1) (by omega));have Y:=o _ (get_mem d2 f (by omega));obtain⟨J,a1,M⟩:=l.cells (f+1) (by omega);obtain⟨N,O,P⟩:=l.cells f (by omega);obtain⟨x,D⟩:=ex (d2[f+1]!);obtain⟨y,E⟩:=ex (d2[f]!);rw[<-D]at fx J a1 M;rw[<-E]at Y N O P;have W:∀z:aj wr wr,Calls (Qs fs) 129 #[.agg sc,.agg #[.int .i64 x.mark,.int .i64 x.eo,.int .i64 x.level],.agg #[.int .i64 y.mark,.int .i64 y.eo,.int .i64 y.level]] z.val λe w'=>e=.returned (.int .i64 (NG c x y))/\∃z':aj wr wr,w'=z'.val:=λz=>aj.calls (CC.out z.val (λb h1 h2=>((z.be.block b (Ui h2 l.size)).trans (l.other b h2 (HG.out.2 b h1)))) x y fx Y);(have m:Hid _:=(⟨p,o,l,D,E,v⟩:_/\_/\_/\_/\_/\_));(have ab:IntKind.i64.wrap ((f:Int)+1)=(f:Int)+1:=by rw[IntKind.wrap_i64];omega);have l0:=λz:aj wr wr=>z.cell J;have l1:=λz:aj wr wr=>z.cell a1;have l2:=λz:aj wr wr=>z.cell M;have l3:=λz:aj wr wr=>z.cell N;have l4:=λz:aj wr wr=>z.cell O;have l5:=λz:aj wr wr=>z.cell P;clear p o l D E v fx Y J a1 M N O P;by_cases Q:NG c x y<0
    ·go_upto_region 4 with fail;(refine aY (w0:=wr) (w1:=wr) (by kernel_rfl) (by kernel_rfl) (ae.refl _) (Below.refl _ _) ?_;haveI B:Nonempty (aj wr wr):=⟨⟨wr,ae.refl _,Below.refl _ _⟩⟩);(repeat (go_big_quiet_step (first|(go_at_fn 129;exact W _))));refine wpQuiet_nil ?_;rintro wz ⟨⟨_,Z,R⟩,rfl⟩;have C:Hid _:=m.out.2.2.1.below R;clear W l0 l1 l2 l3 l4 l5 B Z R;obtain⟨J,a1,M⟩:=C.out.cells (f+1) (by have:=m.out.1;omega);obtain⟨N,O,P⟩:=C.out.cells f (by have:=m.out.1;omega);rw[<-m.out.2.2.2.1]at J a1 M;rw[<-m.out.2.2.2.2.1]at N O P;have fz:=λk=>frozen_of_heap C.out.row k;go_wp2_with fail
     (go_big_region_o);(all_goals go_wp2);(have S:f+1<d2.size:=by have:=m.out.1;omega);(have T:f<d2.size:=by omega);have U:=C.out.swp (f+1) f S T;rw[<-m.out.2.2.2.1,<-m.out.2.2.2.2.1]at U;have U:=U.drew;unfold Is at U;refine⟨⟨f,Sort.swp d2 (f+1) f,rfl,by omega,by rw[swp_size];exact m.out.1,NH m.out.2.1 _ _ S T,U,?_⟩,by simp[intOf]⟩;rw[<-m.out.2.2.2.2.2,insInner_go (aU c) 0 (f+1) d2 (by omega) (by rw[Nat.add_sub_cancel,<-m.out.2.2.2.1,<-m.out.2.2.2.2.1,<-ym,Um Q])];rfl
    go_upto_region 4 with fail;(refine aY (w0:=wr) (w1:=wr) (by kernel_rfl) (by kernel_rfl) (ae.refl _) (Below.refl _ _) ?_;haveI B:Nonempty (aj wr wr):=⟨⟨wr,ae.refl _,Below.refl _ _⟩⟩);(repeat (go_big_quiet_step (first|(go_at_fn 129;exact W _))));refine wpQuiet_nil ?_;rintro wz ⟨⟨_,Z,R⟩,rfl⟩;have C:Hid _:=m.out.2.2.1.below R;clear W l0 l1 l2 l3 l4 l5 B Z R;go_wp2;refine⟨⟨i+1,d2,by go_num,by omega,by omega,m.out.1,m.out.2.1,C.out,I.out (.inr ?_)⟩,by simp[intOf];omega⟩;rw[Nat.add_sub_cancel,<-m.out.2.2.2.1,<-m.out.2.2.2.2.1,<-ym,Uj Q]
  have H:¬(i:Int)<(n:Int):=by omega
  have A:Hid _:=(⟨r,t,u,V⟩:_/\_/\_/\_)
  clear r t u V;go_wp2
  go_end0
  refine⟨rfl,?_⟩;rw[F.out,<-A.out.2.2.2,insOuter_stop _ _ _ _ _ G];exact A.out.2.2.1
def PY(n:Nat)(a:n<256)(w:World):Calls (Qs fs) 192 #[.int .u64 n] w λe w'=>(∃l,e=.returned (.int .i64 l))/\w'=w:=by (have b:¬((n:Int)>=4294967296):=by omega);(have c:¬((n:Int)>=65536):=by omega);(have d:¬((n:Int)>=256):=by omega);go_enter (n192 L),Tryz.ntmps192;go_wp2;go_ret;exact⟨⟨_,rfl⟩,rfl⟩
def QE(n:Nat)(a:n<256)(w:World):Calls (Qs fs) 174 #[.int .u64 n] w λe w'=>(∃l,e=.returned (.int .i64 l))/\w'=w:=by have Sr:=Sr L;have q:=PY L n a;go_enter (n174 L),Tryz.ntmps174;go_wp2_with (first|(go_at_call 192;refine(q _).mono ?_;rintro e w3 ⟨⟨l,rfl⟩,rfl⟩));go_ret;exact⟨⟨_,rfl⟩,rfl⟩
def Tw{K:Nat->Prop}{sc:Array Value}{c:Case}{g cap:Nat}{rest:List Value}{d0:Array Hit}(f:Int)(w:World)(h:mj K w sc c)(i:OkC c)(j:∀b,K b->b≠g)(k:∀x∈d0,gH c x)(l:d0.size<=12)(m:g<w.heap.size)(o:SW w g rest d0 w):Calls (Qs fs) 173 #[.slice (some ⟨g,0,none⟩) d0.size cap,.int .i64 0,.int .i64 d0.size,.int .i64 f,.func (.func 129) #[.agg sc] #[]] w λe w'=>e=.returned (.tuple #[])/\SW w g rest (Sort.insertionSort (aU c) d0 0 d0.size) w':=by (have O5:=O5 L;have q:=Tv L (cap:=cap) w h i j k l m o;obtain⟨s,a⟩:=ex (Sort.insertionSort (aU c) d0 0 d0.size);rw[<-a]at q⊢;obtain⟨n,d⟩:=ex (d0.size);rw[<-d]at q l⊢;clear h i j k m o a d;have p:(n:Int)<=12:=by omega);have t:IntKind.i64.wrap (n:Int)=n:=wrap_i64 _ (by omega);go_enter (n173 L),Tryz.ntmps173;go_wp2;refine wp_loop_rounds 1 ?_;rw[rounds_succ];go_wp2_with (first|(go_at_call 183;refine q.mono ?_;rintro e w3 ⟨rfl,r⟩));(try simp only[Exit.inBlock,Exit.then]);refine bodyPost_ret (results_none rfl _ _ _) rfl ?_;exact⟨rfl,r⟩
def It{K:Nat->Prop}{sc:Array Value}{c:Case}{g cap:Nat}{rest:List Value}{d0:Array Hit}(w:World)(h:mj K w sc c)(i:OkC c)(j:∀b,K b->b≠g)(k:∀x∈d0,gH c x)(m:d0.size<=12)(o:g<w.heap.size)(p:SW w g rest d0 w):Calls (Qs fs) 162 #[.slice (some ⟨g,0,none⟩) d0.size cap,.func (.func 129) #[.agg sc] #[]] w λe w'=>e=.returned (.tuple #[])/\SW w g rest (Sort.insertionSort (aU c) d0 0 d0.size) w':=by (have O2:=O2 L;have O3:=O3 L;have q:=λf=>Tw L (cap:=cap) f w h i j k m o p;have r:=QE L d0.size (by omega) w;obtain⟨u,a⟩:=ex (Sort.insertionSort (aU c) d0 0 d0.size);rw[<-a]at q⊢;obtain⟨n,d⟩:=ex (d0.size);rw[<-d]at q r m⊢;clear h i j k o p a d;have s:(n:Int)<=12:=by omega);go_enter (n162 L),Tryz.ntmps162;go_wp2_with (first|(go_at_call 174;refine r.mono ?_;rintro e w3 ⟨⟨l,rfl⟩,rfl⟩)|(go_at_call 173;refine(q _).mono ?_;rintro e w4 ⟨rfl,t⟩));(go_end0);exact⟨rfl,t⟩
def NI{K:Nat->Prop}{sc:Array Value}{c:Case}{g cap:Nat}{rest:List Value}{d0:Array Hit}(w:World)(f:mj K w sc c)(h:OkC c)(i:∀b,K b->b≠g)(j:∀x∈d0,gH c x)(k:d0.size<=12)(l:g<w.heap.size)(m:SW w g rest d0 w):Calls (Qs fs) 128 #[.slice (some ⟨g,0,none⟩) d0.size cap,.func (.func 129) #[.agg sc] #[]] w λe w'=>e=.returned (.slice (some ⟨g,0,none⟩) d0.size cap)/\SW w g rest (Sort.insertionSort (aU c) d0 0 d0.size) w':=by have O0:=O0 L;have q:=It L (cap:=cap) w f h i j k l m;obtain⟨p,a⟩:=ex (Sort.insertionSort (aU c) d0 0 d0.size);rw[<-a]at q⊢;obtain⟨n,d⟩:=ex (d0.size);rw[<-d]at q k⊢;clear f h i j l m a d;go_enter (n128 L),Tryz.ntmps128;go_wp2_with (first|(go_at_call 162;refine q.mono ?_;rintro e w4 ⟨rfl,o⟩));go_ret;exact⟨rfl,o⟩
def KU{sc:Array Value}(w:World):Calls (Qs fs) 128 #[.slice none 0 0,.func (.func 129) #[.agg sc] #[]] w λe w'=>e=.returned (.slice none 0 0)/\w'=w:=by (have O0:=O0 L;have O2:=O2 L;have O3:=O3 L;have O5:=O5 L;have a:Calls (Qs fs) 183 #[.slice none 0 0,.int .i64 0,.int .i64 0,.func (.func 129) #[.agg sc] #[]] w λe w'=>e=.returned (.tuple #[])/\w'=w:=by go_enter (n183 L),Tryz.ntmps183;go_wp2;refine wp_loop_rounds 1 ?_;rw[rounds_succ];go_wp2;(go_end0);exact⟨rfl,rfl⟩);(have b:∀c,Calls (Qs fs) 173 #[.slice none 0 0,.int .i64 0,.int .i64 0,.int .i64 c,.func (.func 129) #[.agg sc] #[]] w λe w'=>e=.returned (.tuple #[])/\w'=w:=by intro c;go_enter (n173 L),Tryz.ntmps173;go_wp2;refine wp_loop_rounds 1 ?_;rw[rounds_succ];go_wp2_with (first|(go_at_call 183;refine a.mono ?_;rintro e w3 ⟨rfl,rfl⟩));(try simp only[Exit.inBlock,Exit.then]);refine bodyPost_ret (results_none rfl _ _ _) rfl ?_;exact⟨rfl,rfl⟩);(have f:=QE L 0 (by omega) w;have d:Calls (Qs fs) 162 #[.slice none 0 0,.func (.func 129) #[.agg sc] #[]] w λe w'=>e=.returned (.tuple #[])/\w'=w:=by go_enter (n162 L),Tryz.ntmps162;go_wp2_with (first|(go_at_call 174;refine f.mono ?_;rintro e w3 ⟨⟨l,rfl⟩,rfl⟩)|(go_at_call 173;refine(b _).mono ?_;rintro e w4 ⟨rfl,rfl⟩));(go_end0);exact⟨rfl,rfl⟩);go_enter (n128 L),Tryz.ntmps128;go_wp2_with (first|(go_at_call 162;refine d.mono ?_;rintro e w4 ⟨rfl,rfl⟩));go_ret;exact⟨rfl,rfl⟩
def Iu(c):Sort.SWO (aU c):=⟨Eg c,λ_ _ _=>before_trans,λ_ _ _=>pZ⟩
def Fj{c}{l:List Hit}(h:l.Perm (cj c)):(Sort.insertionSort (aU c) l.toArray 0 l.toArray.size).toList=cj c:=by (obtain⟨⟨b,m,e⟩,k⟩:=Sort.insertionSort_holds (Iu c) l.toArray 0 l.toArray.size (Ul _) (Ue _);obtain⟨d,n⟩:=ex (Sort.insertionSort (aU c) l.toArray 0 l.toArray.size);rw[<-n]at b m e k⊢;have e1:d.extract 0 l.toArray.size=d:=by rw[<-b];simp);(have o:l.toArray.extract 0 l.toArray.size=l.toArray:=by simp);(rw[e1,o]at e;refine zb ?_ (xw c) (e.trans h);refine X6.2 λi j hi p f=>?_;have g:i<d.size:=by simpa using hi);(have a:j<d.size:=by simpa using p);have:=k i j (Ul _) f (by rw[<-b];exact a);rw[Xi d i g,Xi d j a]at this;simpa using this
end Go.Proofs

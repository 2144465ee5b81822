import Derived.Sort.WalkA
import Derived.Sort.LotA
import Derived.Test.YtaglpcmhopjebaaGreatDoorY38
import Derived.Test.YtaglpcmhopjebaaGreatDoorY41
set_option linter.all false
set_option maxRecDepth 100000
set_option maxHeartbeats 20000000
namespace Go.Tm
open Go.Proofs
def nn:Func:={name:= "",origin:= "",params:=#[],resultTypes:=#[],nfree:=0,ntmps:=0,results:=#[],body:=none,norace:=false,tmpNames:=#[]}
noncomputable def fM(g:Func):Array Func:=Tryz.prog.funcs.mapIdx λi f=>if i=74 then g else if fK.contains i then f else nn
def rL(g i):(fM g)[i]? =(Tryz.prog.funcs[i]?).map λf=>if i=74 then g else if fK.contains i then f else nn:=by unfold fM;rw[Array.getElem?_mapIdx]
def Ri:(fK.all λi=>i !=74)=true:=by kernel_rfl
def QH(i)(a:i∈fK):i≠74:=by have:=Sm.1 Ri i a;simpa using this
def wY(fs)(i:Nat):(Qs fs).funcs[i]? =fs[i]? :=rfl
def oP(g):bQ (fM g):=λi a=>by
 rw[wY,rL];have b:fK.contains i=true:=Tf.2 a;cases Tryz.prog.funcs[i]? with
 |none=>rfl
 |some f=>simp[QH i a,a]
def tq(g):(fM g).size=Tryz.prog.funcs.size:=by simp[fM]
def DM:(im.all λi=>fK.contains i)=true:=by kernel_rfl
def Li{S}(l:(im.all λi=>(Tryz.prog.funcs[i]?).any λg=>g.name != "runtime.NumGoroutine" &&g.body.any (codeOk S))=true){f}(h:im.contains f=true)(g0):
 ∃g c,(fM g0)[f]? =some g/\Tryz.prog.funcs[f]? =some g/\g.name≠ "runtime.NumGoroutine" /\g.body=some c/\S.code c:=by
 have j:f∈im:=Tf.1 h;have b:=Sm.1 l f j;have m:fK.contains f=true:=Sm.1 DM f j;have k:=oP g0 f (Tf.1 m);rw[wY]at k;cases d:Tryz.prog.funcs[f]? with
 |none=>rw[d]at b;cases b
 |some g=>
  rw[d]at b;simp only[Va,RD,Tq,ne_eq]at b;obtain⟨n,a⟩:=b;cases e:g.body with
  |none=>rw[e]at a;cases a
  |some c=>rw[e]at a;exact⟨g,c,by rw[k,d],rfl,n,e,a⟩
def N7:Value->Bool
 | .agg c=>c.toList.all fI
 |v=>fI v
def N8:Value->Bool
 | .agg c=>c.toList.all fI
 | .tuple c=>c.toList.all N7
 |v=>fI v
def zv{c}(h:c.toList.all fI=true):Plain (.agg c):=by intro G π;refine .Ej (aU.refl λx a=>nQ x (Sm.1 h x (UB.2 a)) G π)
def FX(v)(h:N7 v=true):Plain v:=by
 cases v with
 |agg c=>exact zv h
 |_=>exact nQ _ h
def FY(v)(h:N8 v=true):Plain v:=by
 cases v with
 |agg c=>exact zv h
 |tuple c=>intro G π;exact .tuple' (aU.refl λx a=>FX x (Sm.1 h x (UB.2 a)) G π)
 |_=>exact nQ _ h
def FZ:(Tryz.prog.types.toList.all λi=>i.zero.all N8)=true:=by kernel_rfl
def tt:du Tryz.prog:=λt i z h a=>FW Tryz.prog.toTables (λt i h z a=>by have b:=Sm.1 FZ i (UB.2 (SO h));rw[a]at b;exact FY z b) t i h z a
def wZ(fs):du (ah Tryz.prog fs):=λt i z h a=>tt t i z h a
def bare:List Nat:=[164,196,198,208,211]
def IY:(fK.all λi=>im.contains i||bare.contains i)=true:=by kernel_rfl
def zw:(im.all λi=>i !=74)=true:=by kernel_rfl
def Tz{a b:String}(h:(a==b)=false):a≠b:=λe=>by subst e;simp at h
def Ni:(Tryz.f164.name== "runtime.NumGoroutine")=false:=by kernel_rfl
def Nj:(Tryz.f196.name== "runtime.NumGoroutine")=false:=by kernel_rfl
def Nk:(Tryz.f198.name== "runtime.NumGoroutine")=false:=by kernel_rfl
def Nl:(Tryz.f208.name== "runtime.NumGoroutine")=false:=by kernel_rfl
def Nn:(Tryz.f211.name== "runtime.NumGoroutine")=false:=by kernel_rfl
def OG:(Tryz.f74.name== "runtime.NumGoroutine")=false:=by kernel_rfl
def No:Extern.findNext Tryz.f164=none:=by kernel_rfl
def Np:Extern.findNext Tryz.f196=none:=by kernel_rfl
def Nq:Extern.findNext Tryz.f198=none:=by kernel_rfl
def Nr:Extern.findNext Tryz.f208=none:=by kernel_rfl
def Ns:Extern.findNext Tryz.f211=none:=by kernel_rfl
def OH:Extern.find Tryz.f164=some Extern.AbiNoEscape.same:=by kernel_rfl
def OI:Extern.find Tryz.f196=some Extern.BytealgIndex.index:=by kernel_rfl
def OJ:Extern.find Tryz.f198=some Extern.BytealgCount.count:=by kernel_rfl
def OK:Extern.find Tryz.f208=some (Extern.BytealgMakeNoZero.makeNoZero Tryz.f208.params Tryz.f208.resultTypes):=by kernel_rfl
def OL:Extern.find Tryz.f211=some Extern.BytealgIndexByte.indexByte:=by kernel_rfl
def Lj:(Tryz.prog.globals.findIdx? (·.name== "internal/bytealg.MaxLen"))=some 2:=by kernel_rfl
def Lk{S Q fs}(b:Q.globals=Tryz.prog.globals)(d:S.dB 2=true){i}(f:bare.contains i=true):
 ∃g,Tryz.prog.funcs[i]? =some g/\g.name≠ "runtime.NumGoroutine" /\g.body=none/\Extern.findNext g=none/\∃e,Extern.find g=some e/\∀(π:Ren Q.globals.size),(∀g,S.dB g=true->π g g)->∀(a A),VsR π a A->SR S (ah Q fs) Q VQ π (e a) (e A):=by
 have h:i=164\/i=196\/i=198\/i=208\/i=211:=by simpa[bare]using f
 obtain rfl|rfl|rfl|rfl|rfl:=h
 ·exact⟨_,Tryz.func164,Tz Ni,rfl,No,_,OH,λπ _ a A h=>Le h⟩
 ·exact⟨_,Tryz.func196,Tz Nj,rfl,Np,_,OI,λπ j a A h=>IW j (λg c=>by rw[b,Lj]at c;cases c;exact d) h⟩
 ·exact⟨_,Tryz.func198,Tz Nk,rfl,Nq,_,OJ,λπ _ a A h=>Lf h⟩
 ·exact⟨_,Tryz.func208,Tz Nl,rfl,Nr,_,OK,λπ _ a A h=>yd _ _ h⟩
 ·exact⟨_,Tryz.func211,Tz Nn,rfl,Ns,_,OL,λπ _ a A h=>AV h⟩
def yg{i}(h:im.contains i=true):fK.contains i=true:=Sm.1 DM i (Tf.1 h)
def GQ{S Q g0}(d:Q.globals=Tryz.prog.globals)(l:S.dB 2=true)(m:∀i,fK.contains i=true->Q.funcs[i]? =Tryz.prog.funcs[i]?)(n:∀i,im.contains i=true->S.ent i=true)(h74:S.stop 74=true\/E8 g0){f g}(h:(fM g0)[f]? =some g):
 S.ent f=true\/S.stop f=true\/E8 g\/(Q.funcs[f]? =some g/\g.name≠ "runtime.NumGoroutine" /\g.body=none/\Extern.findNext g=none/\∃e,Extern.find g=some e/\∀(π:Ren Q.globals.size),(∀g,S.dB g=true->π g g)->∀(a A),VsR π a A->SR S (ah Q (fM g0)) Q VQ π (e a) (e A)):=by
 rw[rL]at h;by_cases e:f=74
 ·subst e
  obtain h74|h74:=h74
  ·exact .inr (.inl h74)
  ·cases b:Tryz.prog.funcs[74]? with
   |none=>rw[b]at h;cases h
   |some f=>rw[b]at h;simp at h;subst h;exact .inr (.inr (.inl h74))
 ·cases c:fK.contains f with
  |false=>
   cases b:Tryz.prog.funcs[f]? with
   |none=>rw[b]at h;cases h
   |some p=>rw[b]at h;simp only[Sl,Ro e,c,RQ,RP,Sg]at h;subst h;exact .inr (.inr (.inl ⟨rfl,rfl,rfl⟩))
  |true=>
   cases j:im.contains f with
   |true=>exact .inl (n f j)
   |false=>have k:=Sm.1 IY f (Tf.1 c);rw[j,Ua]at k;obtain⟨g',e1,o,e3,e4,x,e5,e6⟩:=Lk (S:=S) (fs:=fM g0) d l k;rw[e1]at h;simp only[Sl,Ro e,c,RG,Sg]at h;subst h;exact .inr (.inr (.inr ⟨(m f c).trans e1,o,e3,e4,x,e5,e6⟩))
def DN{Q:Program}(e:du Q)(a:Q.globals=Tryz.prog.globals)(b:Q.funcs.size=Tryz.prog.funcs.size)(d:∀i,fK.contains i=true->Q.funcs[i]? =Tryz.prog.funcs[i]?):Tab oq Q (fM nn) where
 zero:=e
 size:=(tq _).trans b.symm
 ent f h:=by obtain⟨g,c,j,k,l,m,n⟩:=Li Lh h nn;exact⟨rfl,g,c,j,(d f (yg h)).trans k,l,m,n⟩
 stop f h:=by cases h
 rest f g h:=GQ a rfl d (λ_ h=>h) (.inr ⟨rfl,rfl,rfl⟩) h
def rM(g):(fM g)[74]? =some g:=by rw[rL,Tryz.func74];rfl
def DO:Tab jC Tryz.prog (fM g74) where
 zero:=tt
 size:=tq _
 ent f h:=by
  obtain⟨g,c,b,d,e,i,j⟩:=Li Lg h g74;refine⟨?_,g,c,b,d,e,i,j⟩;have:=Sm.1 zw f (Tf.1 h);have a:f≠74:=by simpa using this
  show(f==74)=false;simpa using a
 stop f h:=by
  have k:f=74:=by have h:(f==74)=true:=h;simpa using h
  subst k;exact⟨rfl,g74,Tryz.f74,rM _,Tryz.func74,Tz (by kernel_rfl),Tz OG,rfl,rfl⟩
 rest f g h:=GQ rfl rfl (λ_ _=>rfl) (λ_ h=>h) (.inl rfl) h
def zy:Tab oq Tryz.prog (fM nn):=DN (Q:=Tryz.prog) tt (Eq.refl _) (Eq.refl _) λi _=>Eq.refl _
def IZ(P fs):(ah P fs).globals=P.globals:=rfl
def mU(P fs):(ah P fs).funcs=fs:=rfl
def I0:Tab oq (ah Tryz.prog (fM g74)) (fM nn):=DN (wZ _) (IZ _ _) (by rw[mU];exact tq _) λi a=>by rw[mU];exact(wY _ _).symm.trans (oP g74 i (Tf.1 a))
def tu(g):oq.calm g:=λ_ _ _ h=>by cases h
def zz(g):jC.calm g:=λf h a b=>by
 have c:=Sm.1 zw f (Tf.1 a);have d:f≠74:=by simpa using c
 have e:(f==74)=true:=b;exact absurd (by simpa using e) d
def DT:(fK.all λi=>(Tryz.prog.funcs[i]?).all λf=> !f.norace)=true:=by kernel_rfl
def F3:(fK.all λi=>(Tryz.prog.funcs[i]?).all λf=>(f.body.map readies).all (·.isEmpty))=true:=by kernel_rfl
def yh:Tryz.prog.follows .staticDataAhead=true:=by kernel_rfl
def Ll{Q:Program}(b:∀f∈Q.funcs,f.norace=false)(d:Q.follows .staticDataAhead=true)(e:∀f∈Q.funcs,∀c,f.body=some c->(readies c).isEmpty=true):kp Q where
 norace f:=by
  cases a:Q.funcs[f]? with
  |none=>rfl
  |some g=>exact b g (SO a)
 follows:=d
 stepOf g:=by
  unfold Program.stepOf;rw[Array.findIdx?_eq_none_iff];intro f a;cases h:f.body with
  |none=>rfl
  |some c=>
   have:=e f a c h;simp only[Sl,Va];cases i:readies c with
   |nil=>rfl
   |cons _ _=>rw[i]at this;cases this
def DU{g f}(h:f∈fM g):f=g\/f=nn\/∃i,i∈fK/\Tryz.prog.funcs[i]? =some f:=by
 obtain⟨i,a⟩:=Uv.1 h;rw[rL]at a;cases b:Tryz.prog.funcs[i]? with
 |none=>rw[b]at a;cases a
 |some d=>
  rw[b]at a;simp only[Sl,Sg]at a;split at a
  ·exact .inl a.symm
  ·split at a
   ·rename_i c
    subst a;exact .inr (.inr ⟨i,Tf.1 c,b⟩)
   ·exact .inr (.inl a.symm)
def Nt:(readies zp).isEmpty=true:=by kernel_rfl
def F4:kp (ah Tryz.prog (fM g74)):=by
 refine Ll (λf a=>?_) yh λf a c b=>?_
 ·rw[mU]at a
  obtain rfl|rfl|⟨i,d,a⟩:=DU a
  ·rfl
  ·rfl
  ·have:=Sm.1 DT i d
   rw[a]at this;simpa using this
 ·rw[mU]at a
  obtain rfl|rfl|⟨i,d,a⟩:=DU a
  ·have:c=zp:=by cases b;rfl
   subst this;exact Nt
  ·cases b
  ·have:=Sm.1 F3 i d
   rw[a]at this;simp only[Option.all_some,b,Sl]at this;exact this
def I1:(im.all λi=>(Tryz.prog.inits.idxOf? i).isNone)=true:=by kernel_rfl
def xa(f)(h:jC.ent f=true):Tryz.prog.inits.idxOf? f=none:=Option.isNone_iff_eq_none.1 (Sm.1 I1 f (Tf.1 h))
def jT:Tryz.prog.globals.size=5:=by kernel_rfl
def tY:0<Tryz.prog.globals.size:=by rw[jT];decide
end Go.Tm
namespace Go.Proofs
open Go.Tm
def uF(c:Case)(i:Nat):Option (Int×Int×Int):=(gU c i).map λx=>(x.mark,x.dZ,x.level)
def gP(l:List Hit):List Value:=l.map λx=>eQ x.mark x.dZ x.level
def GP(c i):rH (uF c) i=(gU c i).map λx=>eQ x.mark x.dZ x.level:=by unfold rH uF;cases gU c i<;>rfl
def zt{c a}(h:IK c.marks.length (uF c) a):∃l,a=gP l/\l.Perm (bX c):=by
 obtain⟨l,b,d,rfl⟩:=h;refine⟨l.filterMap (gU c),?_,?_⟩
 ·unfold gP
  rw[List.map_filterMap]
  congr 1
  funext i
  exact GP c i
 ·have e:l.Perm ((List.range c.marks.length).filter λi=>(gU c i).isSome):=(V8 b (List.nodup_range.filter _)).2 λi=>by rw[d,TN,Uq,GP];cases gU c i<;>simp
  refine(e.filterMap (gU c)).trans (List.Perm.trans ?_ (jO c).symm);rw[List.filterMap_filter];have:(λi=>if(gU c i).isSome then gU c i else none)=gU c:=by
   funext i
   cases gU c i<;>rfl
  rw[this]
def gQ(l):bt (gP l)=bq l:=by unfold bt gP bq;rw[List.flatMap_map];rfl
def tp(l):∀v∈gP l,∃a b c,v=eQ a b c:=by intro v d;unfold gP at d;obtain⟨x,_,rfl⟩:=SU.1 d;exact⟨_,_,_,rfl⟩
end Go.Proofs
namespace Go.Proofs
open Go.Tm Go.RowKit
variable {fs:Array Func} (L:bQ fs)
def IP{c:Case}{i k:Nat}{v:Int}{p:Option (Nat×Int)}(h:gU c i=p.map λx=>⟨i,x.1,x.2⟩)(a:p=some (k,v)):od (uF c i)=#[.int .i64 i,.int .i64 k,.int .i64 v]/\(uF c i).isSome=true:=by unfold uF;rw[h,a];exact⟨rfl,rfl⟩
def IQ{c:Case}{i:Nat}{p:Option (Nat×Int)}(h:gU c i=p.map λx=>⟨i,x.1,x.2⟩)(a:p=none):od (uF c i)=#[.int .i64 0,.int .i64 0,.int .i64 0]/\(uF c i).isSome=false:=by unfold uF;rw[h,a];exact⟨rfl,rfl⟩
def uO(fs:Array Func)(c:Case):Prop:=∀r∈c.rules,ic fs r.kind.toNat
def QE{K:Nat->Prop}{sc:Array Value}{c:Case}(i:Nat)(w:World)(hc:bl K w sc c)(X:OkC c)(Y:i<c.marks.length)(u:uO fs c)(R:gZ w)(y:ia w):
 Calls (Qs fs) 125 #[.agg sc,.int .i64 i] w λe w'=>e=.returned (.tuple #[.agg (od (uF c i)),.bool (uF c i).isSome])/\Below w.heap.size w w':=by
 have e84:=e84 L;have I:i<c.kin.length:=by rw[X.Of];exact Y
 have S:=zV c i Y I;have T:=λk (Z:k<c.rules.length) H (A:ae w H)=>Kl L i k H (hc.stays A) X Y Z I (u _ (RR Z)) (R.stays A) (y.stays A);obtain⟨v0,v1,v2,vr,vf,vm,vk,rfl,ht,C,hf,aa,ab⟩:=hc;have D:=λH (A:ae w H)=>C.stays A λb b' o x e h=>by subst e;exact o6.carry (Carry.keep A) b b o x rfl h
 obtain⟨ar,cr,rfl,_,_,_,U⟩:=id C;obtain⟨w1,l⟩:=ex ((w.alloc (.cells #[v0,v1,v2,.slice ar c.rules.length cr,.string c.new.name,.string c.new.word,vf,.int .i64 c.new.day,.bool c.new.known,vm,vk] 125)).alloc (.cells #[.int .i64 0,.int .i64 0,.int .i64 0] 66));have B:ae w w1:=by rw[l];exact(ae.alloc _ _).trans (ae.alloc _ _)
 have V:Below w.heap.size w w1:=by rw[l];exact(aF _ _).alloc (by simp) _
 have ct:∀i v,(#[v0,v1,v2,.slice ar c.rules.length cr,.string c.new.name,.string c.new.word,vf,.int .i64 c.new.day,.bool c.new.known,vm,vk]:Array Value)[i]? =some v->w1.cell? ⟨w.heap.size,i,none⟩=some v:=λi v h=>by rw[l];exact(ae.alloc _ _).cell (aw w _ 125 i v h)
 have q:w1.heap[w.heap.size+1]? =some (.cells #[.int .i64 0,.int .i64 0,.int .i64 0] 66):=by
  have h:(w.alloc (.cells #[v0,v1,v2,.slice ar c.rules.length cr,.string c.new.name,.string c.new.word,vf,.int .i64 c.new.day,.bool c.new.known,vm,vk] 125)).heap.size=w.heap.size+1:=by simp
  rw[l,<-h];exact Sd
 obtain⟨N,hN⟩:=ex (w.heap.size);obtain⟨E,z⟩:=ex (w.heap.size+1);have m:Hid (w.heap.size<=E):=by rw[Hid,z];omega
 have f:=λH (A:ae w1 H) i v h=>A.cell (ct i v h);rw[<-hN]at f;rw[<-z]at q;have ad:c.rules.length<=6:=X.Ev;clear ht hf aa ab C ct;go_enter (n125 L),Tryz.ntmps125;go_wp2;rw[<-l,<-z,<-hN];clear l hN z;go_loopw [14] (λs wr=>∃k:Nat,k<=c.rules.length/\s=.int .i64 k/\ae w1 wr/\Below w.heap.size w wr/\ey c c.marks[i] c.kin[i] 0 c.rules=ey c c.marks[i] c.kin[i] k (c.rules.drop k)) (λs _=>c.rules.length-(intOf s).toNat)
 case atStart=>exact⟨0,RA _,rfl,ae.refl _,V,rfl⟩
 case round=>
  obtain⟨k,Z,rfl,a,g,j⟩:=hrel;have u0:=f wr a 0 _ rfl;have u1:=f wr a 1 _ rfl;have u2:=f wr a 2 _ rfl;have u3:=f wr a 3 _ rfl;have u4:=f wr a 4 _ rfl;have u5:=f wr a 5 _ rfl;have u6:=f wr a 6 _ rfl;have u7:=f wr a 7 _ rfl;have u8:=f wr a 8 _ rfl;have u9:=f wr a 9 _ rfl;have af:=f wr a 10 _ rfl;have HS:Hid _:=a _ _ _ _ q;have W:Hid _:=(⟨a,g⟩:ae w1 wr/\Below w.heap.size w wr)
  have HP:Hid _:=S;obtain F|hge:=Ry k c.rules.length
  ·obtain⟨b,o,rfl,y0,y1,y2,y3⟩:=U k F
   have y0:=a.cell (B.cell y0);have y1:=a.cell (B.cell y1);have y2:=a.cell (B.cell y2);have y3:=a.cell (B.cell y3);have ag:(k:Int)<(c.rules.length:Int):=by omega
   have p0:=λob=>f (wr.alloc ob) (a.trans (ae.alloc _ _)) 0 _ rfl;have p1:=λob=>f (wr.alloc ob) (a.trans (ae.alloc _ _)) 1 _ rfl;have p2:=λob=>f (wr.alloc ob) (a.trans (ae.alloc _ _)) 2 _ rfl;have p3:=λob=>f (wr.alloc ob) (a.trans (ae.alloc _ _)) 3 _ rfl;have p4:=λob=>f (wr.alloc ob) (a.trans (ae.alloc _ _)) 4 _ rfl;have p5:=λob=>f (wr.alloc ob) (a.trans (ae.alloc _ _)) 5 _ rfl;have p6:=λob=>f (wr.alloc ob) (a.trans (ae.alloc _ _)) 6 _ rfl;have p7:=λob=>f (wr.alloc ob) (a.trans (ae.alloc _ _)) 7 _ rfl;have p8:=λob=>f (wr.alloc ob) (a.trans (ae.alloc _ _)) 8 _ rfl;have p9:=λob=>f (wr.alloc ob) (a.trans (ae.alloc _ _)) 9 _ rfl;have ak:=λob=>f (wr.alloc ob) (a.trans (ae.alloc _ _)) 10 _ rfl;have J:=λob=>T k F (wr.alloc ob) (B.trans (a.trans (ae.alloc _ _)));rw[qR c _ _ k F]at j;obtain⟨r,C⟩:=ex (lP c c.marks[i] c.kin[i] c.rules[k]);rw[<-C]at j J;obtain⟨lv,G⟩:=ex (bD c.table c.rules[k].kind c.new c.marks[i]);rw[<-G]at j J;obtain⟨q0,q1,q2⟩:=r;have hE:=BU fs q0 q1 q2 0 0 0;have hG:=iH fs uK .eql (.tmp 26) (.tmp 27);unfold BG at J;have t:w.heap.size<=wr.heap.size:=g.size;have HZ:Hid _:=t;by_cases M:(⟨q0,q1,q2⟩:Bl)=⟨0,0,0⟩
   ·rw[Rp M]at j
    cases M;have O:Hid _:=j;rw[RE ⟨rfl,rfl,rfl⟩]at hE;clear j C T f B V a g S U D t G q u R y;go_upto_region 5 with(first|(go_at_call 84;refine(J _).mono ?_;rintro e w3 ⟨rfl,n⟩;have d:=λo=>(ae.alloc w3 o) _ _ _ _ (((ae.alloc wr _).trans (ae.below n)) _ _ _ _ HS.out);have n0:=λo=>cell_of_heap (d o) 0 _ rfl;have n1:=λo=>cell_of_heap (d o) 1 _ rfl;have n2:=λo=>cell_of_heap (d o) 2 _ rfl;have g0:=λo=>frozen_of_heap (d o) 0;have g1:=λo=>frozen_of_heap (d o) 1;have g2:=λo=>frozen_of_heap (d o) 2;have H3:Hid _:=n;clear d n))
    go_wp2;have P:=W.out.2.alloc HZ.out (.cells #[.int .i64 c.rules[k].kind,.int .i64 c.rules[k].least,.int .i64 c.rules[k].plain,.int .i64 c.rules[k].known] 69);have Q:=P.trans (H3.out.mono P.size);have b4:=Q.alloc Q.size (.cells #[.int .i64 0,.int .i64 0,.int .i64 0] 86);refine bodyPost_ret (v:=.tuple #[.agg #[.int .i64 i,.int .i64 k,.int .i64 lv],.bool true]) ?_ rfl ⟨?_,((b4.setCell (p:=⟨E,0,none⟩) m.out _).setCell (p:=⟨E,1,none⟩) m.out _).setCell (p:=⟨E,2,none⟩) m.out _⟩
    ·simp[results,Tryz.results125,go_sem, *]
    ·obtain⟨e1,e2⟩:=IP HP.out O.out
     rw[e1,e2]
   ·rw[Ro M]at j
    have O:Hid _:=j;rw[Rz (λh=>M (by rw[h.1,h.2.1,h.2.2]))]at hE;clear j C T f B V a g S M U D t G q u R y;go_wp2_with (first|(go_at_call 84;refine(J _).mono ?_;rintro e w3 ⟨rfl,n⟩))
    have P:=W.out.2.alloc HZ.out (.cells #[.int .i64 c.rules[k].kind,.int .i64 c.rules[k].least,.int .i64 c.rules[k].plain,.int .i64 c.rules[k].known] 69);have Q:=P.trans (n.mono P.size);exact⟨⟨k+1,by omega,by go_num,(W.out.1.trans (ae.alloc _ _)).trans ((ae.below n).trans (ae.alloc _ _)),Q.alloc Q.size _,O.out⟩,by simp[intOf];omega⟩
  ·have O:Hid _:=j
   clear a g T f B V j S U D q u R y;have d:=HS.out;have n0:=cell_of_heap d 0 _ rfl;have n1:=cell_of_heap d 1 _ rfl;have n2:=cell_of_heap d 2 _ rfl;have g0:=frozen_of_heap d 0;have g1:=frozen_of_heap d 1;have g2:=frozen_of_heap d 2;clear d;go_wp2;refine bodyPost_ret (v:=.tuple #[.agg #[.int .i64 0,.int .i64 0,.int .i64 0],.bool false]) ?_ rfl ⟨?_,((W.out.2.setCell (p:=⟨E,0,none⟩) m.out _).setCell (p:=⟨E,1,none⟩) m.out _).setCell (p:=⟨E,2,none⟩) m.out _⟩
   ·simp[results,Tryz.results125,go_sem, *]
   ·have j:=O.out
    rw[RY hge]at j;obtain⟨e1,e2⟩:=IQ HP.out j;rw[e1,e2]
def IS(a b:Hit)(d1 d2:Int):Int:=if a.dZ-b.dZ≠0 then a.dZ-b.dZ else if b.level-a.level≠0 then b.level-a.level else if d1-d2≠0 then d1-d2 else a.mark-b.mark
def Ng(c a b):IS a b (gF c a.mark) (gF c b.mark)<0↔aQ c a b=true:=by
 rw[mI];unfold IS;repeat' split
 all_goals omega
def lI(K:Nat->Prop)(w:World)(sc:Array Value)(c:Case):Prop:=∃v0 v1 v2 d e f g j k a ao cp,sc=#[v0,v1,v2,d,e,f,g,j,k,.slice ao c.marks.length cp,a]/\∀i (h:i<c.marks.length),∃b o,ao=some ⟨b,o,none⟩/\K b/\w.cell? ⟨b,o+i*5+3,none⟩=some (.int .i64 c.marks[i].day)
def bl.days{K w sc c}(h:bl K w sc c):lI K w sc c:=by obtain⟨v0,v1,v2,k,l,m,n,rfl,p,q,r,a,d⟩:=h;obtain⟨ao,e,rfl,_,_,f,g⟩:=a;refine⟨_,_,_,_,_,_,_,_,_,_,ao,e,rfl,λi h=>?_⟩;obtain⟨b,o,rfl,_,_,_,j,_⟩:=g i h;exact⟨b,o,rfl,(f _ rfl).2.1,j⟩
def lI.to{K}{w w':World}{sc c}(h:lI K w sc c)(f:∀b,K b->b<w.heap.size->w'.heap[b]? =w.heap[b]?):lI K w' sc c:=by
 obtain⟨v0,v1,v2,l,m,n,p,q,r,j,ao,cp,rfl,g⟩:=h;refine⟨_,_,_,_,_,_,_,_,_,_,ao,cp,rfl,λi h=>?_⟩;obtain⟨b,o,e,d,a⟩:=g i h;have k:b<w.heap.size:=by
  obtain h|h:=Ry b w.heap.size
  ·exact h
  ·unfold World.cell? at a
   rw[Tg h]at a;cases a
 exact⟨b,o,e,d,(dh (f b d k)).trans a⟩
def IT{K:Nat->Prop}{sc:Array Value}{c:Case}(i j:Nat)(o l1 r2 p:Int)(w:World)(hc:lI K w sc c)(hi:i<c.marks.length)(hj:j<c.marks.length)(hn:c.marks.length<=8)
 (b1: -1000<=o/\o<=1000) (b2: -1000<=r2/\r2<=1000) (b3: -1000000<=l1/\l1<=1000000) (b4: -1000000<=p/\p<=1000000) (U:∀m∈c.marks,-1000000000<=m.day/\m.day<=1000000000):
 Calls (Qs fs) 129 #[.agg sc,mD ⟨i,o,l1⟩,mD ⟨j,r2,p⟩] w λe w'=>e=.returned (.int .i64 (IS ⟨i,o,l1⟩ ⟨j,r2,p⟩ c.marks[i].day c.marks[j].day))/\Below w.heap.size w w':=by
 obtain⟨v0,v1,v2,v3,v4,v5,v6,v7,v8,E,ao,cp,rfl,g⟩:=hc;obtain⟨C,l⟩:=ex (w.alloc (.cells #[v0,v1,v2,v3,v4,v5,v6,v7,v8,.slice ao c.marks.length cp,E] 125));obtain⟨F,n⟩:=ex (C.alloc (.cells #[.int .i64 i,.int .i64 o,.int .i64 l1] 66));obtain⟨w1,r⟩:=ex (F.alloc (.cells #[.int .i64 j,.int .i64 r2,.int .i64 p] 66));have V:ae F w1:=by rw[r];exact ae.alloc _ _
 have W:ae C w1:=(by rw[n];exact ae.alloc _ _:ae C F).trans V;have X:ae w w1:=(by rw[l];exact ae.alloc _ _:ae w C).trans W;have B1:Below w.heap.size w w1:=by rw[r,n,l];exact(((Below.refl _ w).alloc (Rq _) _).alloc (by simp) _).alloc (by simp;omega) _
 have x:C.heap.size=w.heap.size+1:=by rw[l];simp
 have hsb:F.heap.size=w.heap.size+1+1:=by rw[n,<-x];simp
 have ct:∀i v,(#[v0,v1,v2,v3,v4,v5,v6,v7,v8,.slice ao c.marks.length cp,E]:Array Value)[i]? =some v->w1.cell? ⟨w.heap.size,i,none⟩=some v:=λi v h=>W.cell (by rw[l];exact aw w _ 125 i v h);have N:∀k v,(#[.int .i64 i,.int .i64 o,.int .i64 l1]:Array Value)[k]? =some v->w1.cell? ⟨w.heap.size+1,k,none⟩=some v:=λi v h=>V.cell (by rw[n,<-x];exact aw C _ 66 i v h);have O:∀k v,(#[.int .i64 j,.int .i64 r2,.int .i64 p]:Array Value)[k]? =some v->w1.cell? ⟨w.heap.size+1+1,k,none⟩=some v:=λi v h=>by rw[r,<-hsb];exact aw F _ 66 i v h
 obtain⟨N0,Y⟩:=ex (w.heap.size);obtain⟨N1,Z⟩:=ex (w.heap.size+1);obtain⟨N2,h2⟩:=ex (w.heap.size+1+1);obtain⟨bm,om,rfl,_,P⟩:=g i hi;obtain⟨al,an,aa,_,Q⟩:=g j hj;cases aa;have P:=X.cell P;have Q:=X.cell Q;have t9:=ct 9 _ rfl;have a0:=N 0 _ rfl;have a1:=N 1 _ rfl;have a2:=N 2 _ rfl;have c0:=O 0 _ rfl;have c1:=O 1 _ rfl;have c2:=O 2 _ rfl;rw[<-h2]at c0 c1 c2;rw[<-Z]at a0 a1 a2;rw[<-Y]at t9;have G:=U _ (RR hi);have H:=U _ (RR hj);obtain⟨d1,I⟩:=ex (c.marks[i].day);obtain⟨d2,J⟩:=ex (c.marks[j].day);rw[<-I]at P G⊢;rw[<-J]at Q H⊢;have ab:IntKind.i64.wrap (o-r2)=o-r2:=wrap_i64 _ (by omega);have ad:IntKind.i64.wrap (p-l1)=p-l1:=wrap_i64 _ (by omega);have af:IntKind.i64.wrap (d1-d2)=d1-d2:=wrap_i64 _ (by omega);have ar:IntKind.i64.wrap ((i:Int)-j)=(i:Int)-j:=wrap_i64 _ (by omega);have D:Hid _:=B1;have ag:(i:Int)<(c.marks.length:Int):=by omega
 have ak:(j:Int)<(c.marks.length:Int):=by omega
 obtain⟨q,u⟩:=ex (IS ⟨i,o,l1⟩ ⟨j,r2,p⟩ d1 d2);rw[<-u];unfold IS at u;simp only[]at u;obtain⟨x0,y⟩:=ex (o-r2);obtain⟨x1,z⟩:=ex (p-l1);obtain⟨x2,A⟩:=ex (d1-d2);have ax:wrap64 (o-r2)=x0:=by rw[y];unfold wrap64;omega
 rw[<-y]at u;have ay:wrap64 (p-l1)=x1:=by rw[z];unfold wrap64;omega
 rw[<-z]at u;have aM:wrap64 (d1-d2)=x2:=by rw[A];unfold wrap64;omega
 rw[<-A]at u;clear ab ad af;have R:Hid _:=u;unfold mD;go_enter (n129 L),Tryz.ntmps129;go_upto_region 1 with fail;rw[<-l,<-n,<-r,<-h2,<-Z,<-Y];clear y z A l n r W V X B1 x hsb ct N O Y Z h2 I J U g u b1 b2 b3 b4 G H;go_quiet (fail);clear P Q t9 a1 a2 c1 c2 ag ak;obtain⟨S,t⟩:=ex (w1.drewN nq);have a0:S.cell? ⟨N1,0,none⟩=some (.int .i64 i):=by rw[t];exact a0
 have c0:S.cell? ⟨N2,0,none⟩=some (.int .i64 j):=by rw[t];exact c0
 have D:Hid (Below w.heap.size w S):=by rw[t];exact D.out.fL _
 rw[<-t];clear t;go_wp2;have a6:∀(a b d:Value) (w:World),(Instr.index 225 (.agg #[a,b,d]) (.int .i64 0)).run (Qs fs) w=.ok a w:=λ_ _ _ _=>rfl;have a7:∀(a b d:Value) (w:World),(Instr.index 225 (.agg #[a,b,d]) (.int .i64 1)).run (Qs fs) w=.ok b w:=λ_ _ _ _=>rfl;have a8:∀(a b d:Value) (w:World),(Instr.index 225 (.agg #[a,b,d]) (.int .i64 2)).run (Qs fs) w=.ok d w:=λ_ _ _ _=>rfl;go_loopw [37] (λs wr=>wr=S/\(s=.int .i64 0\/(s=.int .i64 1/\x0=0)\/(s=.int .i64 2/\x0=0/\x1=0)\/(s=.int .i64 3/\x0=0/\x1=0/\x2=0))) (λs _=>4-(intOf s).toNat)
 case atStart=>exact⟨rfl,.inl rfl⟩
 case round=>
  obtain⟨rfl,rfl|⟨rfl,B⟩|⟨rfl,B,T⟩|⟨rfl,B,T,z2⟩⟩:=hrel
  ·by_cases f:x0=0
   ·have M:(x0 !=0)=false:=by rw[f];rfl
    go_wp2;exact⟨⟨trivial,.inr (.inl ⟨rfl,f⟩)⟩,by simp[intOf]⟩
   ·have M:(x0 !=0)=true:=by simpa using f
    go_wp2;go_ret;exact⟨by rw[R.out,Rp f];rfl,D.out⟩
  ·by_cases f:x1=0
   ·have M:(x1 !=0)=false:=by rw[f];rfl
    go_wp2;exact⟨⟨trivial,.inr (.inr (.inl ⟨rfl,B,f⟩))⟩,by simp[intOf]⟩
   ·have M:(x1 !=0)=true:=by simpa using f
    go_wp2;go_ret;exact⟨by rw[R.out,Ro (λh=>h B),Rp f];rfl,D.out⟩
  ·by_cases f:x2=0
   ·have M:(x2 !=0)=false:=by rw[f];rfl
    go_wp2;exact⟨⟨trivial,.inr (.inr (.inr ⟨rfl,B,T,f⟩))⟩,by simp[intOf]⟩
   ·have M:(x2 !=0)=true:=by simpa using f
    go_wp2;go_ret;exact⟨by rw[R.out,Ro (λh=>h B),Ro (λh=>h T),Rp f];rfl,D.out⟩
  ·go_wp2
   go_ret;exact⟨by rw[R.out,Ro (λh=>h B),Ro (λh=>h T),Ro (λh=>h z2)];rfl,D.out⟩
instance:Inhabited Hit:=⟨⟨0,0,0⟩⟩
structure gl(c:Case)(x:Hit):Prop where
 mark:∃i:Nat,i<c.marks.length/\x.mark=i
 dZ: -1000<=x.dZ/\x.dZ<=1000
 level: -1000000<=x.level/\x.level<=1000000
def K9(c:Case)(x y:Hit):Int:=IS x y (gF c x.mark) (gF c y.mark)
def wW(c x y):decide (K9 c x y<0)=aQ c x y:=by rw[SV,decide_eq_true_iff];exact Ng c x y
def FQ{K:Nat->Prop}{sc:Array Value}{c:Case}{x y:Hit}(w:World)(g:lI K w sc c)(b:OkC c)(k:gl c x)(l:gl c y):
 Calls (Qs fs) 129 #[.agg sc,mD x,mD y] w λe w'=>e=.returned (.int .i64 (K9 c x y))/\Below w.heap.size w w':=by
 obtain⟨⟨i,d,e1⟩,b1,n⟩:=k;obtain⟨⟨j,f,a⟩,b2,o⟩:=l;obtain⟨m1,p,q⟩:=x;obtain⟨m2,r,s⟩:=y;have e1:m1=(i:Int):=e1;have a:m2=(j:Int):=a;subst e1 a;have h:=IT L i j p q r s w g d f b.sx b1 b2 n o (λm t=>by have:=(b.marks m t).day;omega);unfold K9;simp only[];rw[oI c i d,oI c j f];exact h
structure SW(w:World)(g:Nat)(rest:List Value)(d:Array Hit)(wr:World):Prop where
 size:w.heap.size<=wr.heap.size
 other:∀b,b<w.heap.size->b≠g->wr.heap[b]? =w.heap[b]?
 row:wr.heap[g]? =some (.cells (bq d.toList++rest).toArray 66 (0,0))
def SW.below{w wr w' g rest d}(h:SW w g rest d wr)(a:Below wr.heap.size wr w'):SW w g rest d w':=by have e:g<wr.heap.size:=(Rx.1 h.row).1;exact⟨Rr h.size a.size,λb c f=>(a.block b (Ru c h.size)).trans (h.other b c f),(a.block g e).trans h.row⟩
def SW.drewN{w wr g rest d}(h:SW w g rest d wr)(n):SW w g rest d (wr.drewN n):=⟨h.size,h.other,h.row⟩
def SW.drew{w wr g rest d}(h:SW w g rest d wr):SW w g rest d wr.drew:=⟨h.size,h.other,h.row⟩
def jc{w:World}{g o A}{t:Nat}{F v}(h:w.heap[g]? =some (.cells A t F)):(w.setCell ⟨g,o,none⟩ v).heap[g]? =some (.cells (A.setIfInBounds o v) t F):=by simp[World.setCell,SH,h]
def IU(l k x)(a:k<l.length)(rest):
 ((((bq l++rest).toArray.setIfInBounds (k*3) (.int .i64 x.mark)).setIfInBounds (k*3+1) (.int .i64 x.dZ)).setIfInBounds (k*3+2) (.int .i64 x.level))=(bq (l.set k x)++rest).toArray:=by
 simp only[List.setIfInBounds_toArray]
 congr 1
 induction l generalizing k with
 |nil=>cases a
 |cons y l b=>
  cases k with
  |zero=>simp[bq,List.set]
  |succ k=>
   have:=b k (by simpa using a);have e:(k+1)*3=k*3+1+1+1:=by omega
   simp only[bq,Tr,List.set_cons_succ,TU,Tc,e]at this⊢;simp only[List.set_cons_succ,Uw,true_and];exact this
def FT(w:World)(g k:Nat)(x:Hit):World:=((w.setCell ⟨g,k*3,none⟩ (.int .i64 x.mark)).setCell ⟨g,k*3+1,none⟩ (.int .i64 x.dZ)).setCell ⟨g,k*3+2,none⟩ (.int .i64 x.level)
def SW.set{w wr g rest d}(h:SW w g rest d wr)(k x)(c:k<d.size):SW w g rest (d.setIfInBounds k x) (FT wr g k x):=by
 refine⟨by simp[FT,World.setCell];exact h.size,λb e a=>?_,?_⟩
 ·unfold FT
  rw[Below.heap_setCell _ _ _ b a,Below.heap_setCell _ _ _ b a,Below.heap_setCell _ _ _ b a];exact h.other b e a
 ·unfold FT
  rw[jc (jc (jc h.row)),IU _ _ _ (by simpa using c),VF]
def SW.swp{w wr g rest d}(h:SW w g rest d wr)(i j)(a:i<d.size)(b:j<d.size):SW w g rest (Sort.swp d i j) (FT (FT wr g i d[j]!) g j d[i]!):=by unfold Sort.swp;exact(h.set i _ a).set j _ (by simpa using b)
def swp_size(d:Array Hit)(i j):(Sort.swp d i j).size=d.size:=by unfold Sort.swp;simp
def get_mem(d:Array Hit)(i)(h:i<d.size):d[i]! ∈d:=by rw[UA d i h];exact Uz h
def Lb{c d}(h:∀x∈d,gl c x)(i j)(b:i<d.size)(e:j<d.size):∀x∈Sort.swp d i j,gl c x:=by
 intro x a;unfold Sort.swp at a;obtain a|rfl:=Wa a
 ·obtain a|rfl:=Wa a
  ·exact h x a
  ·exact h _ (get_mem d j e)
 ·exact h _ (get_mem d i b)
def SW.cells{w wr g rest d}(h:SW w g rest d wr)(k)(c:k<d.size):
 wr.cell? ⟨g,k*3,none⟩=some (.int .i64 d[k]!.mark)/\wr.cell? ⟨g,k*3+1,none⟩=some (.int .i64 d[k]!.dZ)/\wr.cell? ⟨g,k*3+2,none⟩=some (.int .i64 d[k]!.level):=by
 have b:k<d.toList.length:=by simpa using c
 have a:=Cd d.toList k b;have f:d.toList[k]=d[k]! :=by rw[UA d k c];simp
 rw[f]at a;have e:(bq d.toList).length=d.toList.length*3:=hU _;refine⟨cell_of_heap h.row _ _ ?_,cell_of_heap h.row _ _ ?_,cell_of_heap h.row _ _ ?_⟩
 ·rw[T1,T7 (by omega)];exact a.1
 ·rw[T1,T7 (by omega)];exact a.2.1
 ·rw[T1,T7 (by omega)];exact a.2.2
def QF{K:Nat->Prop}{sc:Array Value}{c:Case}{g cap:Nat}{rest:List Value}{d0:Array Hit}(w:World)(X:lI K w sc c)(ok:OkC c)(Y:∀b,K b->b≠g)(Z:∀x∈d0,gl c x)(hn:d0.size<=12)(hg:g<w.heap.size)(h0:SW w g rest d0 w):
 Calls (Qs fs) 183 #[.slice (some ⟨g,0,none⟩) d0.size cap,.int .i64 0,.int .i64 d0.size,.func (.func 129) #[.agg sc] #[]] w λe w'=>e=.returned (.tuple #[])/\SW w g rest (Sort.insertionSort (aQ c) d0 0 d0.size) w':=by
 have Pv:∀a w,(callFunc 129 a).run (Qs fs) w=.ok (.enter 129 a) w:=Pv L;have aa:(Qs fs).follows .mixedOrders=true:=by kernel_rfl
 have cC:=λwy (hs:∀b,K b->b<w.heap.size->wy.heap[b]? =w.heap[b]?) x y (D:gl c x) (E:gl c y)=>FQ L wy (X.to hs) ok D E;have CC:Hid _:=cC;have HG:Hid (g<w.heap.size/\∀b,K b->b≠g):=⟨hg,Y⟩
 have H0:Hid _:=h0;have HD:Hid _:=Z;obtain⟨n,q⟩:=ex (d0.size);have HN:Hid _:=q;rw[<-q]at hn;have F:Hid (Sort.insertionSort (aQ c) d0 0 n=Sort.insOuter (aQ c) 0 n 1 d0):=rfl;rw[<-q];clear X cC Y hg h0 Z q;go_enter (n183 L),Tryz.ntmps183;go_wp2;go_loopw [8] (λs wr=>∃(i:Nat) (d:Array Hit),s=.int .i64 i/\1<=i/\i<=n+1/\d.size=n/\(∀x∈d,gl c x)/\SW w g rest d wr/\Sort.insOuter (aQ c) 0 n i d=Sort.insOuter (aQ c) 0 n 1 d0) (λs _=>n+1-(intOf s).toNat)
 case atStart=>exact⟨1,d0,by go_num,Rq _,by omega,HN.out.symm,HD.out,H0.out,rfl⟩
 case round=>
  obtain⟨i,d,rfl,ad,af,r,t,u,S⟩:=hrel;by_cases G:i<n
  ·have H:(i:Int)<(n:Int):=by omega
   have A:Hid _:=(⟨r,t,u,S⟩:_/\_/\_/\_)
   clear r t u S;go_wp2;go_loopw [9] (λs U=>∃(j:Nat) (d2:Array Hit),s=.int .i64 j/\j<=i/\d2.size=n/\(∀x∈d2,gl c x)/\SW w g rest d2 U/\Sort.insInner (aQ c) 0 j d2=Sort.insInner (aQ c) 0 i d) (λs _=>(intOf s).toNat)
   case atStart=>exact⟨i,d,rfl,Rq _,A.out.1,A.out.2.1,A.out.2.2.1,rfl⟩
   case round=>
    obtain⟨j,d2,rfl,ag,p,o,l,v⟩:=hrel;have I:Hid ((j=0\/aQ c d2[j]! d2[j-1]! =false)->Sort.insOuter (aQ c) 0 n (i+1) d2=Sort.insOuter (aQ c) 0 n 1 d0):=λh=>by rw[<-A.out.2.2.2,insOuter_go _ _ _ _ _ G,<-v,insInner_stop _ _ _ _ (h.imp (λh=>by omega) id)]
    obtain rfl|hj0:=SF j
    ·have m:Hid _:=(⟨p,o,l⟩:_/\_/\_)
     clear p o l v;go_wp2;go_quiet (fail);go_wp2;exact⟨⟨i+1,d2,by go_num,by omega,by omega,m.out.1,m.out.2.1,m.out.2.2.drewN nq,I.out (.inl trivial)⟩,by simp[intOf];omega⟩
    ·obtain⟨f,rfl⟩:∃f,j=f+1:=⟨j-1,by omega⟩
     have jz:((f:Int)+1)<(n:Int):=by omega
     have ak:(f:Int)<(n:Int):=by omega
     have al:(0:Int)<(f:Int)+1:=by omega
     have e0:((f:Int)+1).toNat=f+1:=by omega
     have p0:(0:Int)<=(f:Int)+1:=by omega
     have an:IntKind.i64.wrap (f:Int)=(f:Int):=by rw[IntKind.wrap_i64];omega
     have fx:=o _ (get_mem d2 (f+1) (by omega));have V:=o _ (get_mem d2 f (by omega));obtain⟨J,a1,M⟩:=l.cells (f+1) (by omega);obtain⟨b0,b1,b2⟩:=l.cells f (by omega);obtain⟨x,D⟩:=ex (d2[f+1]!);obtain⟨y,E⟩:=ex (d2[f]!);rw[<-D]at fx J a1 M;rw[<-E]at V b0 b1 b2;have T:∀z:aj wr wr,Calls (Qs fs) 129 #[.agg sc,.agg #[.int .i64 x.mark,.int .i64 x.dZ,.int .i64 x.level],.agg #[.int .i64 y.mark,.int .i64 y.dZ,.int .i64 y.level]] z.val λe w'=>e=.returned (.int .i64 (K9 c x y))/\∃z':aj wr wr,w'=z'.val:=λz=>aj.calls (CC.out z.val (λb h1 h2=>((z.be.block b (Ru h2 l.size)).trans (l.other b h2 (HG.out.2 b h1)))) x y fx V)
     have m:Hid _:=(⟨p,o,l,D,E,v⟩:_/\_/\_/\_/\_/\_)
     have ab:IntKind.i64.wrap ((f:Int)+1)=(f:Int)+1:=by rw[IntKind.wrap_i64];omega
     have l0:=λz:aj wr wr=>z.cell J;have l1:=λz:aj wr wr=>z.cell a1;have l2:=λz:aj wr wr=>z.cell M;have l3:=λz:aj wr wr=>z.cell b0;have l4:=λz:aj wr wr=>z.cell b1;have l5:=λz:aj wr wr=>z.cell b2;clear p o l D E v fx V J a1 M b0 b1 b2;by_cases N:K9 c x y<0
     ·go_upto_region 4 with fail
      refine bh (w0:=wr) (w1:=wr) (by kernel_rfl) (by kernel_rfl) (ae.refl _) (Below.refl _ _) ?_;haveI B:Nonempty (aj wr wr):=⟨⟨wr,ae.refl _,Below.refl _ _⟩⟩
      repeat (go_big_quiet_step (first|(go_at_fn 129;exact T _)))
      refine wpQuiet_nil ?_;rintro wz ⟨⟨_,W,O⟩,rfl⟩;have C:Hid _:=m.out.2.2.1.below O;clear T l0 l1 l2 l3 l4 l5 B W O;obtain⟨J,a1,M⟩:=C.out.cells (f+1) (by have:=m.out.1;omega);obtain⟨b0,b1,b2⟩:=C.out.cells f (by have:=m.out.1;omega);rw[<-m.out.2.2.2.1]at J a1 M;rw[<-m.out.2.2.2.2.1]at b0 b1 b2;have fz:=λk=>frozen_of_heap C.out.row k;go_wp2_with fail
      go_big_region_o
      all_goals go_wp2
      have P:f+1<d2.size:=by have:=m.out.1;omega
      have Q:f<d2.size:=by omega
      have R:=C.out.swp (f+1) f P Q;rw[<-m.out.2.2.2.1,<-m.out.2.2.2.2.1]at R;have R:=R.drew;unfold FT at R;refine⟨⟨f,Sort.swp d2 (f+1) f,rfl,by omega,by rw[swp_size];exact m.out.1,Lb m.out.2.1 _ _ P Q,R,?_⟩,by simp[intOf]⟩;rw[<-m.out.2.2.2.2.2,insInner_go (aQ c) 0 (f+1) d2 (by omega) (by rw[Nat.add_sub_cancel,<-m.out.2.2.2.1,<-m.out.2.2.2.2.1,<-wW,RE N])];rfl
     ·go_upto_region 4 with fail
      refine bh (w0:=wr) (w1:=wr) (by kernel_rfl) (by kernel_rfl) (ae.refl _) (Below.refl _ _) ?_;haveI B:Nonempty (aj wr wr):=⟨⟨wr,ae.refl _,Below.refl _ _⟩⟩
      repeat (go_big_quiet_step (first|(go_at_fn 129;exact T _)))
      refine wpQuiet_nil ?_;rintro wz ⟨⟨_,W,O⟩,rfl⟩;have C:Hid _:=m.out.2.2.1.below O;clear T l0 l1 l2 l3 l4 l5 B W O;go_wp2;refine⟨⟨i+1,d2,by go_num,by omega,by omega,m.out.1,m.out.2.1,C.out,I.out (.inr ?_)⟩,by simp[intOf];omega⟩;rw[Nat.add_sub_cancel,<-m.out.2.2.2.1,<-m.out.2.2.2.2.1,<-wW,Rz N]
  ·have H:¬(i:Int)<(n:Int):=by omega
   have A:Hid _:=(⟨r,t,u,S⟩:_/\_/\_/\_)
   clear r t u S;go_wp2
   go_end0
   refine⟨rfl,?_⟩;rw[F.out,<-A.out.2.2.2,insOuter_stop _ _ _ _ _ G];exact A.out.2.2.1
end Go.Proofs

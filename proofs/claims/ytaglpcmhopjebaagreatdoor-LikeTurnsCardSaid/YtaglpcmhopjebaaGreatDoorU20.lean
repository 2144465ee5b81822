import Derived.OwnWalk
import Derived.Deep.OwnRows
import Derived.BigRegion
import Derived.StillTail
import Derived.Maps.AppendAt
import Derived.Deep.AppendLies
import Derived.RegionTactic
import Derived.Test.YtaglpcmhopjebaaGreatDoorU19
set_option linter.all false
set_option maxRecDepth 100000
set_option maxHeartbeats 20000000
namespace Go.Proofs
open Go.Tm Go.RowKit
variable {fs:Array Func} (L:bT fs)
def ae.cell{w w'}(h:ae w w'){b o v}(a:w.cell? ⟨b,o,none⟩=some v):w'.cell? ⟨b,o,none⟩=some v:=by unfold World.cell? at a⊢;revert a;simp only[];cases c:w.heap[b]? with|none=>intro h;cases h|some o'=>cases o' with|cells d e F=>intro a;rw[h b d e F c];exact a|_=>intro h;cases h
def ae.alloc(w o):ae w (w.alloc o):=ae.below (aF w o)
def ae.drewN{w w'}(h:ae w w')(n):ae w (w'.drewN n):=h
def vw(f t)(b:t.length<=f.length):∀(n) (s),(cN f t n s).length<=s.length:=by intro n;induction n with|zero=>intro s;exact Ue _|succ n a=>intro s;cases s with|nil=>exact Ue _|cons c cs=>unfold cN;split;rename_i d;have g:=(Va.1 d).length_le;have e:=a ((c::cs).drop f.length);rw[Uq]at e;rw[Uw];omega;have:=a cs;simp only[Ug];omega
def jK{p}(h:p.2.size<=p.1.size)(s):(bN p s).length<=s.length:=vw _ _ (by rw[<-Lib.size_eq,<-Lib.size_eq];exact h) _ _
def rF(a:List Pr2)(h:∀p∈a,1<=p.1.size/\p.1.size<=4/\p.2.size<=3):∀(n) (s),(iu a n s).length<=3*s.length:=by intro n;induction n with|zero=>intro s;exact Ul _|succ n b=>intro s;cases s with|nil=>exact Ul _|cons c cs=>unfold iu;cases e:bO a (c::cs)with|none=>have:=b cs;simp only[Uw,Ug];split<;>simp only[Ug,Uv]<;>omega|some p=>obtain⟨f,g,i⟩:=h p (gY e);have d:=b ((c::cs).drop p.1.size);rw[Uq]at d;simp only[Uw,Ug]at d⊢;rw[<-Lib.size_eq];omega
def df{t}(a:OkT t)(s):(aL t.aq s).length<=3*s.length:=rF _ a.lets _ _
def Gp(aP:List Pr2)(y:Bs):Bs:=aP.foldl (λs r=>bN r s) y
def Dn{aP:List Pr2}(h:∀p∈aP,1<=p.1.size/\p.1.size<=3/\p.2.size<=p.1.size):∀(y),(Gp aP y).length<=y.length:=by induction aP with|nil=>exactλy=>Ue _|cons p aP a=>intro y;have b:=a (λq c=>h q (.tail _ c)) (bN p y);have d:=jK (h p (.head _)).2.2 y;exact Uf b d
def zG(aP:List Pr2)(j)(a:j<aP.length)(y):Gp (aP.drop j) y=Gp (aP.drop (j+1)) (bN aP[j] y):=by rw[VO a];rfl
def tD{t k}(a:k<t.au.length)(s):bl t k s=Gp t.au[k].aP (aL t.aq s):=by unfold bl;rw[UG a];rfl
def lR{t}(a:OkT t){k}(b:k<t.au.length)(s):(bl t k s).length<=3*s.length:=by rw[tD b];exact Uf (Dn (a.aP _ (Up _)) _) (df a s)
def JQ{K:Nat->Prop}{v0 v1 v2:Value}{t:Table}(k:Nat)(s:ByteArray)(w:World)(S:IsTable K w v0 v1 v2 t)(O:OkT t)(hs:s.size<=300)(T:k<t.au.length):Calls (Qs fs) 65 #[.agg #[v0,v1,v2],.int .i64 k,.string s] w λe w'=>e=.returned (.string (bs (bl t k s.data.toList)))/\Below w.heap.size w w':=by
 have e54:=e54 L;have RV:=RV L;have n:=tD T s.data.toList;have Q:=df O s.data.toList;rw[<-Lib.size_eq]at Q;have p:=S.stays (ae.alloc w (.cells #[v0,v1,v2] 26));have x:=aF w (.cells #[v0,v1,v2] 26);have U:=Dm L s _ p O (by omega);have a:∀i v,(#[v0,v1,v2]:Array Value)[i]? =some v->(w.alloc (.cells #[v0,v1,v2] 26)).cell? ⟨w.heap.size,i,none⟩=some v:=λi v h=>az w _ 26 i v h;have q:=a 0 v0 rfl;have g:=a 1 v1 rfl;have r:=a 2 v2 rfl;go_enter (n65 L),Tryz.ntmps65;go_wp2_with (first|(go_at_call 54;refine U.mono ?_;rintro e w2 ⟨rfl,P⟩));obtain⟨w1,z⟩:=ex (w.alloc (.cells #[v0,v1,v2] 26));have hN:w.heap.size+1=w1.heap.size:=by rw[z];simp
 rw[<-z]at P p x q g r;have S2:=ae.below P;have B2:=x.trans (P.mono (by omega));obtain⟨N,D⟩:=ex (w.heap.size);rw[<-D]at q g r⊢;clear P x U a z hN D S;obtain⟨ao,c,rfl,ab,hc,_,l⟩:=p.2.1;clear p;have u:=O.aP t.au[k] (Up _);clear O;obtain⟨B,E⟩:=ex (t.au[k]);have F:=l k T;rw[<-E]at u n F;clear l E;obtain⟨b,ad,rfl,_,vs,A,G⟩:=F;obtain⟨af,c2,rfl,V,ag,W,d⟩:=G;go_loopw [7,8] (λo i wr=>∃(j:Nat) (y:Bs),j<=B.aP.length/\i=.int .i64 j/\o=.string (bs y)/\(bs y).size<=900/\ae w1 wr/\Below w.heap.size w wr/\Gp (B.aP.drop j) y=bl t k s.data.toList) (λo i _=>B.aP.length-(intOf i).toNat);case atStart=>exact⟨0,_,Ul _,rfl,rfl,by rw[aR];omega,S2,B2,n.symm⟩
 case round=>
  obtain⟨j,y,hj,rfl,rfl,hy,f,m,C⟩:=hrel;have X:Hid _:=C;have Y:=f.cell g;have Z:=f.cell A;have HW:Hid _:=(⟨f,m⟩:ae w1 wr/\Below w.heap.size w wr)
  obtain H|hge:=Uh j B.aP.length
  ·obtain⟨b2,aa,rfl,I,J⟩:=d j H;have I:=f.cell I;have J:=f.cell J;obtain⟨z1,z2,z3⟩:=u B.aP[j] (Up _);have R:=jK z3 y;rw[<-aR,<-aR]at R;have cR:=Dl L (bs y) B.aP[j] wr (by omega) z1 (by omega) (by omega);rw[bu]at cR;clear C f m g A q r d u n;go_wp2_with (first|(go_at_call 113;refine cR.mono ?_;rintro e w3 ⟨rfl,M⟩));refine⟨⟨j+1,_,by omega,by go_num,rfl,by omega,HW.out.1.trans (ae.below M),HW.out.2.trans (M.mono HW.out.2.size),?_⟩,by simp[intOf];omega⟩;rw[<-X.out,zG _ _ H]
  clear C f m g A q r d u n;go_wp2;go_ret;have C:=X.out;rw[UP hge]at C;exact⟨by rw[<-C];rfl,HW.out.2⟩
def rG(l a):l.any (λs=>s.data.toList==a.data.toList)=decide (0<=lA l a):=by rw[rE];congr 1;funext q;rw[Vr,U3,Uu];exact⟨λh=>lP h,λh=>h▸rfl⟩
def fH(a:ByteArray):a.data.toList.isEmpty=decide (a.size=0):=by rw[Lib.size_eq,Vr,List.isEmpty_iff,Uu,VD]
def JR(t a b):gL t a.data.toList b.data.toList=if(∃q,∃h:q<t.bz.length,0<=lA t.bz[q] a/\0<=lA t.bz[q] b)\/(a=b/\0<a.size)then 100 else 0:=by unfold gL;congr 1;rw[eq_iff_iff,VB,U9,fH];refine or_congr ⟨?_,?_⟩ ?_;rintro⟨l,d,h⟩;obtain⟨q,c,rfl⟩:=VM.1 d;rw[rG,rG,Un,Uu,Uu]at h;exact⟨q,c,h⟩;rintro⟨q,c,h⟩;refine⟨_,Up c,?_⟩;rw[rG,rG,Un,Uu,Uu];exact h;rw[Un,U3,Bool.not_eq_true',decide_eq_false_iff_not];exact⟨λh=>⟨lP h.1,by omega⟩,λh=>⟨h.1▸rfl,by omega⟩⟩
def I8{p:Nat->Prop}{k n}(a:∀q,q<k->q<n->¬p q)(h:¬p k):∀q,q<k+1->q<n->¬p q:=by intro q c b;obtain h1|h1:=Uh q k;exact a q h1 b;(have:q=k:=by omega);subst this;exact h
def O8{K:Nat->Prop}{v0 v1 v2:Value}{t:Table}(a b:ByteArray)(w:World)(E:IsTable K w v0 v1 v2 t)(z:t.bz.length<=4):Calls (Qs fs) 116 #[.agg #[v0,v1,v2],.string a,.string b] w λe w'=>e=.returned (.int .i64 (gL t a.data.toList b.data.toList))/\Below w.heap.size w w':=by
 have e62:=e62 L;have r:=E.stays (ae.alloc w (.cells #[v0,v1,v2] 26));have f:=aF w (.cells #[v0,v1,v2] 26);have n:=az w #[v0,v1,v2] 26 2 v2 rfl;have s:Hid _:=JR t a b;obtain⟨I,c,rfl,A,V,_,d⟩:=r.2.2;clear r E;obtain⟨m,u⟩:=ex (t.bz);rw[<-u]at A d z s f n⊢;clear u;obtain⟨w1,v⟩:=ex (w.alloc (.cells #[v0,v1,.slice I m.length c] 26));obtain⟨N,F⟩:=ex (w.heap.size);have o:∀(J:¬(a=b/\0<a.size)),True:=λ_=>trivial;by_cases k:a=b/\0<a.size
 ·obtain⟨rfl,x⟩:=k;have l:=s.out;rw[Ud (.inr ⟨rfl,x⟩)]at l;have B:Hid _:=l;clear l s d;go_enter (n116 L),Tryz.ntmps116;go_wp2;go_ret;exact⟨by rw[B.out];rfl,f⟩
 have p:(a.toList==b.toList)=false\/((a.toList==b.toList)=true/\a.size=0):=by rw[j5];by_cases h:a=b;right;by_cases M:a.size=0;exact⟨by simp[h],M⟩;exact absurd ⟨h,by omega⟩ k;left;simp[h]
 have O:Hid _:=k;clear k o;have key:∀(fr:Act->Prop),True:=λ_=>trivial;clear key;obtain p|⟨p,P⟩:=p;all_goals
  go_enter (n116 L),Tryz.ntmps116;go_wp2;rw[<-v]at n f d⊢;rw[<-F]at n⊢;clear v F
  go_loop [7] (λi=>∃j:Nat,j<=m.length/\i=.int .i64 j/\∀q,q<j->q<m.length->¬∃h:q<m.length,0<=lA m[q] a/\0<=lA m[q] b) (λi=>m.length-(intOf i).toNat)
  case atStart=>exact⟨0,Ul _,rfl,λq h=>absurd h (Ut _)⟩
  case round=>
   obtain⟨j,W,rfl,G⟩:=hrel;have C:Hid _:=G;clear G;obtain y|hge:=Uh j m.length
   ·obtain⟨X,H,rfl,Y,D,g⟩:=d j y
    rw[Vd]at D;have Q:=Gl L a w1 g;have R:=Gl L b w1 g;obtain⟨S,Z,rfl,_⟩:=g;clear d;go_wp2_with (first|(go_at_call 62;refine Q.mono ?_;rintro e w3 ⟨rfl,rfl⟩)|(go_at_call 62;refine R.mono ?_;rintro e w3 ⟨rfl,rfl⟩))
    ·go_ret
     have l:=s.out;rw[Ud (.inl ⟨j,y,by assumption,by assumption⟩)]at l;exact⟨by rw[l];rfl,f⟩
    ·exact⟨⟨j+1,by omega,by go_num,I8 C.out λ⟨_,T,U⟩=>by omega⟩,by simp[intOf];omega⟩
    ·exact⟨⟨j+1,by omega,by go_num,I8 C.out λ⟨_,T,U⟩=>by omega⟩,by simp[intOf];omega⟩
   ·clear d
    go_wp2;go_ret;have l:=s.out;rw[Uc]at l
    ·exact⟨by rw[l];rfl,f⟩
    ·rintro(⟨q,p,h⟩|h)
     ·exact C.out q (by omega) p ⟨p,h⟩
     ·exact O.out h
def SM:((Tryz.prog).info? 3).map (λi=>(i.zero,i.size,i.bytes))=some (some (.int .i64 0),1,8):=by kernel_rfl
def I9(fs):((Qs fs).info? 3).map (λi=>(i.zero,i.size,i.bytes))=some (some (.int .i64 0),1,8):=SM
def et{base e b n:Nat}{w:World}{v xs}(h:w.ownsRow base e b v n xs):∀k,v.ownBlock=some k->base<=k:=by intro k a;obtain⟨rfl,_⟩|⟨g,cap,c,rfl,d,_⟩:=h.2;cases a;cases a;exact d
def Dq{d:Type}{base e b:Nat}{w:World}{v:Value}{l:List d}{xs:List Value}{E:(Nat->Prop)->World->Nat->Nat->d->Prop}(h:w.ownsRow base e b v l.length xs) (f:∀g:Nat,(∀i,i<l.length*b->w.cell? ⟨g,i,none⟩=xs[i]?)->∀k (c:k<l.length),E (λ_=>True) w g (k*b) l[k]):aE (λ_=>True) b E w v l:=by have j:=h;obtain⟨rfl,m⟩|⟨g,cap,n,rfl,r,o,p,q,s,t⟩:=h.2;exact⟨none,0,by rw[m],by omega,by omega,.inl rfl,λk c=>by omega⟩;refine⟨_,_,rfl,p,q,.inr ?_,?_⟩;intro a e;cases e;exact⟨rfl,trivial,_,_,_,o⟩;intro k c;refine⟨g,0,rfl,?_⟩;rw[Uo];exact f g (λi hi=>j.cellAt i hi) k c
def wN{base w v l}(h:w.ownsRow base 3 1 v l.length (l.map (Value.int .i64))):aE (λ_=>True) 1 dG w v l:=Dq h λg a k b=>by show w.cell? ⟨g,k*1,none⟩=_;rw[a _ (by omega)];simp[b]
def Me{K:Nat->Prop}{v0 v1:Value}{l m:List Int}(w:World)(F:aE K 1 dG w v0 l)(E:aE K 1 dG w v1 m)(O:l.length<=40):Calls (Qs fs) 141 #[v0,v1] w λe w'=>∃v,e=.returned v/\w'.ownsRow w.heap.size 3 1 v (bD l m).length ((bD l m).map (Value.int .i64))/\Below w.heap.size w w':=by
 have Sl:=Sl L;obtain⟨G,hi,A,B,C⟩:=info_parts (I9 fs);have D:=E;obtain⟨P,c,rfl,H,Q,_,f⟩:=F;obtain⟨I,c1,rfl,_⟩:=E;go_enter (n141 L),Tryz.ntmps141;go_wp2;go_loopw [5,6] (λo i wr=>∃j:Nat,j<=l.length/\i=.int .i64 j/\wr.ownsRow w.heap.size 3 1 o (bD (l.take j) m).length ((bD (l.take j) m).map (Value.int .i64))/\Below w.heap.size w wr) (λo i _=>l.length-(intOf i).toNat);case atStart=>exact⟨0,Ul _,rfl,World.ownsRow_nil _ _ _ _,Below.refl _ _⟩
 case round=>
  obtain⟨j,R,rfl,d,a⟩:=hrel;obtain n|hge:=Uh j l.length
  ·obtain⟨b,J,rfl,t⟩:=f j n
   rw[Vd]at t;have g:=ae.below a;have M:=g.cell t;have y:=Ma L l[j] wr (D.stays g (λb S o x e h=>by subst e;exact dG.carry (Carry.keep g) b b o x rfl h));have N:(bD (l.take j) m).length<=j:=Uf (Vj _ _) (by rw[Ve];omega);cases z:m.contains l[j]with
   |true=>rw[z]at y;clear f t g D;go_wp2_with (first|(go_at_call 167;refine y.mono ?_;rintro e w3 ⟨rfl,rfl⟩));(have k:bD (l.take (j+1)) m=bD (l.take j) m:=by unfold bD;rw[nY _ _ _ n,z];simp);exact⟨⟨j+1,by omega,by go_num,by rw[k];exact d,a⟩,by simp[intOf];omega⟩
   |false=>rw[z]at y;clear f t g D;go_wp2_with (first|(go_at_call 167;refine y.mono ?_;rintro e w3 ⟨rfl,rfl⟩)|(at_builtin;refine wpList_append_own _ rfl _ _ 36 rfl w.heap.size 3 G (.int .i64 0) 1 8 Tryz.underlying36 hi A B C rfl (by decide) _ _ _ rfl (d.alloc _) ⟨_,0,none⟩ 1 1 [.int .i64 l[j]] rfl rfl ?c1 ?c2 ?c3 ?c4 ?c5 ?_));(case c1=>intro i u p;match i,p with|0,p=>simp at p;subst p;simp[Addr.add]);(case c2=>intro u p;simp at p;subst p;rfl);(case c3=>unfold maxLen;omega);(case c4=>omega);(case c5=>have:=a.size;simp;omega);(intro T w4 q r _;have k:bD (l.take (j+1)) m=bD (l.take j) m++[l[j]]:=by unfold bD;rw[nY _ _ _ n,z];simp);have s:=(a.alloc a.size (.cells #[.int .i64 l[j]] 3)).grown r (by have:=a.size;simp;omega) (et d);go_wp2;exact⟨⟨j+1,by omega,by go_num,by rw[k,Uw,V9];exact q,s⟩,by simp[intOf];omega⟩
  go_wp2;go_ret;rw[WX hge]at d;exact⟨_,rfl,d,a⟩
def nK(x y:List Int)(k:Nat):Nat:=((List.range k).map λ(n:Nat)=>min (aO x n) (aO y n)).sum
def wO(x y k):nK x y (k+1)=nK x y k+min (aO x k) (aO y k):=by unfold nK;rw[WG,V9,List.sum_append];simp
def Dr(x y k):nK x y k<=k*x.length:=by induction k with|zero=>simp[nK]|succ k a=>rw[wO,Nat.succ_mul];have:aO x k<=x.length:=Vj _ _;omega
def uF(a b)(c:a≠[])(d:b≠[]):bX a b=(100*(2*(a.length-(bD a b).length)+nK (bD a b) (bD b a) 10:Nat):Int)/(a.length+b.length:Nat):=by unfold bX;rw[Uc (by simp[c,d])];rfl
def rH(a b)(h:a=[]\/b=[]):bX a b=0:=by unfold bX;rw[Ud (by rcases h with rfl|rfl<;>simp)]
def JS{K:Nat->Prop}{v0 v1:Value}{l m:List Int}(w:World)(Q:aE K 1 dG w v0 l)(R:aE K 1 dG w v1 m)(I:l.length<=40)(hm:m.length<=40)(A:∀x∈l,0<=x/\x<=999)(B:∀x∈m,0<=x/\x<=999):Calls (Qs fs) 119 #[v0,v1] w λe w'=>e=.returned (.int .i64 (bX l m))/\Below w.heap.size w w':=by
 have Se:=Se L;have Sf:=Sf L;have G:=λJ f v=>Me L (K:=K) (v0:=v0) (v1:=v1) (l:=l) (m:=m) J f v I;have H:=λJ f v=>Me L (K:=K) (v0:=v1) (v1:=v0) (l:=m) (m:=l) J f v hm;have M:=Q;have N:=R;obtain⟨ao,c,rfl,aa,hc,_,j⟩:=Q;obtain⟨ab,O,rfl,S,ad,_,g⟩:=R;clear j g;obtain n|hlp:=U4 l.length
 ·have n:=VD.1 n;subst n;clear G H;go_enter (n119 L),Tryz.ntmps119;go_wp2_with fail;go_ret;exact⟨by rw[rH _ _ (.inl rfl)];rfl,Below.refl _ _⟩
 obtain p|hmp:=U4 m.length
 ·have p:=VD.1 p;subst p;clear G H;go_enter (n119 L),Tryz.ntmps119;go_wp2_with fail;all_goals
   go_ret;exact⟨by rw[rH _ _ (.inr rfl)];rfl,Below.refl _ _⟩
 have T:Hid _:=uF l m (Vs.1 hlp) (Vs.1 hmp);have U:∀x∈bD l m,0<=x/\x<=999:=λx f=>A x (Wo.1 f).1;have V:∀x∈bD m l,0<=x/\x<=999:=λx f=>B x (Wo.1 f).1;have q:(bD l m).length<=l.length:=Vj _ _;have af:¬l=[]:=Vs.1 hlp;have ag:((l.length:Int)==0)=false:=by rw[UE];omega
 have ak:¬m=[]:=Vs.1 hmp;have an:((m.length:Int)==0)=false:=by rw[UE];omega
 clear A B;have O:=G w M N;go_enter (n119 L),Tryz.ntmps119;go_wp2_with (first|(go_at_call 141;refine O.mono ?_;clear O G;rintro e w2 ⟨x,rfl,f,a⟩;have W:=H w2 (N.stays (ae.below a) (λb X o x e h=>by subst e;exact dG.carry (Carry.keep (ae.below a)) b b o x rfl h)) (M.stays (ae.below a) (λb X o x e h=>by subst e;exact dG.carry (Carry.keep (ae.below a)) b b o x rfl h)))|(go_at_call 141;refine W.mono ?_;clear W H;rintro e w3 ⟨y,rfl,v,r⟩));have P:=ae.below r;have C:=(wN f).stays P (λb X o x e h=>by subst e;exact dG.carry (Carry.keep P) b b o x rfl h);have D:=wN v;have B3:=a.trans (r.mono a.size);clear f v a r M N P;obtain⟨xs,t⟩:=ex (bD l m);obtain⟨z,u⟩:=ex (bD m l);rw[<-t,<-u]at T;rw[<-t]at C U q;rw[<-u]at D V;clear t u;obtain⟨ax,cx,rfl,_⟩:=id C;obtain⟨ay,cy,rfl,_⟩:=id D
 go_loop [7,8] (λs i=>∃k:Nat,k<=10/\i=.int .i64 k/\s=.int .i64 (nK xs z k)) (λs i=>10-(intOf i).toNat)
 case atStart=>exact⟨0,by omega,rfl,rfl⟩
 case round=>
  obtain⟨k,hk,rfl,rfl⟩:=hrel;have E:=Dr xs z k;have Y:nK xs z k<=400:=Uf E (Uf (Nat.mul_le_mul hk (Uf q I)) (by omega));obtain ar|hge:=Uh k 10
  ·have Z:=wL L (k:Int) w3 C U;have cY:=wL L (k:Int) w3 D V;have aM:aO xs k<=40:=Uf (Vj _ _) (Uf q I);have d:=wO xs z k;have HS:Hid _:=d;clear d E C D;go_wp2_with (first|(go_at_call 142;refine Z.mono ?_;clear Z;rintro e w4 ⟨rfl,rfl⟩)|(go_at_call 142;refine cY.mono ?_;rintro e w4 ⟨rfl,rfl⟩));refine⟨⟨k+1,by omega,by go_num,?_⟩,by simp[intOf];omega⟩;rw[HS.out];refine UQ (Value.int .i64) ?_;split<;>omega
  have F:k=10:=by omega
  subst F;clear C D;go_wp2;go_ret;have e1:(2*((l.length:Int)-xs.length)+nK xs z 10)=((2*(l.length-xs.length)+nK xs z 10:Nat):Int):=by omega
  have e2:((l.length:Int)+m.length)=((l.length+m.length:Nat):Int):=by omega
  refine⟨?_,B3⟩;rw[T.out,<-e1,<-e2];rfl
def eP(b):aK [] b=b.length:=Qx b
def gZ(a):aK a []=a.length:=L8 a
def mC(x y)(a b:Bs):aK (x::a) (y::b)=if x=y then aK a b else 1+min (aK a b) (min (aK a (y::b)) (aK (x::a) b)):=by rw[Qy]
def tE:∀(n) (a b),a.length+b.length<=n->(∀x,aK a b<=aK (x::a) b+1/\aK (x::a) b<=aK a b+1)/\(∀y,aK a b<=aK a (y::b)+1/\aK a (y::b)<=aK a b+1):=by intro n;induction n with|zero=>intro a b h;have d:a=[]:=UH (by omega);have e:b=[]:=UH (by omega);subst d;subst e;simp[eP,gZ]|succ n c=>intro a b h;constructor;intro x;(cases b with|nil=>rw[gZ,gZ];simp only[Ug];omega|cons y b=>simp only[Ug]at h;rw[mC];have f:=(c a b (by omega)).2 y;split;omega;constructor;(have g:aK a (y::b)<=aK (x::a) b+1+1:=by have:=(c a b (by omega)).1 x;omega);omega;omega);intro y;cases a with|nil=>rw[eP,eP];simp only[Ug];omega|cons x a=>simp only[Ug]at h;rw[mC];have f:=(c a b (by omega)).1 x;split;omega;constructor;have:=(c a b (by omega)).2 y;omega;omega
def Mf(x y)(a b:Bs):aK (x::a) (y::b)=min (aK a b+if x=y then 0 else 1) (min (aK a (y::b)+1) (aK (x::a) b+1)):=by have c:=(tE _ a b (Ue _)).1 x;have d:=(tE _ a b (Ue _)).2 y;rw[mC];split<;>omega
def nf(a b):aK a b<=a.length+b.length:=by induction a with|nil=>rw[eP];simp|cons x a c=>have:=((tE _ a b (Ue _)).1 x).2;simp only[Ug];omega
def QN:((Tryz.prog).info? 36).map (λi=>(i.zero,i.size,i.bytes))=some (some (.slice none 0 0),1,24):=by kernel_rfl
def oa(N n m p:Nat)(r:Nat):Value:=if p<=r then .slice (some ⟨N+1+(n-r),0,none⟩) (m+1) (m+1)else .slice none 0 0
def yT(a b:Bs)(r q:Nat)(k:Nat):Value:=if q<=k then .int .i64 (aK (a.drop r) (b.drop k))else .int .i64 0
structure Rows(w wr:World)(a b:Bs)(p:Nat):Prop where
 outer:wr.rowIs w.heap.size 36 (a.length+1) (oa w.heap.size a.length b.length p)
 rows:∀r,p<=r->r<=a.length->wr.rowIs (w.heap.size+1+(a.length-r)) 3 (b.length+1) (yT a b r 0)
 size:wr.heap.size=w.heap.size+1+(a.length+1-p)
 below:Below w.heap.size w wr
structure vy(w wr:World)(a b:Bs)(q p:Nat):Prop where
 outer:wr.rowIs w.heap.size 36 (a.length+1) (oa w.heap.size a.length b.length q)
 rows:∀r,q<r->r<=a.length->wr.rowIs (w.heap.size+1+(a.length-r)) 3 (b.length+1) (yT a b r 0)
 row:wr.rowIs (w.heap.size+1+(a.length-q)) 3 (b.length+1) (yT a b q p)
 size:wr.heap.size=w.heap.size+1+(a.length+1-q)
 below:Below w.heap.size w wr
def vy.O9{w wr a b q}(h:vy w wr a b q 0)(d:q<=a.length):Rows w wr a b q:=
 ⟨h.outer,λr e c=>by
  obtain h3|h3:=Uh q r
  ·exact h.rows r h3 c
  ·have:r=q:=by omega
   subst this;exact h.row,h.size,h.below⟩
def vy.step{w wr:World}{a b:Bs}{q p:Nat}(h:vy w wr a b q (p+1))(d:q<=a.length)(f:p<=b.length):vy w (wr.setCell ⟨w.heap.size+1+(a.length-q),p,none⟩ (.int .i64 (aK (a.drop q) (b.drop p)))) a b q p where
 outer:=h.outer.setOther (by simp only[];omega) _
 rows r h1 h2:=(h.rows r h1 h2).setOther (by simp only[];omega) _
 row:=(h.row.set p _).congr λi hi=>by
  unfold yT;by_cases e:i=p
  ·rw[Ud e,Ud (by omega),e]
  ·rw[Uc e]
   by_cases c:p<=i
   ·rw[Ud (by omega),Ud c]
   ·rw[Uc (by omega),Uc c]
 size:=by simp[World.setCell,h.size]
 below:=h.below.setCell (by simp only[];omega) _
def vy.drewN{w wr a b q p}(h:vy w wr a b q p)(n):vy w (wr.drewN n) a b q p:=⟨h.outer,h.rows,h.row,h.size,Go.below_drewN h.below n⟩
def Rows.next{w wr a b q}(h:Rows w wr a b (q+1))(k:q<=a.length):vy w ((wr.alloc (.cells (madeCells #[.int .i64 0] (b.length+1)) 3)).setCell ⟨w.heap.size,q,none⟩ (.slice (some ⟨wr.heap.size,0,none⟩) (b.length+1) (b.length+1))) a b q (b.length+1):=by (have d:wr.heap.size=w.heap.size+1+(a.length-q):=by rw[h.size];omega);have c:=World.rowIs_made wr (.int .i64 0) (b.length+1) 3;rw[d]at c;refine⟨((h.outer.alloc _).set q _).congr λi hi=>?_,λr g j=>((h.rows r g j).alloc _).setOther (by simp only[];omega) _,((c.setOther (by simp only[];omega) _).congr λi hi=>?_),?_,(h.below.alloc (by omega) _).setCell (Ue _) _⟩;unfold oa;by_cases e:i=q;rw[Ud e,Ud (by omega),e,d];rw[Uc e];by_cases f:q<=i;rw[Ud (by omega),Ud f];rw[Uc (by omega),Uc f];unfold yT;rw[Uc (by omega)];simp[World.setCell,d];omega
def Ds(a b:ByteArray)(w:World)(ha:a.size<=1000)(hb:b.size<=1000):Calls (Qs fs) 88 #[.string a,.string b] w λe w'=>e=.returned (.slice (some ⟨w.heap.size,0,none⟩) (a.size+1) (a.size+1))/\Rows w w' a.data.toList b.data.toList 0:=by
 have E:=run_make_row' (P:=Qs fs) 142 36 (.slice none 0 0) 24 Tryz.underlying142 QN rfl .i64 .i64 (a.size+1) (by omega) (by omega);have F:=run_make_row' (P:=Qs fs) 36 3 (.int .i64 0) 8 Tryz.underlying36 (I9 fs) rfl .i64 .i64 (b.size+1) (by omega) (by omega);rw[show((a.size+1:Nat):Int)=(a.size:Int)+1 by omega]at E;rw[show((b.size+1:Nat):Int)=(b.size:Int)+1 by omega]at F;have Q:=Lib.size_eq a;have R:=Lib.size_eq b;obtain⟨A,n⟩:=ex (a.data.toList);obtain⟨B,s⟩:=ex (b.data.toList);rw[<-n]at Q;rw[<-s]at R;rw[<-n,<-s];have d:Hid (a.size=A.length/\b.size=B.length):=⟨Q,R⟩
 have HG:Hid ((∀q (h:q<a.size),A.drop q=a[q]::A.drop (q+1))/\(∀q (h:q<b.size),B.drop q=b[q]::B.drop (q+1))):=⟨λq h=>by rw[n];exact drop_cons a q h,λq h=>by rw[s];exact drop_cons b q h⟩
 clear Q R n s;go_enter (n88 L),Tryz.ntmps88;go_wp2;go_loopw [6] (λi wr=>∃(p:Nat) (j:Int),p<=a.size+1/\j=(p:Int)-1/\i=.int .i64 j/\Rows w wr A B p) (λi _=>(intOf i+1).toNat);case atStart=>refine⟨a.size+1,_,Ue _,rfl,by go_num,?_⟩;have h:=World.rowIs_made w (.slice none 0 0) (a.size+1) 36;rw[d.out.1]at h⊢;refine⟨h.congr λi hi=>?_,λr h1 h2=>by omega,by simp,(aF w _)⟩;unfold oa;rw[Uc (by omega)]
 case round=>
  obtain⟨p,G,hp,k,rfl,D⟩:=hrel;obtain rfl|hpos:=U4 p
  ·(obtain rfl:G= -1:=by omega);clear k;have HR:Hid _:=D;clear D;go_wp2;go_ret;exact⟨rfl,HR.out⟩
  obtain⟨q,rfl⟩:∃q,p=q+1:=⟨p-1,by omega⟩
  obtain rfl:G=(q:Int):=by omega
  clear k;have H:∀o,(wr.alloc o).cell? ⟨w.heap.size,q,none⟩=some (.slice none 0 0):=λo=>by rw[(D.outer.alloc o).cell (by have:=d.out.1;omega)];unfold oa;rw[Uc (by omega)]
  have I:∀o,(wr.alloc o).frozen? ⟨w.heap.size,q,none⟩=false:=λo=>(D.outer.alloc o).frozen q;have f:=D.next (by have:=d.out.1;omega);rw[<-d.out.2]at f;have O:Hid _:=f;clear f D;go_wp2;clear H I;go_loopw [7] (λi wi=>∃(z:Nat) (j:Int),z<=b.size+1/\j=(z:Int)-1/\i=.int .i64 j/\vy w wi A B q z) (λi _=>(intOf i+1).toNat);case atStart=>exact⟨b.size+1,_,Ue _,rfl,by go_num,O.out⟩
  case round=>
   clear O;obtain⟨z,G,ag,k,rfl,f⟩:=hrel;obtain rfl|hpos2:=U4 z
   ·(obtain rfl:G= -1:=by omega);clear k;have O:Hid _:=f;clear f;go_wp2;refine⟨⟨q,_,by omega,rfl,by go_num,O.out.O9 (by have:=d.out.1;omega)⟩,by simp[intOf]⟩
   (obtain⟨c,rfl⟩:∃c,z=c+1:=⟨z-1,by omega⟩);(obtain rfl:G=(c:Int):=by omega);(clear k;have t:q<=A.length:=by have:=d.out.1;omega);(have u:c<=B.length:=by have:=d.out.2;omega);(have S:wr.cell? ⟨w.heap.size,q,none⟩=some (.slice (some ⟨w.heap.size+1+(A.length-q),0,none⟩) (b.size+1) (b.size+1)):=by rw[f.outer.cell (by omega)];unfold oa;rw[Ud (Ue _),d.out.2]);(have J:wr.cell? ⟨w.heap.size+1+(A.length-q),c,none⟩=some (.int .i64 0):=by rw[f.row.cell (by omega)];unfold yT;rw[Uc (by omega)]);have T:=f.row.frozen c;have l:=f.step t u;have HS:Hid _:=l;clear l;obtain⟨U,m⟩:=ex (w.heap.size+1+(A.length-q));rw[<-m]at S J T HS;obtain hqa|hqa:=Uh q a.size
   ·obtain hcb|hcb:=Uh c b.size
    ·(have V:wr.cell? ⟨w.heap.size,q+1,none⟩=some (.slice (some ⟨w.heap.size+1+(A.length-(q+1)),0,none⟩) (b.size+1) (b.size+1)):=by rw[f.outer.cell (by have:=d.out.1;omega)];unfold oa;rw[Ud (by omega),d.out.2]);(have C:=f.rows (q+1) (by omega) (by have:=d.out.1;omega);have e11:wr.cell? ⟨w.heap.size+1+(A.length-(q+1)),c+1,none⟩=some (.int .i64 (aK (A.drop (q+1)) (B.drop (c+1)))):=by rw[C.cell (by have:=d.out.2;omega)];unfold yT;rw[Ud (Ul _)]);(have e10:wr.cell? ⟨w.heap.size+1+(A.length-(q+1)),c,none⟩=some (.int .i64 (aK (A.drop (q+1)) (B.drop c))):=by rw[C.cell (by have:=d.out.2;omega)];unfold yT;rw[Ud (Ul _)]);(have W:wr.cell? ⟨U,c+1,none⟩=some (.int .i64 (aK (A.drop q) (B.drop (c+1)))):=by rw[m,f.row.cell (by have:=d.out.2;omega)];unfold yT;rw[Ud (Ue _)]);(obtain⟨ak,x⟩:=ex (w.heap.size+1+(A.length-(q+1)));rw[<-x]at V e11 e10;have y:aK (A.drop q) (B.drop c)=min (aK (A.drop (q+1)) (B.drop (c+1))+if a[q]=b[c]then 0 else 1) (min (aK (A.drop (q+1)) (B.drop c)+1) (aK (A.drop q) (B.drop (c+1))+1)):=by have g1:=HG.out.1 q hqa;have g2:=HG.out.2 c hcb;rw[g1,g2,Mf]);(have X:aK (A.drop (q+1)) (B.drop (c+1))<=2000:=Uf (nf _ _) (by rw[Uq,Uq];have:=d.out;omega);have Y:aK (A.drop (q+1)) (B.drop c)<=2000:=Uf (nf _ _) (by rw[Uq,Uq];have:=d.out;omega);have Z:aK (A.drop q) (B.drop (c+1))<=2000:=Uf (nf _ _) (by rw[Uq,Uq];have:=d.out;omega);rw[y]at HS;obtain⟨an,K⟩:=ex (aK (A.drop (q+1)) (B.drop (c+1)));obtain⟨ao,M⟩:=ex (aK (A.drop (q+1)) (B.drop c));obtain⟨ar,N⟩:=ex (aK (A.drop q) (B.drop (c+1)));rw[<-K]at e11 X HS;rw[<-M]at e10 Y HS;rw[<-N]at W Z HS;have ax:((q:Int)==a.size)=false:=by rw[UE];omega);(have ay:((c:Int)==b.size)=false:=by rw[UE];omega);(have af:¬(q:Int)=a.size:=by omega);clear f m x y t u C K M N;by_cases g:a[q]=b[c]
     ·rw[Ud g]at HS;(have aa:((a[q].toNat:Int)!=(b[c].toNat:Int))=false:=by rw[g];simp);clear g;go_wp2;go_quiet (fail);go_wp2
      (go_region);go_wp2;refine⟨⟨c,_,by omega,rfl,by go_num,?_⟩,by simp[intOf]⟩;refine(UQ (λv=>vy w ((wr.drewN _).setCell ⟨U,c,none⟩ (Value.int .i64 v)) A B q c) ?_).mp (HS.out.drewN (nq+1));split<;>split<;>omega
     rw[Uc g]at HS;(have aa:((a[q].toNat:Int)!=(b[c].toNat:Int))=true:=by rw[VP];intro h;exact g (WV.1 (by omega)));clear g;go_wp2;go_quiet (fail);go_wp2
     (go_region);go_wp2;refine⟨⟨c,_,by omega,rfl,by go_num,?_⟩,by simp[intOf]⟩;refine(UQ (λv=>vy w ((wr.drewN _).setCell ⟨U,c,none⟩ (Value.int .i64 v)) A B q c) ?_).mp (HS.out.drewN (nq+1));split<;>split<;>omega
    (have ab:c=b.size:=by omega);(have y:aK (A.drop q) (B.drop c)=a.size-q:=by rw[UP (by have:=d.out.2;omega:B.length<=c),gZ,Uq,d.out.1]);rw[y,show((a.size-q:Nat):Int)=(a.size:Int)-q by omega]at HS;subst ab;clear f m y t u;go_wp2;refine⟨⟨b.size,_,by omega,rfl,by go_num,HS.out⟩,by simp[intOf]⟩
   (have ad:q=a.size:=by omega);(have y:aK (A.drop q) (B.drop c)=b.size-c:=by rw[UP (by have:=d.out.1;omega:A.length<=q),eP,Uq,d.out.2]);rw[y,show((b.size-c:Nat):Int)=(b.size:Int)-c by omega]at HS;subst ad;clear f m y t u;go_wp2;refine⟨⟨c,_,by omega,rfl,by go_num,HS.out⟩,by simp[intOf]⟩
def Gq(a b:ByteArray)(w:World)(h:a.size<=1000)(j:b.size<=1000):Calls (Qs fs) 140 #[.string a,.string b] w λe w'=>e=.returned (.int .i64 (aK a.data.toList b.data.toList))/\Below w.heap.size w w':=by have e88:=e88 L;have d:=Ds L a b w h j;go_enter (n140 L),Tryz.ntmps140;go_wp2_with (first|(go_at_call 88;refine d.mono ?_;clear d;rintro e w2 ⟨rfl,c⟩;have f:=c.outer.cell (i:=0) (by omega);have g:=(c.rows 0 (Ue _) (Ul _)).cell (i:=0) (by omega);simp only[oa,yT,Us,Ue,UM,Nat.sub_zero]at f g;rw[<-Lib.size_eq,<-Lib.size_eq]at f;rw[<-Lib.size_eq]at g;have k:Hid _:=c.below;clear c));go_ret;exact⟨rfl,k.out⟩
def zH(a b:ByteArray):bH a.data.toList b.data.toList=if a.size=0\/b.size=0 then 0 else(100*((max a.size b.size:Nat)-(aK a.data.toList b.data.toList:Int)))/(max a.size b.size:Nat):=by unfold bH;rw[<-Lib.size_eq,<-Lib.size_eq,fH,fH];by_cases c:a.size=0<;>by_cases d:b.size=0<;>simp[c,d]
def wP:∀(n) (a b),a.length+b.length<=n->aK a b<=max a.length b.length:=by intro n;induction n with|zero=>intro a b h;have c:a=[]:=UH (by omega);have d:b=[]:=UH (by omega);subst c;subst d;rw[eP];simp|succ n e=>intro a b h;cases a with|nil=>rw[eP];omega|cons x a=>cases b with|nil=>rw[gZ];omega|cons y b=>simp only[Ug]at h⊢;have:=e a b (by omega);rw[mC];split<;>omega
def tF(a b:ByteArray)(w:World)(m:a.size<=1000)(n:b.size<=1000):Calls (Qs fs) 115 #[.string a,.string b] w λe w'=>e=.returned (.int .i64 (bH a.data.toList b.data.toList))/\Below w.heap.size w w':=by
 have Sd:=Sd L;have j:=λo=>Gq L a b o m n;have g:Hid _:=zH a b;have h:=wP _ a.data.toList b.data.toList (Ue _);rw[<-Lib.size_eq,<-Lib.size_eq]at h;obtain⟨d,l⟩:=ex (aK a.data.toList b.data.toList);rw[<-l]at j g h;clear l;obtain k|hpa:=U4 a.size
 ·have f:=g.out;rw[Ud (.inl k)]at f;have c:Hid _:=f;clear f g;go_enter (n115 L),Tryz.ntmps115;go_wp2_with fail;go_ret;exact⟨by rw[c.out];rfl,Below.refl _ _⟩
 obtain k|hpb:=U4 b.size
 ·have f:=g.out;rw[Ud (.inr k)]at f;have c:Hid _:=f;have p:((a.size:Int)==0)=false:=by rw[UE];omega
  clear f g;go_enter (n115 L),Tryz.ntmps115;go_wp2_with fail;all_goals
   go_ret;exact⟨by rw[c.out];rfl,Below.refl _ _⟩
 have f:=g.out;rw[Uc (by omega)]at f;have c:Hid _:=f;have p:((a.size:Int)==0)=false:=by rw[UE];omega
 have q:((b.size:Int)==0)=false:=by rw[UE];omega
 clear f g;go_enter (n115 L),Tryz.ntmps115;go_wp2_with (first|(go_at_call 140;refine(j _).mono ?_;clear j;rintro e w2 ⟨rfl,i⟩));go_ret;exact⟨by rw[c.out,show max a.size b.size=b.size by omega];rfl,i⟩;go_ret;exact⟨by rw[c.out,show max a.size b.size=a.size by omega];rfl,i⟩
end Go.Proofs
namespace Go.Proofs
open Go.Tm Go.RowKit
structure aj(w0 w1:World) where
 val:World
 st:ae w1 val
 be:Below w0.heap.size w0 val
def vY(w0 w1 w':World):Prop:=∃x:aj w0 w1,w'=x.val
def vY.st{w0 w1 w'}(h:vY w0 w1 w'):ae w1 w':=by obtain⟨x,rfl⟩:=h;exact x.st
def vY.be{w0 w1 w'}(h:vY w0 w1 w'):Below w0.heap.size w0 w':=by obtain⟨x,rfl⟩:=h;exact x.be
def aj.cell{w0 w1 b o v}(h:w1.cell? ⟨b,o,none⟩=some v)(x:aj w0 w1):x.val.cell? ⟨b,o,none⟩=some v:=x.st.cell h
def aj.calls{P f args w0 w1}{x:aj w0 w1}{v}(h:Calls P f args x.val λe w'=>e=.returned v/\Below x.val.heap.size x.val w'):Calls P f args x.val λe a=>e=.returned v/\∃y:aj w0 w1,a=y.val:=
 h.mono λe w' ⟨c,b⟩=>⟨c,⟨w',x.st.trans (ae.below b),x.be.trans (b.mono x.be.size)⟩,rfl⟩
def aj.same{P f args w0 w1}{x:aj w0 w1}{v}(h:Calls P f args x.val λe w'=>e=.returned v/\w'=x.val):Calls P f args x.val λe a=>e=.returned v/\∃y:aj w0 w1,a=y.val:=
 h.mono λe w' ⟨b,c⟩=>⟨b,x,c⟩
def aY{P b Q a w w0 w1 l}(c:P.follows .mixedOrders=true)(d:Region.lexB .any l.toArray=true)(e:ae w1 w)(f:Below w0.heap.size w0 w) (h:wpQuiet P l.toArray (λw'=>∃x:aj w0 w1,w'=x.val) (λg=>∀w',(∃x:aj w0 w1,w'=x.val)->Q .normal g w') l a):(Code.region b l.toArray true).wp P Q a w:=
 wp_region_quiet (C:=λw'=>∃x:aj w0 w1,w'=x.val) c d ⟨⟨w.drew,e,f.drew⟩,rfl⟩ (by simpa using h)
section
variable {P:Program} {md:Region.Mode} {ops:Array Oper} {C:World->Prop}
def oc(P:Program)(md:Region.Mode)(ops:Array Oper)(C:World->Prop)(n:Nat)(L:Array Bool->Act->Prop):Nat->Array Bool->Act->Prop
 |0,s,a=>L s a
 |f+1,s,a=>Region.ready md ops s≠[]/\∀i∈Region.ready md ops s,i<n/\qOp P ops C i (oc P md ops C n L f (s.setIfInBounds i true)) a
def oc.any{n g L Q}(d:∀s a w,C w->L s a->wpAny P md ops Q g s a w):∀(f) (s) (a) (w),C w->oc P md ops C n L f s a->wpAny P md ops Q (f+g) s a w:=by intro f;induction f with|zero=>intro s a w b h;rw[Uo];exact d s a w b h|succ f e=>(intro s a w b h;have j:f+1+g=(f+g)+1:=by omega);rw[j];exact⟨λk=>absurd k h.1,λi hi=>wpOp_of_qOp b (λl w' c m=>e _ l w' c m) (h.2 i hi).2⟩
def oc.first{n i o v L}(hi:ops[i]? =some o)(m:∀(j:Nat) (o) cs b,ops[j]? =some o->o.op≠ .select cs b) (G:Region.sinkB md ops n=true) (I:Region.chainB md ops n=true) (J:n<ops.size) (x:i<n) (q:∀s a,L s a->∀j∈Region.ready md ops s,n<=j):∀(f) (s) (a),HeadInv md ops n s->(∀j r,ops[j]? =some r->j≠i->s.getD j true=false->(∀e∈r.after,Region.binds md e=true->e.on≠i)->o.apart ops r=true)->i∈Region.ready md ops s->YieldsIn P ops C o v a->oc P md ops C n L f (s.setIfInBounds i true) (a.put o.dst v)->oc P md ops C n L (f+1) s a:=by intro f;induction f with|zero=>intro s a g d t A H;refine⟨Xq t,λj u=>?_⟩;have l:j<n:=WY λh=>tail_waits G I J g _ i rfl x (mem_ready.1 t).1 j (by omega) u;refine⟨l,?_⟩;by_cases c:j=i;rw[c];exact A.qOp hi H;have:=q _ _ H j (ready_mono u c);omega|succ f N=>intro s a g d t A H;refine⟨Xq t,λj u=>?_⟩;have l:j<n:=WY λh=>tail_waits G I J g _ i rfl x (mem_ready.1 t).1 j (by omega) u;refine⟨l,?_⟩;by_cases c:j=i;rw[c];exact A.qOp hi H;obtain⟨p,r,w,y⟩:=mem_ready.1 u;(have B:∀e∈r.after,Region.binds md e=true->e.on≠i:=λe O Q D=>by have K:=y e O Q;rw[D,getD_both (mem_ready.1 t).1]at K;cases K);have R:=qOp_put w (d j r w c p B) (λcs b=>m i o cs b hi) (λcs b=>m j r cs b w) A (H.2 j (ready_mono u c)).2;refine qOp_mono (λS M=>N _ S (g.set u l) ?_ (ready_mono t (Ux c)) M.1 ?_) R;intro k T U E F;refine d k T U E ?_;by_cases z:j=k;rw[<-z];exact p;rwa[getD_set_ne true z]at F;rw[Array.setIfInBounds_comm _ _ c];exact M.2
def oc.lex{n g f}(d:Region.noSelect ops=true)(r:Region.sinkB md ops n=true)(t:Region.chainB md ops n=true)(u:n<ops.size):∀(l) (k) (s) (a),(∀j,j<l.length->l[j]? =ops[k+j]?)->k+l.length=n->HeadInv md ops n s->Region.lexHead md ops g l.length k s=true->wpQuiet P ops C f l a->oc P md ops C n (λs' p=>Region.seqB md ops g n s'=true/\f p) l.length s a:=by
 intro l;induction l with
 |nil=>(intro k s a i m b c h;obtain rfl:k=n:=by simpa using m);exact⟨c,h⟩
 |cons o l w=>(intro k s a i m b c h;have e:ops[k]? =some o:=(i 0 (Wp _)).symm;rw[Ug]at m;rw[Ug,Region.lexHead,Un,Un]at c;have q:k∈Region.ready md ops s:=by simpa using c.1.1);(have x:qOp P ops C k (wpQuiet P ops C f l) a:=by unfold qOp;rw[e];exact h);obtain⟨v,y,z⟩:=yieldsIn_of_qOp e x;refine oc.first e (Region.noSelect_spec d) r t u (by omega) (λs' p A=>seqB_ready A.1) l.length s a b (Region.free_spec e c.1.2) q y ?_;refine w (k+1) _ _ (λj B=>?_) (by omega) (b.set q (by omega)) c.2 z;have:=i (j+1) (by rw[Ug];omega);rw[show k+(j+1)=k+1+j by omega]at this;exact this
end
def aV{P u Q a w w0 w1}{l:List Oper}(n)(v:P.follows .mixedOrders=true)(i:Region.lexTailB .any l.toArray n=true) (y:ae w1 w) (z:Below w0.heap.size w0 w) (h:wpQuiet P l.toArray (λw'=>∃x:aj w0 w1,w'=x.val) (λk=>∀w',(∃x:aj w0 w1,w'=x.val)->wpList P l.toArray Q (l.drop n) k w') (l.take n) a):(Code.region u l.toArray true).wp P Q a w:=by
 rw[Region.lexTailB]at i;simp only[Un,Uu]at i;obtain⟨⟨⟨⟨c,o⟩,A⟩,B⟩,d⟩:=i;have D:n<l.length:=by simpa using o
 have b:(l.take n).length=n:=by rw[Ve];omega
 have e:(l.drop n).length=l.toArray.size-n:=by simp
 have f:HeadInv .any l.toArray n (Array.replicate l.toArray.size false):=⟨by simp,λj G _ p=>(by rw[getD_replicate_false]at p;cases p),λt _ E=>getD_in (by simpa using E) (getD_replicate_false _ _)⟩
 refine wp_region_any v ?_;have H:=oc.lex (md:=.any) (g:=l.toArray.size-n) (C:=λw'=>∃x:aj w0 w1,w'=x.val) c A B o (l.take n) 0 _ a (λj q=>by
  have m:j<n:=by rw[b]at q;exact q
  simp[m]) (by rw[b];omega) f (by rw[b];exact d) h
 have R:=oc.any (Q:=Q) (g:=l.toArray.size-n) (λs k w' F r=>by have:=wpAny_of_seq (md:=.any) (Q':=Q) (l.drop n) n s k w' (λj=>by simp[W4]) (by rw[e];exact r.1) (r.2 w' F);rwa[e]at this) _ _ _ _ ⟨⟨w.drew,y,z.drew⟩,rfl⟩ H;rw[b,show n+(l.toArray.size-n)=l.toArray.size by omega]at R;exact R
inductive Src(w:World)(size:Nat):Option Addr->Nat->List Value->Prop
 |nil:Src w size none 0 []
 |some (ad:Addr) (m:Nat) (news:List Value) (hl:news.length=m*size) (hc:∀j u,news[j]? =some u->w.cell? (ad.add j)=some u):Src w size (some ad) m news
section
variable {P:Program} (w:World) (base:Nat) (t ty e:TypeId) (i:TypeInfo) (z:Value) (size bytes:Nat) (ht:P.underlying t=some (.slice e)) (hi:P.info? e=some i) (hz:i.zero=some z) (hsize:i.size=size) (hby:i.bytes=bytes) (hzs:z.cells.size=size) (hsz:0<size) (v:Value) (n:Nat) (xs:List Value) (hown:w.ownsRow base e size v n xs) (A:Option Addr) (m c:Nat) (news:List Value) (hs:Src w size A m news) (h1:∀u∈news,u.oneCell'=true) (h63:n+m<=maxLen) (hbytes:(n+m)*bytes<=140737488355328) (hbase:base<=w.heap.size)
include ht hi hz hsize hby hzs hsz hown hs h1 h63 hbytes hbase
def xe:∃b w',(Builtin.append_ #[t,t] ty #[v,.slice A m c]).run P w=.ok b w'/\w'.ownsRow base e size b (n+m) (xs++news)/\w.grownBy w' v.ownBlock/\(b.ownBlock=v.ownBlock\/b.ownBlock=some w.heap.size):=by cases hs with|some ad m news f j=>obtain⟨b,w',h,k,l,_,p⟩:=run_append_own_at (P:=P) w base t ty e i z size bytes ht hi hz hsize hby hzs hsz v n xs hown ad m c news f j h1 h63 hbytes hbase;exact⟨b,w',h,k,l,p⟩|nil=>refine⟨v,w,?_,by rw[Vp,Vb];exact hown,World.grownBy.refl w _,.inl rfl⟩;obtain⟨rfl,_⟩|⟨g,cap,q,rfl,_,_,d,_⟩:=hown.2;simp[Builtin.append_,run_underlying ht,sizeOf,typeInfo,hi,Builtin.lenOf,Builtin.firstCells];simp[Builtin.append_,run_underlying ht,sizeOf,typeInfo,hi,Builtin.lenOf,Builtin.firstCells,d,storeCells]
end
section
variable {P:Program} {w:World} {o:Oper} {a:Act} {K:Act->World->Prop} {Q:Exit->Act->World->Prop} (s x:Operand) (t:TypeId) (ho:o.op=.call {callee:=.builtin .append,args:=#[s,x],argTypes:=#[t,t]}) (base:Nat) (e:TypeId) (i:TypeInfo) (z:Value) (size bytes:Nat) (ht:P.underlying t=some (.slice e)) (hi:P.info? e=some i) (hz:i.zero=some z) (hsize:i.size=size) (hby:i.bytes=bytes) (hzs:z.cells.size=size) (hsz:0<size) (v:Value) (n:Nat) (xs:List Value) (hsv:a.eval s=v) (hown:w.ownsRow base e size v n xs) (A:Option Addr) (m c:Nat) (news:List Value) (hxv:a.eval x=.slice A m c) (hs:Src w size A m news) (h1:∀u∈news,u.oneCell'=true) (h63:n+m<=maxLen) (hbytes:(n+m)*bytes<=140737488355328) (hbase:base<=w.heap.size)
include ho ht hi hz hsize hby hzs hsz hown hs h1 h63 hbytes hbase hsv hxv
def pW(h:∀b w',w'.ownsRow base e size b (n+m) (xs++news)->w.grownBy w' v.ownBlock->(b.ownBlock=v.ownBlock\/b.ownBlock=some w.heap.size)->K (a.put o.dst b) w'):o.wp P a w K Q:=by obtain⟨b,w',d,f,g,j⟩:=xe (P:=P) w base t o.type e i z size bytes ht hi hz hsize hby hzs hsz v n xs hown A m c news hs h1 h63 hbytes hbase;unfold Oper.wp execOp;simp only[ho,resolve,invoke,builtin,Sem.run_bind,Sem.run_pure,Result.andThen_ok,List.map_toArray,XB,List.map_nil,hsv,hxv,d];exact h b w' f g j
def e9{ops:Array Oper}{rest:List Oper}(d:o.guard=none)(h:∀b w',w'.ownsRow base e size b (n+m) (xs++news)->w.grownBy w' v.ownBlock->(b.ownBlock=v.ownBlock\/b.ownBlock=some w.heap.size)->wpList P ops Q rest (a.put o.dst b) w'):wpList P ops Q (o::rest) a w:=wpList_plain d λ_ f=>pW s x t ho base e i z size bytes ht hi hz hsize hby hzs hsz v n xs hsv hown A m c news hxv hs h1 h63 hbytes hbase λb w' g j k=>f _ _ (h b w' g j k)
def bV{ops E}(d:o.guard=none)(h:∀b w',w'.ownsRow base e size b (n+m) (xs++news)->w.grownBy w' v.ownBlock->(b.ownBlock=v.ownBlock\/b.ownBlock=some w.heap.size)->K (a.put o.dst b) w'):if Region.wanted o (yielded ops a.tmps)=true then Oper.wp P o a w K Q else E:=by rw[Ud (by simp[Region.wanted,d])];exact pW s x t ho base e i z size bytes ht hi hz hsize hby hzs hsz v n xs hsv hown A m c news hxv hs h1 h63 hbytes hbase h
end
end Go.Proofs

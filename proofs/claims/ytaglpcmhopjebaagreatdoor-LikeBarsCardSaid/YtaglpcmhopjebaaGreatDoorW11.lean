import Derived.BigQuiet
import Derived.OwnWalk
import Derived.Deep.OwnRows
import Derived.BigRegion
import Derived.StillTail
import Derived.Maps.AppendAt
import Derived.Deep.AppendLies
import Derived.RegionTactic
import Derived.Deep.CutRange
import Derived.Test.YtaglpcmhopjebaaGreatDoorW10
set_option linter.all false
set_option maxRecDepth 100000
set_option maxHeartbeats 20000000
namespace Go.Proofs
open Go.Tm Go.RowKit
variable {fs:Array Func} (L:bT fs)
structure OkT(t:Table):Prop where
 lets:∀p∈t.az,1<=p.1.size/\p.1.size<=4/\p.2.size<=3
 U7:t.az.length<=12
 bd:∀x∈t.aI,∀p∈x.bd,1<=p.1.size/\p.1.size<=3/\p.2.size<=p.1.size
 K7:∀x∈t.aI,x.bd.length<=5
 yD:t.aI.length<=3
 Ti:t.bG.length<=4
def eP(rest:Bs)(a:Option Pr2)(p:Pr2):Option Pr2:=if p.1.data.toList.isPrefixOf rest&&decide ((a.elim 0 λq=>q.1.size)<p.1.size)then some p else a
def lg(a:List Pr2)(k)(b:k<a.length)(rest):bV (a.take (k+1)) rest=eP rest (bV (a.take k) rest) a[k]:=by unfold bV;rw[YE b,ZB];rfl
def je(a:List Pr2)(rest:Bs)(k:Nat)(b:Int):Prop:=(b= -1/\bV (a.take k) rest=none)\/∃j,∃h:j<a.length,j<k/\b=j/\bV (a.take k) rest=some a[j]
def je.start(a rest):je a rest 0 (-1):=.inl ⟨rfl,rfl⟩
def DJ(rest):∀(a:List Pr2) (b) (p),a.foldl (eP rest) b=some p->p∈a\/b=some p:=by intro a;induction a with|nil=>exactλb p h=>.inr h|cons q a c=>intro b p h;obtain h|h:=c _ p h;exact .inl (.tail _ h);unfold eP at h;split at h;cases h;exact .inl (.head _);exact .inr h
def iN{ls rest p}(h:bV ls rest=some p):p∈ls:=by obtain h|h:=DJ rest ls none p h;exact h;cases h
def xN(rest:Bs):∀(c:List Pr2) (b),(∀p,b=some p->p.1.data.toList.isPrefixOf rest=true)->∀p,c.foldl (eP rest) b=some p->p.1.data.toList.isPrefixOf rest=true:=by intro c;induction c with|nil=>exactλb d p h=>d p h|cons q c f=>intro b d p h;refine f _ (λg a=>?_) p h;unfold eP at a;split at a;rename_i e;cases a;simp only[WI]at e;exact e.1;exact d g a
def pH{a rest p}(h:bV a rest=some p):p.1.data.toList.isPrefixOf rest=true:=xN rest a none (λp h=>by cases h) p h
def I8(a:List Pr2)(e:∀p∈a,1<=p.1.size):∀(n m) (s),s.length<=n->s.length<=m->mH a n s=mH a m s:=by intro n;induction n with|zero=>intro m s h _;have:s=[]:=Xp (by omega);subst this;cases m<;>rfl|succ n b=>intro m s h d;cases s with|nil=>cases m<;>rfl|cons c cs=>cases m with|zero=>simp at d|succ m=>simp only[WA]at h d;unfold mH;cases f:bV a (c::cs)with|none=>simp only[];rw[b m cs (by omega) (by omega)]|some p=>have g:=iN f;have:=e p g;simp only[];rw[b m _ (by rw[WJ,WA];omega) (by rw[WJ,WA];omega)]
def lD{w w':xv}(h:w'.heap=w.heap)(a):w'.cell? a=w.cell? a:=by unfold World.cell?;rw[h]
def LQ(a):aX a []=[]:=rfl
def LS{a:List Pr2}(b:∀p∈a,1<=p.1.size){c}{s:Bs}{p}(d:bV a (c::s)=some p):aX a (c::s)=p.2.data.toList++aX a ((c::s).drop p.1.size):=by have e:=b p (iN d);show mH a (s.length+1) (c::s)=_;unfold mH;rw[d];simp only[];congr 1;exact I8 _ b _ _ _ (by rw[WJ,WA];omega) (Wv _)
def I9{a c}{s:Bs}(b:bV a (c::s)=none):aX a (c::s)=(if bp c then[c]else[])++aX a s:=by show mH a (s.length+1) (c::s)=_;unfold mH;rw[b];rfl
def je.skip{a rest k b}(h:je a rest k b)(d:k<a.length)(e:eP rest (bV (a.take k) rest) a[k]=bV (a.take k) rest):je a rest (k+1) b:=by obtain⟨f,c⟩|⟨j,g,f,c,i⟩:=h;exact .inl ⟨f,by rw[lg _ _ d,e,c]⟩;exact .inr ⟨j,g,by omega,c,by rw[lg _ _ d,e,i]⟩
def je.take{a rest k}(b:k<a.length)(c:eP rest (bV (a.take k) rest) a[k]=some a[k]):je a rest (k+1) k:=.inr ⟨k,b,XK _,rfl,by rw[lg _ _ b,c]⟩
def FE{K:Nat->Prop}{v0 v1 v2:x6}{t:Table}(s:UV)(w:xv)(ht:IsTable K w v0 v1 v2 t)(ok:OkT t)(hs:s.size<=1000):Calls (Qs fs) 54 #[.agg #[v0,v1,v2],.string s] w λe w'=>e=.returned (.string (bs (aX t.az s.data.toList)))/\jg w w':=by
 have e96:=e96 L;obtain⟨⟨R,c,rfl,aa,hc,_,m⟩,_,_⟩:=ht;have n:=ok.lets;have ab:=ok.U7;clear ok;obtain⟨ls,S⟩:=ex (t.az);rw[<-S]at aa m n ab⊢;clear S;have Z:∀p∈ls,1<=p.1.size:=λp hp=>(n p hp).1;have q:=aC w #[.slice R ls.length c,v1,v2] 26 0 _ rfl;have T:=aN w (.cells #[.slice R ls.length c,v1,v2] 26);have r:∀(k:Nat) (h:k<ls.length),∃b off,R=some ⟨b,off,none⟩/\dO K (w.alloc (.cells #[.slice R ls.length c,v1,v2] 26)) b (off+k*2) ls[k]:=λk h=>by obtain⟨b,off,e,O⟩:=m k h;exact⟨b,off,e,dO.carry (Carry.keep (ae.below (aN w _))) b b _ _ rfl O⟩
 clear m;obtain⟨w1,U⟩:=ex (w.alloc (.cells #[.slice R ls.length c,v1,v2] 26));go_enter (n54 L),Tryz.ntmps54;go_wp2;rw[<-U]at q T r⊢;obtain⟨N,hN⟩:=ex (w.heap.size);rw[<-hN]at q⊢;clear U hN;go_loopw [5,6] (λo i wr=>∃(k:Nat) (x:Bs),k<=s.size/\i=.i k/\o=.string (bs x)/\(bs x).size<=1000*k/\wr.heap=w1.heap/\jg w wr/\x++aX ls (s.data.toList.drop k)=aX ls s.data.toList) (λo i _=>s.size-(intOf i).toNat);case atStart=>exact⟨0,[],WB _,rfl,rfl,WB _,rfl,T,rfl⟩
 case round=>
  obtain⟨k,x,hk,rfl,rfl,al,z,l,V⟩:=hrel;have Q:=jj V;clear V;obtain W|hge:=Wx k s.size
  .have A:=(lD z _).trans q;have X:=drop_cons s k W;have HD:=jj X;clear X;go_wp2;go_loopw [7,8] (λb i wr=>∃(j:Nat) (b0:Int),j<=ls.length/\i=.i j/\b=.i b0/\je ls (s.data.toList.drop k) j b0/\wr.heap=w1.heap/\jg w wr) (λb i _=>ls.length-(intOf i).toNat);case atStart=>exact⟨0,-1,WB _,rfl,rfl,je.start _ _,z,l⟩
   case round=>
    (obtain⟨j,b0,hj,rfl,rfl,B,a,g⟩:=hrel;have ah:=(lD a _).trans q;have HW:Hid _:=(⟨a,g⟩:wr.heap=w1.heap/\jg w wr));obtain f|hjge:=Wx j ls.length
    .obtain⟨b,off,rfl,C,G⟩:=r j f;have ad:=n ls[j] (WG _);obtain⟨z1,z2,z3⟩:=ad;have C:=(lD a _).trans C;have D:=r;clear a g z l q G Z n Q T A r;have H:=λwx=>tu L s ls[j].1 k wx (by omega) (by omega) (by omega);obtain⟨rfl,v⟩|⟨u,E,P,rfl,d⟩:=B
     .have F:=jj v;clear v D;cases y:Lib.occAt s.data.toList ls[j].1.data.toList k with|false=>simp only[y]at H;have J:=jj y;clear y;go_wp2;go_quiet ((go_at_call 96;exact Calls.quiet_of_same (H _)));go_wp2;refine⟨⟨j+1,-1,by omega,by go_num,rfl,je.skip (.inl ⟨rfl,F.o⟩) f ?_,HW.o.1,Go.below_drewN HW.o.2 _⟩,by simp[intOf];omega⟩;unfold eP;rw[show ls[j].1.data.toList.isPrefixOf (s.data.toList.drop k)=false from J.o];rfl|true=>simp only[y]at H;have J:=jj y;clear y;go_wp2;go_quiet ((go_at_call 96;exact Calls.quiet_of_same (H _)));go_wp2;refine⟨⟨j+1,j,by omega,by go_num,rfl,je.take f ?_,HW.o.1,Go.below_drewN HW.o.2 _⟩,by simp[intOf];omega⟩;unfold eP;rw[show ls[j].1.data.toList.isPrefixOf (s.data.toList.drop k)=true from J.o,F.o,Zd];exact Wu (WE (show(0:Nat)<ls[j].1.size by omega))
     obtain⟨b2,ak,e2,Y,_⟩:=D u E
     cases e2;have Y:=(lD HW.o.1 _).trans Y;have F:=jj d;clear d D;cases y:Lib.occAt s.data.toList ls[j].1.data.toList k with
     |false=>simp only[y]at H;have J:=jj y;clear y;go_wp2;go_quiet ((go_at_call 96;exact Calls.quiet_of_same (H _)));go_wp2;refine⟨⟨j+1,u,by omega,by go_num,rfl,je.skip (.inr ⟨u,E,P,rfl,F.o⟩) f ?_,HW.o.1,Go.below_drewN HW.o.2 _⟩,by simp[intOf];omega⟩;unfold eP;rw[show ls[j].1.data.toList.isPrefixOf (s.data.toList.drop k)=false from J.o];rfl
     |true=>
      simp only[y]at H;have J:=jj y;clear y;obtain hcmp|hcmp:=Wx ls[u].1.size ls[j].1.size
      .go_wp2;go_quiet ((go_at_call 96;exact Calls.quiet_of_same (H _)));go_wp2;refine⟨⟨j+1,j,by omega,by go_num,rfl,je.take f ?_,HW.o.1,Go.below_drewN HW.o.2 _⟩,by simp[intOf];omega⟩;unfold eP;rw[show ls[j].1.data.toList.isPrefixOf (s.data.toList.drop k)=true from J.o,F.o];simp[hcmp]
      go_wp2;go_quiet ((go_at_call 96;exact Calls.quiet_of_same (H _)));go_wp2;refine⟨⟨j+1,u,by omega,by go_num,rfl,je.skip (.inr ⟨u,E,P,rfl,F.o⟩) f ?_,HW.o.1,Go.below_drewN HW.o.2 _⟩,by simp[intOf];omega⟩;unfold eP;rw[show ls[j].1.data.toList.isPrefixOf (s.data.toList.drop k)=true from J.o,F.o,Zd,Wt (by rw[WR];show ¬ls[u].1.size<ls[j].1.size;omega)]
    (have af:j=ls.length:=by omega);subst af;obtain⟨rfl,v⟩|⟨u,E,P,rfl,d⟩:=B
    .rw[Yq]at v;(have F:=jj v;have I:=Q;clear v r z l q Z n Q T A a g;have M:∀b:Bool,bp s[k]=b->aX ls (s.data.toList.drop k)=(if b then[s[k]]else[])++aX ls (s.data.toList.drop (k+1)):=λb hb=>by have O:=F.o;rw[HD.o]at O⊢;rw[I9 O,hb]);have HL:=jj M;clear M;go_wp2;refine⟨⟨k+1,x++[s[k]],by omega,by go_num,by rw[DI x s k W],?_,HW.o.1,HW.o.2,?_⟩,by simp[intOf];omega⟩;rw[dv,WS,<-dv x];simp only[WA,WQ];omega;rw[<-I.o,HL.o true ((yl _).2 ⟨by assumption,by assumption⟩),XR];rfl;all_goals
      refine⟨⟨k+1,x,by omega,by go_num,rfl,by omega,HW.o.1,HW.o.2,?_⟩,by simp[intOf];omega⟩;rw[<-I.o,HL.o false (by
       cases hl:bp s[k]with
       |false=>rfl
       |true=>have:=(yl _).1 hl;omega)]
      rfl
    rw[Yq]at d;obtain⟨b,off,rfl,C,G⟩:=r u E;obtain⟨z1,z2,z3⟩:=n ls[u] (WG _);have C:=(lD a _).trans C;have G:=(lD a _).trans G;have F:=jj d;have I:=Q;have H1:=jj Z;have ag:=(X4.1 (pH d)).length_le;rw[WJ,<-Lib.size_eq,<-Lib.size_eq]at ag;clear d r z l q n Q T A a g Z;go_wp2;refine⟨⟨k+ls[u].1.size,x++ls[u].2.data.toList,by omega,by go_num,by rw[vd],?_,HW.o.1,HW.o.2,?_⟩,by simp[intOf];omega⟩;rw[dv,WS,<-dv x,<-Lib.size_eq];have:1000*(k+ls[u].1.size)=1000*k+1000*ls[u].1.size:=Nat.mul_add _ _ _;omega;have O:=F.o;rw[<-I.o];rw[HD.o]at O⊢;rw[LS H1.o O,<-HD.o,Zc,XR]
  go_wp2;go_ret;have V:=Q.o;rw[Xg (by rw[<-Lib.size_eq];exact hge),LQ,XJ]at V;exact⟨by rw[V];rfl,l⟩
def ae.cell{w w'}(h:ae w w'){b o v}(a:w.cell? ⟨b,o,none⟩=some v):w'.cell? ⟨b,o,none⟩=some v:=by unfold World.cell? at a⊢;revert a;simp only[];cases c:w.heap[b]? with|none=>intro h;cases h|some o'=>cases o' with|cells d e F=>intro a;rw[h b d e F c];exact a|_=>intro h;cases h
def ae.alloc(w o):ae w (w.alloc o):=ae.below (aN w o)
def ae.drewN{w w'}(h:ae w w')(n):ae w (w'.drewN n):=h
def xO(f t)(b:t.length<=f.length):∀(n) (s),(fJ f t n s).length<=s.length:=by intro n;induction n with|zero=>intro s;exact Wv _|succ n a=>intro s;cases s with|nil=>exact Wv _|cons c cs=>unfold fJ;split;rename_i d;have g:=(X4.1 d).length_le;have e:=a ((c::cs).drop f.length);rw[WJ]at e;rw[WS];omega;have:=a cs;simp only[WA];omega
def kH{p}(h:p.2.size<=p.1.size)(s):(cE p s).length<=s.length:=xO _ _ (by rw[<-Lib.size_eq,<-Lib.size_eq];exact h) _ _
def tw(a:List Pr2)(h:∀p∈a,1<=p.1.size/\p.1.size<=4/\p.2.size<=3):∀(n) (s),(mH a n s).length<=3*s.length:=by intro n;induction n with|zero=>intro s;exact WB _|succ n b=>intro s;cases s with|nil=>exact WB _|cons c cs=>unfold mH;cases e:bV a (c::cs)with|none=>have:=b cs;simp only[WS,WA];split<;>simp only[WA,WQ]<;>omega|some p=>obtain⟨f,g,i⟩:=h p (iN e);have d:=b ((c::cs).drop p.1.size);rw[WJ]at d;simp only[WS,WA]at d⊢;rw[<-Lib.size_eq];omega
def dx{t}(a:OkT t)(s):(aX t.az s).length<=3*s.length:=tw _ a.lets _ _
def Ja(bd:List Pr2)(y:Bs):Bs:=bd.foldl (λs r=>cE r s) y
def FF{bd:List Pr2}(h:∀p∈bd,1<=p.1.size/\p.1.size<=3/\p.2.size<=p.1.size):∀(y),(Ja bd y).length<=y.length:=by induction bd with|nil=>exactλy=>Wv _|cons p bd a=>intro y;have b:=a (λq c=>h q (.tail _ c)) (cE p y);have d:=kH (h p (.head _)).2.2 y;exact Ww b d
def BK(bd:List Pr2)(j)(a:j<bd.length)(y):Ja (bd.drop j) y=Ja (bd.drop (j+1)) (cE bd[j] y):=by rw[YT a];rfl
def ve{t k}(a:k<t.aI.length)(s):bS t k s=Ja t.aI[k].bd (aX t.az s):=by unfold bS;rw[WN a];rfl
def m6{t}(a:OkT t){k}(b:k<t.aI.length)(s):(bS t k s).length<=3*s.length:=by rw[ve b];exact Ww (FF (a.bd _ (WG _)) _) (dx a s)
def LU{K:Nat->Prop}{v0 v1 v2:x6}{t:Table}(k:Nat)(s:UV)(w:xv)(S:IsTable K w v0 v1 v2 t)(O:OkT t)(hs:s.size<=300)(T:k<t.aI.length):Calls (Qs fs) 65 #[.agg #[v0,v1,v2],.i k,.string s] w λe w'=>e=.returned (.string (bs (bS t k s.data.toList)))/\jg w w':=by
 have e54:=e54 L;have Us:=Us L;have n:=ve T s.data.toList;have Q:=dx O s.data.toList;rw[<-Lib.size_eq]at Q;have p:=S.stays (ae.alloc w (.cells #[v0,v1,v2] 26));have x:=aN w (.cells #[v0,v1,v2] 26);have U:=FE L s _ p O (by omega);have a:∀i v,(#[v0,v1,v2]:WZ)[i]? =some v->(w.alloc (.cells #[v0,v1,v2] 26)).cell? ⟨w.heap.size,i,none⟩=some v:=λi v h=>aC w _ 26 i v h;have q:=a 0 v0 rfl;have g:=a 1 v1 rfl;have r:=a 2 v2 rfl;go_enter (n65 L),Tryz.ntmps65;go_wp2_with (go_at_call 54;refine U.mono ?_;rintro e w2 ⟨rfl,P⟩);obtain⟨w1,z⟩:=ex (w.alloc (.cells #[v0,v1,v2] 26));have hN:w.heap.size+1=w1.heap.size:=by rw[z];simp
 rw[<-z]at P p x q g r;have S2:=ae.below P;have B2:=x.trans (P.mono (by omega));obtain⟨N,D⟩:=ex (w.heap.size);rw[<-D]at q g r⊢;clear P x U a z hN D S;obtain⟨ao,c,rfl,ab,hc,_,l⟩:=p.2.1;clear p;have u:=O.bd t.aI[k] (WG _);clear O;obtain⟨B,E⟩:=ex (t.aI[k]);have F:=l k T;rw[<-E]at u n F;clear l E;obtain⟨b,off,rfl,_,vs,A,G⟩:=F;obtain⟨ad,c2,rfl,V,af,W,d⟩:=G;go_loopw [7,8] (λo i wr=>∃(j:Nat) (y:Bs),j<=B.bd.length/\i=.i j/\o=.string (bs y)/\(bs y).size<=900/\ae w1 wr/\jg w wr/\Ja (B.bd.drop j) y=bS t k s.data.toList) (λo i _=>B.bd.length-(intOf i).toNat);case atStart=>exact⟨0,_,WB _,rfl,rfl,by rw[dv];omega,S2,B2,n.symm⟩
 case round=>
  obtain⟨j,y,hj,rfl,rfl,hy,f,m,C⟩:=hrel;have X:=jj C;have Y:=f.cell g;have Z:=f.cell A;have HW:Hid _:=(⟨f,m⟩:ae w1 wr/\jg w wr)
  obtain H|hge:=Wx j B.bd.length
  .obtain⟨b2,aa,rfl,I,J⟩:=d j H;have I:=f.cell I;have J:=f.cell J;obtain⟨z1,z2,z3⟩:=u B.bd[j] (WG _);have R:=kH z3 y;rw[<-dv,<-dv]at R;have cR:=FD L (bs y) B.bd[j] wr (by omega) z1 (by omega) (by omega);rw[dM]at cR;clear C f m g A q r d u n;go_wp2_with (go_at_call 113;refine cR.mono ?_;rintro e w3 ⟨rfl,M⟩);refine⟨⟨j+1,_,by omega,by go_num,rfl,by omega,HW.o.1.trans (ae.below M),HW.o.2.trans (M.mono HW.o.2.size),?_⟩,by simp[intOf];omega⟩;rw[<-X.o,BK _ _ H]
  clear C f m g A q r d u n;go_wp2;go_ret;have C:=X.o;rw[Xg hge]at C;exact⟨by rw[<-C];rfl,HW.o.2⟩
def tx(l a):l.any (λs=>s.data.toList==a.data.toList)=decide (0<=kU l a):=by rw[tv];congr 1;funext q;rw[XP,Xw,WR];exact⟨λh=>sI h,λh=>h▸rfl⟩
def gO(a:UV):a.data.toList.isEmpty=decide (a.size=0):=by rw[Lib.size_eq,XP,List.isEmpty_iff,WR,Yg]
def LV(t a b):iE t a.data.toList b.data.toList=if(∃q,∃h:q<t.bG.length,0<=kU t.bG[q] a/\0<=kU t.bG[q] b)\/(a=b/\0<a.size)then 100 else 0:=by unfold iE;congr 1;rw[eq_iff_iff,X3,Xv,gO];refine or_congr ⟨?_,?_⟩ ?_;rintro⟨l,d,h⟩;obtain⟨q,c,rfl⟩:=Yp.1 d;rw[tx,tx,WI,WR,WR]at h;exact⟨q,c,h⟩;rintro⟨q,c,h⟩;refine⟨_,WG c,?_⟩;rw[tx,tx,WI,WR,WR];exact h;rw[WI,Xw,Z0,aaz];exact⟨λh=>⟨sI h.1,by omega⟩,λh=>⟨h.1▸rfl,by omega⟩⟩
def K8{p:Nat->Prop}{k n}(a:∀q,q<k->q<n->¬p q)(h:¬p k):∀q,q<k+1->q<n->¬p q:=by intro q c b;obtain h1|h1:=Wx q k;exact a q h1 b;(have:q=k:=by omega);subst this;exact h
def Ro{K:Nat->Prop}{v0 v1 v2:x6}{t:Table}(a b:UV)(w:xv)(E:IsTable K w v0 v1 v2 t)(z:t.bG.length<=4):Calls (Qs fs) 116 #[.agg #[v0,v1,v2],.string a,.string b] w λe w'=>e=.returned (.i (iE t a.data.toList b.data.toList))/\jg w w':=by
 have e62:=e62 L;have r:=E.stays (ae.alloc w (.cells #[v0,v1,v2] 26));have f:=aN w (.cells #[v0,v1,v2] 26);have n:=aC w #[v0,v1,v2] 26 2 v2 rfl;have s:Hid _:=LV t a b;obtain⟨I,c,rfl,A,V,_,d⟩:=r.2.2;clear r E;obtain⟨m,u⟩:=ex (t.bG);rw[<-u]at A d z s f n⊢;clear u;obtain⟨w1,v⟩:=ex (w.alloc (.cells #[v0,v1,.slice I m.length c] 26));obtain⟨N,F⟩:=ex (w.heap.size);have o:∀(J:¬(a=b/\0<a.size)),True:=λ_=>trivial;by_cases k:a=b/\0<a.size
 .obtain⟨rfl,x⟩:=k;have l:=s.o;rw[Wu (.inr ⟨rfl,x⟩)]at l;have B:=jj l;clear l s d;go_enter (n116 L),Tryz.ntmps116;go_wp2;go_ret;exact⟨by rw[B.o];rfl,f⟩
 have p:(a.toList==b.toList)=false\/((a.toList==b.toList)=true/\a.size=0):=by rw[kZ];by_cases h:a=b;right;by_cases M:a.size=0;exact⟨by simp[h],M⟩;exact absurd ⟨h,by omega⟩ k;left;simp[h]
 have O:=jj k;clear k o;have key:∀(fr:Act->Prop),True:=λ_=>trivial;clear key;obtain p|⟨p,P⟩:=p;all_goals
  go_enter (n116 L),Tryz.ntmps116;go_wp2;rw[<-v]at n f d⊢;rw[<-F]at n⊢;clear v F
  go_loop [7] (λi=>∃j:Nat,j<=m.length/\i=.i j/\∀q,q<j->q<m.length->¬∃h:q<m.length,0<=kU m[q] a/\0<=kU m[q] b) (λi=>m.length-(intOf i).toNat)
  case atStart=>exact⟨0,WB _,rfl,λq h=>absurd h (WM _)⟩
  case round=>
   obtain⟨j,W,rfl,G⟩:=hrel;have C:=jj G;clear G;obtain y|hge:=Wx j m.length
   .obtain⟨X,H,rfl,Y,D,g⟩:=d j y
    rw[Xj]at D;have Q:=DC L a w1 g;have R:=DC L b w1 g;obtain⟨S,Z,rfl,_⟩:=g;clear d;go_wp2_with (first|(go_at_call 62;refine Q.mono ?_;rintro e w3 ⟨rfl,rfl⟩)|(go_at_call 62;refine R.mono ?_;rintro e w3 ⟨rfl,rfl⟩))
    .go_ret
     have l:=s.o;rw[Wu (.inl ⟨j,y,by assumption,by assumption⟩)]at l;exact⟨by rw[l];rfl,f⟩
    .exact⟨⟨j+1,by omega,by go_num,K8 C.o λ⟨_,T,U⟩=>by omega⟩,by simp[intOf];omega⟩
    .exact⟨⟨j+1,by omega,by go_num,K8 C.o λ⟨_,T,U⟩=>by omega⟩,by simp[intOf];omega⟩
   .clear d
    go_wp2;go_ret;have l:=s.o;rw[Wt]at l
    .exact⟨by rw[l];rfl,f⟩
    .rintro(⟨q,p,h⟩|h)
     .exact C.o q (by omega) p ⟨p,h⟩
     .exact O.o h
def U8:((Tryz.prog).info? 3).map (λi=>(i.zero,i.size,i.bytes))=some (some (.i 0),1,8):=by kernel_rfl
def tz(fs):((Qs fs).info? 3).map (λi=>(i.zero,i.size,i.bytes))=some (some (.i 0),1,8):=U8
def dI{base e b n:Nat}{w:xv}{v xs}(h:w.ownsRow base e b v n xs):∀k,v.ownBlock=some k->base<=k:=by intro k a;obtain⟨rfl,_⟩|⟨g,cap,c,rfl,d,_⟩:=h.2;cases a;cases a;exact d
def wY{d:Type}{base e b:Nat}{w:xv}{v:x6}{l:List d}{xs:List x6}{E:(Nat->Prop)->xv->Nat->Nat->d->Prop}(h:w.ownsRow base e b v l.length xs) (f:∀g:Nat,(∀i,i<l.length*b->w.cell? ⟨g,i,none⟩=xs[i]?)->∀k (c:k<l.length),E (λ_=>True) w g (k*b) l[k]):aB (λ_=>True) b E w v l:=by have j:=h;obtain⟨rfl,m⟩|⟨g,cap,n,rfl,s,o,p,q,t,u⟩:=h.2;exact⟨none,0,by rw[m],by omega,by omega,.inl rfl,λk c=>by omega⟩;refine⟨_,_,rfl,p,q,.inr ?_,?_⟩;intro a e;cases e;exact⟨rfl,trivial,_,_,_,o⟩;intro k c;refine⟨g,0,rfl,?_⟩;rw[WH];exact f g (λi r=>j.cellAt i r) k c
def yE{base w v l}(h:w.ownsRow base 3 1 v l.length (l.map (Value.int .i64))):aB (λ_=>True) 1 dh w v l:=wY h λg a k b=>by show w.cell? ⟨g,k*1,none⟩=_;rw[a _ (by omega)];simp[b]
def Oy{K:Nat->Prop}{v0 v1:x6}{l m:List Int}(w:xv)(F:aB K 1 dh w v0 l)(E:aB K 1 dh w v1 m)(O:l.length<=40):Calls (Qs fs) 141 #[v0,v1] w λe w'=>∃v,e=.returned v/\w'.ownsRow w.heap.size 3 1 v (bH l m).length ((bH l m).map (Value.int .i64))/\jg w w':=by
 have UL:=UL L;obtain⟨G,H,A,B,C⟩:=info_parts (tz fs);have D:=E;obtain⟨P,c,rfl,I,Q,_,f⟩:=F;obtain⟨J,c1,rfl,_⟩:=E;go_enter (n141 L),Tryz.ntmps141;go_wp2;go_loopw [5,6] (λo i wr=>∃j:Nat,j<=l.length/\i=.i j/\wr.ownsRow w.heap.size 3 1 o (bH (l.take j) m).length ((bH (l.take j) m).map (Value.int .i64))/\jg w wr) (λo i _=>l.length-(intOf i).toNat);case atStart=>exact⟨0,WB _,rfl,World.ownsRow_nil _ _ _ _,Below.refl _ _⟩
 case round=>
  obtain⟨j,R,rfl,d,a⟩:=hrel;obtain n|hge:=Wx j l.length
  .obtain⟨b,off,rfl,t⟩:=f j n
   rw[Xj]at t;have g:=ae.below a;have M:=g.cell t;have y:=Ov L l[j] wr (D.stays g (λb S o x e h=>by subst e;exact dh.carry (Carry.keep g) b b o x rfl h));have N:(bH (l.take j) m).length<=j:=Ww (XI _ _) (by rw[Xy];omega);cases z:m.contains l[j]with
   |true=>rw[z]at y;clear f t g D;go_wp2_with (go_at_call 167;refine y.mono ?_;rintro e w3 ⟨rfl,rfl⟩);(have k:bH (l.take (j+1)) m=bH (l.take j) m:=by unfold bH;rw[pG _ _ _ n,z];simp);exact⟨⟨j+1,by omega,by go_num,by rw[k];exact d,a⟩,by simp[intOf];omega⟩
   |false=>rw[z]at y;clear f t g D;go_wp2_with (first|(go_at_call 167;refine y.mono ?_;rintro e w3 ⟨rfl,rfl⟩)|(at_builtin;refine wpList_append_own _ rfl _ _ 36 rfl w.heap.size 3 G (.i 0) 1 8 Tryz.underlying36 H A B C rfl (by decide) _ _ _ rfl (d.alloc _) ⟨_,0,none⟩ 1 1 [.i l[j]] rfl rfl ?c1 ?c2 ?c3 ?c4 ?c5 ?_));(case c1=>intro i u p;match i,p with|0,p=>simp at p;subst p;simp[Addr.add]);(case c2=>intro u p;simp at p;subst p;rfl);(case c3=>unfold maxLen;omega);(case c4=>omega);(case c5=>have:=a.size;simp;omega);(intro T w4 q r _;have k:bH (l.take (j+1)) m=bH (l.take j) m++[l[j]]:=by unfold bH;rw[pG _ _ _ n,z];simp);have s:=(a.alloc a.size (.cells #[.i l[j]] 3)).grown r (by have:=a.size;simp;omega) (dI d);go_wp2;exact⟨⟨j+1,by omega,by go_num,by rw[k,WS,Yr];exact q,s⟩,by simp[intOf];omega⟩
  go_wp2;go_ret;rw[YR hge]at d;exact⟨_,rfl,d,a⟩
def pk(x y:List Int)(k:Nat):Nat:=((List.range k).map λ(n:Nat)=>min (aT x n) (aT y n)).sum
def yF(x y k):pk x y (k+1)=pk x y k+min (aT x k) (aT y k):=by unfold pk;rw[Ze,Yr,List.sum_append];simp
def FG(x y k):pk x y k<=k*x.length:=by induction k with|zero=>simp[pk]|succ k a=>rw[yF,X6];have:aT x k<=x.length:=XI _ _;omega
def wZ(a b)(c:a≠[])(d:b≠[]):cJ a b=(100*(2*(a.length-(bH a b).length)+pk (bH a b) (bH b a) 10:Nat):Int)/(a.length+b.length:Nat):=by unfold cJ;rw[Wt (by simp[c,d])];rfl
def tA(a b)(h:a=[]\/b=[]):cJ a b=0:=by unfold cJ;rw[Wu (by rcases h with rfl|rfl<;>simp)]
def LW{K:Nat->Prop}{v0 v1:x6}{l m:List Int}(w:xv)(Q:aB K 1 dh w v0 l)(R:aB K 1 dh w v1 m)(I:l.length<=40)(hm:m.length<=40)(A:∀x∈l,0<=x/\x<=999)(B:∀x∈m,0<=x/\x<=999):ac fs 119 #[v0,v1] w (.i (cJ l m)):=by
 have UF:=UF L;have UG:=UG L;have G:=λJ f v=>Oy L (K:=K) (v0:=v0) (v1:=v1) (l:=l) (m:=m) J f v I;have H:=λJ f v=>Oy L (K:=K) (v0:=v1) (v1:=v0) (l:=m) (m:=l) J f v hm;have M:=Q;have N:=R;obtain⟨ao,c,rfl,aa,hc,_,j⟩:=Q;obtain⟨ab,O,rfl,S,ad,_,g⟩:=R;clear j g;obtain n|hlp:=Xc l.length
 .have n:=Yg.1 n;subst n;clear G H;go_enter (n119 L),Tryz.ntmps119;go_wp2_with fail;go_ret;exact⟨by rw[tA _ _ (.inl rfl)];rfl,Below.refl _ _⟩
 obtain p|hmp:=Xc m.length
 .have p:=Yg.1 p;subst p;clear G H;go_enter (n119 L),Tryz.ntmps119;go_wp2_with fail;all_goals
   go_ret;exact⟨by rw[tA _ _ (.inr rfl)];rfl,Below.refl _ _⟩
 have T:Hid _:=wZ l m (XQ.1 hlp) (XQ.1 hmp);have U:∀x∈bH l m,0<=x/\x<=999:=λx f=>A x (YU.1 f).1;have V:∀x∈bH m l,0<=x/\x<=999:=λx f=>B x (YU.1 f).1;have q:(bH l m).length<=l.length:=XI _ _;have af:¬l=[]:=XQ.1 hlp;have ag:((l.length:Int)==0)=false:=by rw[W5];omega
 have ah:¬m=[]:=XQ.1 hmp;have ak:((m.length:Int)==0)=false:=by rw[W5];omega
 clear A B;have O:=G w M N;go_enter (n119 L),Tryz.ntmps119;go_wp2_with (first|(go_at_call 141;refine O.mono ?_;clear O G;rintro e w2 ⟨x,rfl,f,a⟩;have W:=H w2 (N.stays (ae.below a) (λb X o x e h=>by subst e;exact dh.carry (Carry.keep (ae.below a)) b b o x rfl h)) (M.stays (ae.below a) (λb X o x e h=>by subst e;exact dh.carry (Carry.keep (ae.below a)) b b o x rfl h)))|(go_at_call 141;refine W.mono ?_;clear W H;rintro e w3 ⟨y,rfl,v,r⟩));have P:=ae.below r;have C:=(yE f).stays P (λb X o x e h=>by subst e;exact dh.carry (Carry.keep P) b b o x rfl h);have D:=yE v;have B3:=a.trans (r.mono a.size);clear f v a r M N P;obtain⟨xs,t⟩:=ex (bH l m);obtain⟨z,u⟩:=ex (bH m l);rw[<-t,<-u]at T;rw[<-t]at C U q;rw[<-u]at D V;clear t u;obtain⟨ax,cx,rfl,_⟩:=id C;obtain⟨ay,cy,rfl,_⟩:=id D
 go_loop [7,8] (λs i=>∃k:Nat,k<=10/\i=.i k/\s=.i (pk xs z k)) (λs i=>10-(intOf i).toNat)
 case atStart=>exact⟨0,by omega,rfl,rfl⟩
 case round=>
  obtain⟨k,hk,rfl,rfl⟩:=hrel;have E:=FG xs z k;have Y:pk xs z k<=400:=Ww E (Ww (Nat.mul_le_mul hk (Ww q I)) (by omega));obtain al|hge:=Wx k 10
  .have Z:=yC L (k:Int) w3 C U;have cY:=yC L (k:Int) w3 D V;have an:aT xs k<=40:=Ww (XI _ _) (Ww q I);have d:=yF xs z k;have HS:=jj d;clear d E C D;go_wp2_with (first|(go_at_call 142;refine Z.mono ?_;clear Z;rintro e w4 ⟨rfl,rfl⟩)|(go_at_call 142;refine cY.mono ?_;rintro e w4 ⟨rfl,rfl⟩));refine⟨⟨k+1,by omega,by go_num,?_⟩,by simp[intOf];omega⟩;rw[HS.o];refine W8 (Value.int .i64) ?_;split<;>omega
  have F:k=10:=by omega
  subst F;clear C D;go_wp2;go_ret;have e1:(2*((l.length:Int)-xs.length)+pk xs z 10)=((2*(l.length-xs.length)+pk xs z 10:Nat):Int):=by omega
  have e2:((l.length:Int)+m.length)=((l.length+m.length:Nat):Int):=by omega
  refine⟨?_,B3⟩;rw[T.o,<-e1,<-e2];rfl
def fL(b):aY [] b=b.length:=SU b
def iO(a):aY a []=a.length:=Ou a
def nH(x y)(a b:Bs):aY (x::a) (y::b)=if x=y then aY a b else 1+min (aY a b) (min (aY a (y::b)) (aY (x::a) b)):=by rw[SV]
def vi:∀(n) (a b),a.length+b.length<=n->(∀x,aY a b<=aY (x::a) b+1/\aY (x::a) b<=aY a b+1)/\(∀y,aY a b<=aY a (y::b)+1/\aY a (y::b)<=aY a b+1):=by intro n;induction n with|zero=>intro a b h;have d:a=[]:=Xp (by omega);have e:b=[]:=Xp (by omega);subst d;subst e;simp[fL,iO]|succ n c=>intro a b h;constructor;intro x;(cases b with|nil=>rw[iO,iO];simp only[WA];omega|cons y b=>simp only[WA]at h;rw[nH];have f:=(c a b (by omega)).2 y;split;omega;constructor;(have g:aY a (y::b)<=aY (x::a) b+1+1:=by have:=(c a b (by omega)).1 x;omega);omega;omega);intro y;cases a with|nil=>rw[fL,fL];simp only[WA];omega|cons x a=>simp only[WA]at h;rw[nH];have f:=(c a b (by omega)).1 x;split;omega;constructor;have:=(c a b (by omega)).2 y;omega;omega
def Oz(x y)(a b:Bs):aY (x::a) (y::b)=min (aY a b+if x=y then 0 else 1) (min (aY a (y::b)+1) (aY (x::a) b+1)):=by have c:=(vi _ a b (Wv _)).1 x;have d:=(vi _ a b (Wv _)).2 y;rw[nH];split<;>omega
def oF(a b):aY a b<=a.length+b.length:=by induction a with|nil=>rw[fL];simp|cons x a c=>have:=((vi _ a b (Wv _)).1 x).2;simp only[WA];omega
def Tj:((Tryz.prog).info? 36).map (λi=>(i.zero,i.size,i.bytes))=some (some (.slice none 0 0),1,24):=by kernel_rfl
def pI(N n m p:Nat)(r:Nat):x6:=if p<=r then .slice (some ⟨N+1+(n-r),0,none⟩) (m+1) (m+1)else .slice none 0 0
def AO(a b:Bs)(r q:Nat)(k:Nat):x6:=if q<=k then .i (aY (a.drop r) (b.drop k))else .i 0
structure Rows(w wr:xv)(a b:Bs)(p:Nat):Prop where
 outer:wr.rowIs w.heap.size 36 (a.length+1) (pI w.heap.size a.length b.length p)
 rows:∀r,p<=r->r<=a.length->wr.rowIs (w.heap.size+1+(a.length-r)) 3 (b.length+1) (AO a b r 0)
 size:wr.heap.size=w.heap.size+1+(a.length+1-p)
 below:jg w wr
structure xP(w wr:xv)(a b:Bs)(q p:Nat):Prop where
 outer:wr.rowIs w.heap.size 36 (a.length+1) (pI w.heap.size a.length b.length q)
 rows:∀r,q<r->r<=a.length->wr.rowIs (w.heap.size+1+(a.length-r)) 3 (b.length+1) (AO a b r 0)
 row:wr.rowIs (w.heap.size+1+(a.length-q)) 3 (b.length+1) (AO a b q p)
 size:wr.heap.size=w.heap.size+1+(a.length+1-q)
 below:jg w wr
def xP.Rp{w wr a b q}(h:xP w wr a b q 0)(d:q<=a.length):Rows w wr a b q:=
 ⟨h.outer,λr e c=>by
  obtain h3|h3:=Wx q r
  .exact h.rows r h3 c
  .have:r=q:=by omega
   subst this;exact h.row,h.size,h.below⟩
def xP.step{w wr:xv}{a b:Bs}{q p:Nat}(h:xP w wr a b q (p+1))(d:q<=a.length)(f:p<=b.length):xP w (wr.setCell ⟨w.heap.size+1+(a.length-q),p,none⟩ (.i (aY (a.drop q) (b.drop p)))) a b q p where
 outer:=h.outer.setOther (by simp only[];omega) _
 rows r h1 h2:=(h.rows r h1 h2).setOther (by simp only[];omega) _
 row:=(h.row.set p _).congr λi g=>by
  unfold AO;by_cases e:i=p
  .rw[Wu e,Wu (by omega),e]
  .rw[Wt e]
   by_cases c:p<=i
   .rw[Wu (by omega),Wu c]
   .rw[Wt (by omega),Wt c]
 size:=by simp[World.setCell,h.size]
 below:=h.below.setCell (by simp only[];omega) _
def xP.drewN{w wr a b q p}(h:xP w wr a b q p)(n):xP w (wr.drewN n) a b q p:=⟨h.outer,h.rows,h.row,h.size,Go.below_drewN h.below n⟩
def Rows.next{w wr a b q}(h:Rows w wr a b (q+1))(l:q<=a.length):xP w ((wr.alloc (.cells (madeCells #[.i 0] (b.length+1)) 3)).setCell ⟨w.heap.size,q,none⟩ (.slice (some ⟨wr.heap.size,0,none⟩) (b.length+1) (b.length+1))) a b q (b.length+1):=by (have d:wr.heap.size=w.heap.size+1+(a.length-q):=by rw[h.size];omega);have c:=World.rowIs_made wr (.i 0) (b.length+1) 3;rw[d]at c;refine⟨((h.outer.alloc _).set q _).congr λi g=>?_,λr j k=>((h.rows r j k).alloc _).setOther (by simp only[];omega) _,((c.setOther (by simp only[];omega) _).congr λi g=>?_),?_,(h.below.alloc (by omega) _).setCell (Wv _) _⟩;unfold pI;by_cases e:i=q;rw[Wu e,Wu (by omega),e,d];rw[Wt e];by_cases f:q<=i;rw[Wu (by omega),Wu f];rw[Wt (by omega),Wt f];unfold AO;rw[Wt (by omega)];simp[World.setCell,d];omega
def FH(a b:UV)(w:xv)(ha:a.size<=1000)(hb:b.size<=1000):Calls (Qs fs) 88 #[.string a,.string b] w λe w'=>e=.returned (.slice (some ⟨w.heap.size,0,none⟩) (a.size+1) (a.size+1))/\Rows w w' a.data.toList b.data.toList 0:=by
 have E:=run_make_row' (P:=Qs fs) 142 36 (.slice none 0 0) 24 Tryz.underlying142 Tj rfl .i64 .i64 (a.size+1) (by omega) (by omega);have F:=run_make_row' (P:=Qs fs) 36 3 (.i 0) 8 Tryz.underlying36 (tz fs) rfl .i64 .i64 (b.size+1) (by omega) (by omega);rw[show((a.size+1:Nat):Int)=(a.size:Int)+1 by omega]at E;rw[show((b.size+1:Nat):Int)=(b.size:Int)+1 by omega]at F;have Q:=Lib.size_eq a;have R:=Lib.size_eq b;obtain⟨A,n⟩:=ex (a.data.toList);obtain⟨B,s⟩:=ex (b.data.toList);rw[<-n]at Q;rw[<-s]at R;rw[<-n,<-s];have d:Hid (a.size=A.length/\b.size=B.length):=⟨Q,R⟩
 have HG:Hid ((∀q (h:q<a.size),A.drop q=a[q]::A.drop (q+1))/\(∀q (h:q<b.size),B.drop q=b[q]::B.drop (q+1))):=⟨λq h=>by rw[n];exact drop_cons a q h,λq h=>by rw[s];exact drop_cons b q h⟩
 clear Q R n s;go_enter (n88 L),Tryz.ntmps88;go_wp2;go_loopw [6] (λi wr=>∃(p:Nat) (j:Int),p<=a.size+1/\j=(p:Int)-1/\i=.i j/\Rows w wr A B p) (λi _=>(intOf i+1).toNat);case atStart=>refine⟨a.size+1,_,Wv _,rfl,by go_num,?_⟩;have h:=World.rowIs_made w (.slice none 0 0) (a.size+1) 36;rw[d.o.1]at h⊢;refine⟨h.congr λi hi=>?_,λr h1 h2=>by omega,by simp,(aN w _)⟩;unfold pI;rw[Wt (by omega)]
 case round=>
  obtain⟨p,G,hp,k,rfl,D⟩:=hrel;obtain rfl|hpos:=Xc p
  ·(obtain rfl:G= -1:=by omega);clear k;have HR:=jj D;clear D;go_wp2;go_ret;exact⟨rfl,HR.o⟩
  obtain⟨q,rfl⟩:∃q,p=q+1:=⟨p-1,by omega⟩
  obtain rfl:G=(q:Int):=by omega
  clear k;have H:∀o,(wr.alloc o).cell? ⟨w.heap.size,q,none⟩=some (.slice none 0 0):=λo=>by rw[(D.outer.alloc o).cell (by have:=d.o.1;omega)];unfold pI;rw[Wt (by omega)]
  have I:∀o,(wr.alloc o).frozen? ⟨w.heap.size,q,none⟩=false:=λo=>(D.outer.alloc o).frozen q;have f:=D.next (by have:=d.o.1;omega);rw[<-d.o.2]at f;have O:=jj f;clear f D;go_wp2;clear H I;go_loopw [7] (λi wi=>∃(z:Nat) (j:Int),z<=b.size+1/\j=(z:Int)-1/\i=.i j/\xP w wi A B q z) (λi _=>(intOf i+1).toNat);case atStart=>exact⟨b.size+1,_,Wv _,rfl,by go_num,O.o⟩
  case round=>
   clear O;obtain⟨z,G,ag,k,rfl,f⟩:=hrel;obtain rfl|hpos2:=Xc z
   ·(obtain rfl:G= -1:=by omega);clear k;have O:=jj f;clear f;go_wp2;refine⟨⟨q,_,by omega,rfl,by go_num,O.o.Rp (by have:=d.o.1;omega)⟩,by simp[intOf]⟩
   (obtain⟨c,rfl⟩:∃c,z=c+1:=⟨z-1,by omega⟩);(obtain rfl:G=(c:Int):=by omega);(clear k;have t:q<=A.length:=by have:=d.o.1;omega);(have u:c<=B.length:=by have:=d.o.2;omega);(have S:wr.cell? ⟨w.heap.size,q,none⟩=some (.slice (some ⟨w.heap.size+1+(A.length-q),0,none⟩) (b.size+1) (b.size+1)):=by rw[f.outer.cell (by omega)];unfold pI;rw[Wu (Wv _),d.o.2]);(have J:wr.cell? ⟨w.heap.size+1+(A.length-q),c,none⟩=some (.i 0):=by rw[f.row.cell (by omega)];unfold AO;rw[Wt (by omega)]);have T:=f.row.frozen c;have l:=f.step t u;have HS:=jj l;clear l;obtain⟨U,m⟩:=ex (w.heap.size+1+(A.length-q));rw[<-m]at S J T HS;obtain hqa|hqa:=Wx q a.size
   .obtain hcb|hcb:=Wx c b.size
    ·(have V:wr.cell? ⟨w.heap.size,q+1,none⟩=some (.slice (some ⟨w.heap.size+1+(A.length-(q+1)),0,none⟩) (b.size+1) (b.size+1)):=by rw[f.outer.cell (by have:=d.o.1;omega)];unfold pI;rw[Wu (by omega),d.o.2]);(have C:=f.rows (q+1) (by omega) (by have:=d.o.1;omega);have e11:wr.cell? ⟨w.heap.size+1+(A.length-(q+1)),c+1,none⟩=some (.i (aY (A.drop (q+1)) (B.drop (c+1)))):=by rw[C.cell (by have:=d.o.2;omega)];unfold AO;rw[Wu (WB _)]);(have e10:wr.cell? ⟨w.heap.size+1+(A.length-(q+1)),c,none⟩=some (.i (aY (A.drop (q+1)) (B.drop c))):=by rw[C.cell (by have:=d.o.2;omega)];unfold AO;rw[Wu (WB _)]);(have W:wr.cell? ⟨U,c+1,none⟩=some (.i (aY (A.drop q) (B.drop (c+1)))):=by rw[m,f.row.cell (by have:=d.o.2;omega)];unfold AO;rw[Wu (Wv _)]);(obtain⟨ah,x⟩:=ex (w.heap.size+1+(A.length-(q+1)));rw[<-x]at V e11 e10;have y:aY (A.drop q) (B.drop c)=min (aY (A.drop (q+1)) (B.drop (c+1))+if a[q]=b[c]then 0 else 1) (min (aY (A.drop (q+1)) (B.drop c)+1) (aY (A.drop q) (B.drop (c+1))+1)):=by have g1:=HG.o.1 q hqa;have g2:=HG.o.2 c hcb;rw[g1,g2,Oz]);(have X:aY (A.drop (q+1)) (B.drop (c+1))<=2000:=Ww (oF _ _) (by rw[WJ,WJ];have:=d.o;omega);have Y:aY (A.drop (q+1)) (B.drop c)<=2000:=Ww (oF _ _) (by rw[WJ,WJ];have:=d.o;omega);have Z:aY (A.drop q) (B.drop (c+1))<=2000:=Ww (oF _ _) (by rw[WJ,WJ];have:=d.o;omega);rw[y]at HS;obtain⟨ak,K⟩:=ex (aY (A.drop (q+1)) (B.drop (c+1)));obtain⟨al,M⟩:=ex (aY (A.drop (q+1)) (B.drop c));obtain⟨an,N⟩:=ex (aY (A.drop q) (B.drop (c+1)));rw[<-K]at e11 X HS;rw[<-M]at e10 Y HS;rw[<-N]at W Z HS;have ao:((q:Int)==a.size)=false:=by rw[W5];omega);(have ar:((c:Int)==b.size)=false:=by rw[W5];omega);(have af:¬(q:Int)=a.size:=by omega);clear f m x y t u C K M N;by_cases g:a[q]=b[c]
     .rw[Wu g]at HS;(have aa:((a[q].toNat:Int)!=(b[c].toNat:Int))=false:=by rw[g];simp);clear g;go_wp2;go_quiet (fail);go_wp2
      (go_region);go_wp2;refine⟨⟨c,_,by omega,rfl,by go_num,?_⟩,by simp[intOf]⟩;refine(W8 (λv=>xP w ((wr.drewN _).setCell ⟨U,c,none⟩ (Value.int .i64 v)) A B q c) ?_).mp (HS.o.drewN (nq+1));split<;>split<;>omega
     rw[Wt g]at HS;(have aa:((a[q].toNat:Int)!=(b[c].toNat:Int))=true:=by rw[X7];intro h;exact g (Zy.1 (by omega)));clear g;go_wp2;go_quiet (fail);go_wp2
     (go_region);go_wp2;refine⟨⟨c,_,by omega,rfl,by go_num,?_⟩,by simp[intOf]⟩;refine(W8 (λv=>xP w ((wr.drewN _).setCell ⟨U,c,none⟩ (Value.int .i64 v)) A B q c) ?_).mp (HS.o.drewN (nq+1));split<;>split<;>omega
    (have ab:c=b.size:=by omega);(have y:aY (A.drop q) (B.drop c)=a.size-q:=by rw[Xg (by have:=d.o.2;omega:B.length<=c),iO,WJ,d.o.1]);rw[y,show((a.size-q:Nat):Int)=(a.size:Int)-q by omega]at HS;subst ab;clear f m y t u;go_wp2;refine⟨⟨b.size,_,by omega,rfl,by go_num,HS.o⟩,by simp[intOf]⟩
   (have ad:q=a.size:=by omega);(have y:aY (A.drop q) (B.drop c)=b.size-c:=by rw[Xg (by have:=d.o.1;omega:A.length<=q),fL,WJ,d.o.2]);rw[y,show((b.size-c:Nat):Int)=(b.size:Int)-c by omega]at HS;subst ad;clear f m y t u;go_wp2;refine⟨⟨c,_,by omega,rfl,by go_num,HS.o⟩,by simp[intOf]⟩
def Jb(a b:UV)(w:xv)(h:a.size<=1000)(j:b.size<=1000):ac fs 140 #[.string a,.string b] w (.i (aY a.data.toList b.data.toList)):=by have e88:=e88 L;have d:=FH L a b w h j;go_enter (n140 L),Tryz.ntmps140;go_wp2_with (go_at_call 88;refine d.mono ?_;clear d;rintro e w2 ⟨rfl,c⟩;have f:=c.outer.cell (i:=0) (by omega);have g:=(c.rows 0 (Wv _) (WB _)).cell (i:=0) (by omega);simp only[pI,AO,WL,Wv,Xl,Nat.sub_zero]at f g;rw[<-Lib.size_eq,<-Lib.size_eq]at f;rw[<-Lib.size_eq]at g;have k:=jj c.below;clear c);go_ret;exact⟨rfl,k.o⟩
def BL(a b:UV):eu a.data.toList b.data.toList=if a.size=0\/b.size=0 then 0 else(100*((max a.size b.size:Nat)-(aY a.data.toList b.data.toList:Int)))/(max a.size b.size:Nat):=by unfold eu;rw[<-Lib.size_eq,<-Lib.size_eq,gO,gO];by_cases c:a.size=0<;>by_cases d:b.size=0<;>simp[c,d]
def yG:∀(n) (a b),a.length+b.length<=n->aY a b<=max a.length b.length:=by intro n;induction n with|zero=>intro a b h;have c:a=[]:=Xp (by omega);have d:b=[]:=Xp (by omega);subst c;subst d;rw[fL];simp|succ n e=>intro a b h;cases a with|nil=>rw[fL];omega|cons x a=>cases b with|nil=>rw[iO];omega|cons y b=>simp only[WA]at h⊢;have:=e a b (by omega);rw[nH];split<;>omega
def vn(a b:UV)(w:xv)(m:a.size<=1000)(n:b.size<=1000):ac fs 115 #[.string a,.string b] w (.i (eu a.data.toList b.data.toList)):=by
 have UE:=UE L;have j:=λo=>Jb L a b o m n;have g:Hid _:=BL a b;have h:=yG _ a.data.toList b.data.toList (Wv _);rw[<-Lib.size_eq,<-Lib.size_eq]at h;obtain⟨d,l⟩:=ex (aY a.data.toList b.data.toList);rw[<-l]at j g h;clear l;obtain k|hpa:=Xc a.size
 .have f:=g.o;rw[Wu (.inl k)]at f;have c:=jj f;clear f g;go_enter (n115 L),Tryz.ntmps115;go_wp2_with fail;go_ret;exact⟨by rw[c.o];rfl,Below.refl _ _⟩
 obtain k|hpb:=Xc b.size
 .have f:=g.o;rw[Wu (.inr k)]at f;have c:=jj f;have p:((a.size:Int)==0)=false:=by rw[W5];omega
  clear f g;go_enter (n115 L),Tryz.ntmps115;go_wp2_with fail;all_goals
   go_ret;exact⟨by rw[c.o];rfl,Below.refl _ _⟩
 have f:=g.o;rw[Wt (by omega)]at f;have c:=jj f;have p:((a.size:Int)==0)=false:=by rw[W5];omega
 have q:((b.size:Int)==0)=false:=by rw[W5];omega
 clear f g;go_enter (n115 L),Tryz.ntmps115;go_wp2_with (go_at_call 140;refine(j _).mono ?_;clear j;rintro e w2 ⟨rfl,i⟩);go_ret;exact⟨by rw[c.o,show max a.size b.size=b.size by omega];rfl,i⟩;go_ret;exact⟨by rw[c.o,show max a.size b.size=a.size by omega];rfl,i⟩
end Go.Proofs
namespace Go.Proofs
open Go.Tm Go.RowKit
structure au(w0 w1:xv) where
 val:xv
 st:ae w1 val
 be:jg w0 val
def ym(w0 w1 w':xv):Prop:=∃x:au w0 w1,w'=x.val
def ym.st{w0 w1 w'}(h:ym w0 w1 w'):ae w1 w':=by obtain⟨x,rfl⟩:=h;exact x.st
def ym.be{w0 w1 w'}(h:ym w0 w1 w'):jg w0 w':=by obtain⟨x,rfl⟩:=h;exact x.be
def au.cell{w0 w1 b o v}(h:w1.cell? ⟨b,o,none⟩=some v)(x:au w0 w1):x.val.cell? ⟨b,o,none⟩=some v:=x.st.cell h
def au.calls{P f args w0 w1}{x:au w0 w1}{v}(h:Calls P f args x.val λe w'=>e=.returned v/\Below x.val.heap.size x.val w'):Calls P f args x.val λe a=>e=.returned v/\∃y:au w0 w1,a=y.val:=
 h.mono λe w' ⟨c,b⟩=>⟨c,⟨w',x.st.trans (ae.below b),x.be.trans (b.mono x.be.size)⟩,rfl⟩
def au.same{P f args w0 w1}{x:au w0 w1}{v}(h:Calls P f args x.val λe w'=>e=.returned v/\w'=x.val):Calls P f args x.val λe a=>e=.returned v/\∃y:au w0 w1,a=y.val:=
 h.mono λe w' ⟨b,c⟩=>⟨b,x,c⟩
def aO{P b Q a w w0 w1 l}(c:P.follows .mixedOrders=true)(d:Region.lexB .any l.toArray=true)(e:ae w1 w)(f:jg w0 w) (h:wpQuiet P l.toArray (λw'=>∃x:au w0 w1,w'=x.val) (λg=>∀w',(∃x:au w0 w1,w'=x.val)->Q .normal g w') l a):(Code.region b l.toArray true).wp P Q a w:=
 wp_region_quiet (C:=λw'=>∃x:au w0 w1,w'=x.val) c d ⟨⟨w.drew,e,f.drew⟩,rfl⟩ (by simpa using h)
section
variable {P:Program} {md:Region.Mode} {ops:Array Oper} {C:xv->Prop}
def pJ(P:Program)(md:Region.Mode)(ops:Array Oper)(C:xv->Prop)(n:Nat)(L:Array Bool->Act->Prop):Nat->Array Bool->Act->Prop
 |0,s,a=>L s a
 |f+1,s,a=>Region.ready md ops s≠[]/\∀i∈Region.ready md ops s,i<n/\qOp P ops C i (pJ P md ops C n L f (s.setIfInBounds i true)) a
def pJ.any{n g L Q}(d:∀s a w,C w->L s a->wpAny P md ops Q g s a w):∀(f) (s) (a) (w),C w->pJ P md ops C n L f s a->wpAny P md ops Q (f+g) s a w:=by intro f;induction f with|zero=>intro s a w b h;rw[WH];exact d s a w b h|succ f e=>(intro s a w b h;have j:f+1+g=(f+g)+1:=by omega);rw[j];exact⟨λk=>absurd k h.1,λi l=>wpOp_of_qOp b (λm w' c o=>e _ m w' c o) (h.2 i l).2⟩
def pJ.first{n i o v L}(B:ops[i]? =some o)(m:∀(j:Nat) (o) cs b,ops[j]? =some o->o.op≠ .select cs b) (I:Region.sinkB md ops n=true) (J:Region.chainB md ops n=true) (K:n<ops.size) (x:i<n) (q:∀s a,L s a->∀j∈Region.ready md ops s,n<=j):∀(f) (s) (a),HeadInv md ops n s->(∀j r,ops[j]? =some r->j≠i->s.getD j true=false->(∀e∈r.after,Region.binds md e=true->e.on≠i)->o.apart ops r=true)->i∈Region.ready md ops s->YieldsIn P ops C o v a->pJ P md ops C n L f (s.setIfInBounds i true) (a.put o.dst v)->pJ P md ops C n L (f+1) s a:=by intro f;induction f with|zero=>intro s a g d t A H;refine⟨Z4 t,λj u=>?_⟩;have l:j<n:=ZC λh=>tail_waits I J K g _ i rfl x (mem_ready.1 t).1 j (by omega) u;refine⟨l,?_⟩;by_cases c:j=i;rw[c];exact A.qOp B H;have:=q _ _ H j (ready_mono u c);omega|succ f O=>intro s a g d t A H;refine⟨Z4 t,λj u=>?_⟩;have l:j<n:=ZC λh=>tail_waits I J K g _ i rfl x (mem_ready.1 t).1 j (by omega) u;refine⟨l,?_⟩;by_cases c:j=i;rw[c];exact A.qOp B H;obtain⟨p,r,w,y⟩:=mem_ready.1 u;(have D:∀e∈r.after,Region.binds md e=true->e.on≠i:=λe Q R E=>by have M:=y e Q R;rw[E,getD_both (mem_ready.1 t).1]at M;cases M);have S:=qOp_put w (d j r w c p D) (λcs b=>m i o cs b B) (λcs b=>m j r cs b w) A (H.2 j (ready_mono u c)).2;refine qOp_mono (λT N=>O _ T (g.set u l) ?_ (ready_mono t (WT c)) N.1 ?_) S;intro k U V F G;refine d k U V F ?_;by_cases z:j=k;rw[<-z];exact p;rwa[getD_set_ne true z]at G;rw[Array.setIfInBounds_comm _ _ c];exact N.2
def pJ.lex{n g f}(d:Region.noSelect ops=true)(r:Region.sinkB md ops n=true)(t:Region.chainB md ops n=true)(u:n<ops.size):∀(l) (k) (s) (a),(∀j,j<l.length->l[j]? =ops[k+j]?)->k+l.length=n->HeadInv md ops n s->Region.lexHead md ops g l.length k s=true->wpQuiet P ops C f l a->pJ P md ops C n (λs' p=>Region.seqB md ops g n s'=true/\f p) l.length s a:=by
 intro l;induction l with
 |nil=>(intro k s a i m b c h;obtain rfl:k=n:=by simpa using m);exact⟨c,h⟩
 |cons o l w=>(intro k s a i m b c h;have e:ops[k]? =some o:=(i 0 (YF _)).symm;rw[WA]at m;rw[WA,Region.lexHead,WI,WI]at c;have q:k∈Region.ready md ops s:=by simpa using c.1.1);(have x:qOp P ops C k (wpQuiet P ops C f l) a:=by unfold qOp;rw[e];exact h);obtain⟨v,y,z⟩:=yieldsIn_of_qOp e x;refine pJ.first e (Region.noSelect_spec d) r t u (by omega) (λs' p A=>seqB_ready A.1) l.length s a b (Region.free_spec e c.1.2) q y ?_;refine w (k+1) _ _ (λj B=>?_) (by omega) (b.set q (by omega)) c.2 z;have:=i (j+1) (by rw[WA];omega);rw[show k+(j+1)=k+1+j by omega]at this;exact this
end
def aZ{P u Q a w w0 w1}{l:List Oper}(n)(v:P.follows .mixedOrders=true)(i:Region.lexTailB .any l.toArray n=true) (y:ae w1 w) (z:jg w0 w) (h:wpQuiet P l.toArray (λw'=>∃x:au w0 w1,w'=x.val) (λk=>∀w',(∃x:au w0 w1,w'=x.val)->wpList P l.toArray Q (l.drop n) k w') (l.take n) a):(Code.region u l.toArray true).wp P Q a w:=by
 rw[Region.lexTailB]at i;simp only[WI,WR]at i;obtain⟨⟨⟨⟨c,o⟩,A⟩,B⟩,d⟩:=i;have D:n<l.length:=by simpa using o
 have b:(l.take n).length=n:=by rw[Xy];omega
 have e:(l.drop n).length=l.toArray.size-n:=by simp
 have f:HeadInv .any l.toArray n (Array.replicate l.toArray.size false):=⟨by simp,λj G _ p=>(by rw[getD_replicate_false]at p;cases p),λt _ E=>getD_in (by simpa using E) (getD_replicate_false _ _)⟩
 refine wp_region_any v ?_;have H:=pJ.lex (md:=.any) (g:=l.toArray.size-n) (C:=λw'=>∃x:au w0 w1,w'=x.val) c A B o (l.take n) 0 _ a (λj q=>by
  have m:j<n:=by rw[b]at q;exact q
  simp[m]) (by rw[b];omega) f (by rw[b];exact d) h
 have R:=pJ.any (Q:=Q) (g:=l.toArray.size-n) (λs k w' F r=>by have:=wpAny_of_seq (md:=.any) (Q':=Q) (l.drop n) n s k w' (λj=>by simp[Zf]) (by rw[e];exact r.1) (r.2 w' F);rwa[e]at this) _ _ _ _ ⟨⟨w.drew,y,z.drew⟩,rfl⟩ H;rw[b,show n+(l.toArray.size-n)=l.toArray.size by omega]at R;exact R
inductive Src(w:xv)(size:Nat):Option Addr->Nat->List x6->Prop
 |nil:Src w size none 0 []
 |some (ad:Addr) (m:Nat) (news:List x6) (hl:news.length=m*size) (hc:∀j u,news[j]? =some u->w.cell? (ad.add j)=some u):Src w size (some ad) m news
section
variable {P:Program} (w:xv) (base:Nat) (t ty e:TypeId) (i:TypeInfo) (z:x6) (size bytes:Nat) (ht:P.underlying t=some (.slice e)) (hi:P.info? e=some i) (hz:i.zero=some z) (hsize:i.size=size) (hby:i.bytes=bytes) (hzs:z.cells.size=size) (hsz:0<size) (v:x6) (n:Nat) (xs:List x6) (hown:w.ownsRow base e size v n xs) (A:Option Addr) (m c:Nat) (news:List x6) (hs:Src w size A m news) (h1:∀u∈news,u.oneCell'=true) (h63:n+m<=maxLen) (hbytes:(n+m)*bytes<=140737488355328) (hbase:base<=w.heap.size)
include ht hi hz hsize hby hzs hsz hown hs h1 h63 hbytes hbase
def yW:∃b w',(Builtin.append_ #[t,t] ty #[v,.slice A m c]).run P w=.ok b w'/\w'.ownsRow base e size b (n+m) (xs++news)/\w.grownBy w' v.ownBlock/\(b.ownBlock=v.ownBlock\/b.ownBlock=some w.heap.size):=by cases hs with|some ad m news f j=>obtain⟨b,w',h,k,l,_,p⟩:=run_append_own_at (P:=P) w base t ty e i z size bytes ht hi hz hsize hby hzs hsz v n xs hown ad m c news f j h1 h63 hbytes hbase;exact⟨b,w',h,k,l,p⟩|nil=>refine⟨v,w,?_,by rw[XE,XJ];exact hown,World.grownBy.refl w _,.inl rfl⟩;obtain⟨rfl,_⟩|⟨g,cap,q,rfl,_,_,d,_⟩:=hown.2;simp[Builtin.append_,run_underlying ht,sizeOf,typeInfo,hi,Builtin.lenOf,Builtin.firstCells];simp[Builtin.append_,run_underlying ht,sizeOf,typeInfo,hi,Builtin.lenOf,Builtin.firstCells,d,storeCells]
end
section
variable {P:Program} {w:xv} {o:Oper} {a:Act} {K:Act->xv->Prop} {Q:Exit->Act->xv->Prop} (s x:Operand) (t:TypeId) (ho:o.op=.call {callee:=.builtin .append,args:=#[s,x],argTypes:=#[t,t]}) (base:Nat) (e:TypeId) (i:TypeInfo) (z:x6) (size bytes:Nat) (ht:P.underlying t=some (.slice e)) (hi:P.info? e=some i) (hz:i.zero=some z) (hsize:i.size=size) (hby:i.bytes=bytes) (hzs:z.cells.size=size) (hsz:0<size) (v:x6) (n:Nat) (xs:List x6) (hsv:a.eval s=v) (hown:w.ownsRow base e size v n xs) (A:Option Addr) (m c:Nat) (news:List x6) (hxv:a.eval x=.slice A m c) (hs:Src w size A m news) (h1:∀u∈news,u.oneCell'=true) (h63:n+m<=maxLen) (hbytes:(n+m)*bytes<=140737488355328) (hbase:base<=w.heap.size)
include ho ht hi hz hsize hby hzs hsz hown hs h1 h63 hbytes hbase hsv hxv
def rN(h:∀b w',w'.ownsRow base e size b (n+m) (xs++news)->w.grownBy w' v.ownBlock->(b.ownBlock=v.ownBlock\/b.ownBlock=some w.heap.size)->K (a.put o.dst b) w'):o.wp P a w K Q:=by obtain⟨b,w',d,f,g,j⟩:=yW (P:=P) w base t o.type e i z size bytes ht hi hz hsize hby hzs hsz v n xs hown A m c news hs h1 h63 hbytes hbase;unfold Oper.wp execOp;simp only[ho,resolve,invoke,builtin,Sem.run_bind,Sem.run_pure,Result.andThen_ok,List.map_toArray,aab,List.map_nil,hsv,hxv,d];exact h b w' f g j
def cu{ops:Array Oper}{rest:List Oper}(d:o.guard=none)(h:∀b w',w'.ownsRow base e size b (n+m) (xs++news)->w.grownBy w' v.ownBlock->(b.ownBlock=v.ownBlock\/b.ownBlock=some w.heap.size)->wpList P ops Q rest (a.put o.dst b) w'):wpList P ops Q (o::rest) a w:=wpList_plain d λ_ f=>rN s x t ho base e i z size bytes ht hi hz hsize hby hzs hsz v n xs hsv hown A m c news hxv hs h1 h63 hbytes hbase λb w' g j k=>f _ _ (h b w' g j k)
def bl{ops E}(d:o.guard=none)(h:∀b w',w'.ownsRow base e size b (n+m) (xs++news)->w.grownBy w' v.ownBlock->(b.ownBlock=v.ownBlock\/b.ownBlock=some w.heap.size)->K (a.put o.dst b) w'):if Region.wanted o (yielded ops a.tmps)=true then Oper.wp P o a w K Q else E:=by rw[Wu (by simp[Region.wanted,d])];exact rN s x t ho base e i z size bytes ht hi hz hsize hby hzs hsz v n xs hsv hown A m c news hxv hs h1 h63 hbytes hbase h
end
end Go.Proofs
namespace Go.Proofs
open Go.Tm Go.RowKit
variable {fs:Array Func} (L:bT fs)
def bF(K:Nat->Prop)(w:xv)(mc:WZ)(m:Mark):Prop:=∃a,mc=#[.string m.name,.string m.word,a,.i m.day,.bool m.known]/\aB K 1 dh w a m.aU
structure OkM(m:Mark):Prop where
 word:m.word.size<=16
 fig:m.aU.length<=5
 code:∀x∈m.aU,0<=x/\x<=999
 day:0<=m.day/\m.day<=99999
def aB.ints{K w w'}(a:ae w w'){v l}(h:aB K 1 dh w v l):aB K 1 dh w' v l:=h.stays a λb c o x e h=>by subst e;exact dh.carry (Carry.keep a) b b o x rfl h
def BM(t one two):bn t 0 one two=eu (aX t.az one.word.data.toList) (aX t.az two.word.data.toList):=rfl
def fP(t:Table)(one two:Bs)(k:Nat):Int:=(List.range k).foldl (λa k=>max a (eu (bS t k one) (bS t k two))) 0
def lS(t one two k):fP t one two (k+1)=max (fP t one two k) (eu (bS t k one) (bS t k two)):=by unfold fP;rw[Ze,ZB];rfl
def BN(t one two):bn t 1 one two=fP t one.word.data.toList two.word.data.toList t.aI.length:=rfl
def BO(t one two):bn t 2 one two=iE t (aX t.az one.word.data.toList) (aX t.az two.word.data.toList):=rfl
def BP(t one two):bn t 3 one two=eu (aX t.az one.word.data.toList) (aX t.az two.word.data.toList).reverse:=rfl
def BQ(t one two):bn t 4 one two=rB (aX t.az one.word.data.toList) (aX t.az two.word.data.toList):=rfl
def BR(t k one two)(h:k≠0/\k≠1/\k≠2/\k≠3/\k≠4):bn t k one two=cJ one.aU two.aU:=by unfold bn;simp only[Wt h.1,Wt h.2.1,Wt h.2.2.1,Wt h.2.2.2.1,Wt h.2.2.2.2]
def BS{K:Nat->Prop}{v0 v1 v2:x6}{t:Table}{m1 m2:WZ}{one two:Mark}(kd:Int)(w:xv)(ht:IsTable K w v0 v1 v2 t)(u:OkT t)(h1:bF K w m1 one)(h2:bF K w m2 two)(o1:OkM one)(o2:OkM two):Calls (Qs fs) 70 #[.agg #[v0,v1,v2],.i kd,.agg m1,.agg m2] w λe w'=>e=.returned (.i (bn t kd one two))/\jg w w':=by
 have e54:=e54 L;have e65:=e65 L;have Ut:=Ut L;have Uu:=Uu L;have Uv:=Uv L;have Rc:=Rc L;have Uw:=Uw L;obtain⟨f1,rfl,r1⟩:=h1;obtain⟨f2,rfl,r2⟩:=h2;obtain⟨N,f⟩:=ex (w.alloc (.cells #[v0,v1,v2] 26));obtain⟨wb,g⟩:=ex (N.alloc (.cells #[.string one.name,.string one.word,f1,.i one.day,.bool one.known] 38));obtain⟨w1,j⟩:=ex (wb.alloc (.cells #[.string two.name,.string two.word,f2,.i two.day,.bool two.known] 38));have Sa:ae N w1:=by rw[j,g];exact(ae.alloc _ _).trans (ae.alloc _ _)
 have Sb:ae wb w1:=by rw[j];exact ae.alloc _ _
 have S1:ae w w1:=(by rw[f];exact ae.alloc _ _:ae w N).trans Sa;have B1:jg w w1:=by rw[j,g,f];exact(((Below.refl _ w).alloc (Wv _) _).alloc (by simp) _).alloc (by simp;omega) _
 have z:N.heap.size=w.heap.size+1:=by rw[f];simp
 have hsb:wb.heap.size=w.heap.size+1+1:=by rw[g,<-z];simp
 have ct:∀i v,(#[v0,v1,v2]:WZ)[i]? =some v->w1.cell? ⟨w.heap.size,i,none⟩=some v:=λi v h=>Sa.cell (by rw[f];exact aC w _ 26 i v h);have c1:∀i v,(#[.string one.name,.string one.word,f1,.i one.day,.bool one.known]:WZ)[i]? =some v->w1.cell? ⟨w.heap.size+1,i,none⟩=some v:=λi v h=>Sb.cell (by rw[g,<-z];exact aC N _ 38 i v h);have c2:∀i v,(#[.string two.name,.string two.word,f2,.i two.day,.bool two.known]:WZ)[i]? =some v->w1.cell? ⟨w.heap.size+1+1,i,none⟩=some v:=λi v h=>by rw[j,<-hsb];exact aC wb _ 38 i v h
 have t0:=ct 0 _ rfl;have t1:=ct 1 _ rfl;have t2:=ct 2 _ rfl;have a1:=c1 1 _ rfl;have a2:=c1 2 _ rfl;have b1:=c2 1 _ rfl;have b2:=c2 2 _ rfl;have hT:=ht.stays S1;have O:=r1.ints S1;have P:=r2.ints S1;go_enter (n70 L),Tryz.ntmps70;go_upto_region 1 with fail;rw[<-f,<-g,<-j];obtain⟨N0,h0⟩:=ex (w.heap.size);obtain⟨N1,h1⟩:=ex (w.heap.size+1);obtain⟨N2,h2⟩:=ex (w.heap.size+1+1);rw[<-h2]at b1 b2⊢;rw[<-h1]at a1 a2⊢;rw[<-h0]at t0 t1 t2⊢;have BW:Hid (jg w w1):=B1;clear f g j Sa Sb S1 B1 z hsb ct c1 c2 ht r1 r2 h0 h1 h2;have HT:=jj hT;have Q:=dx u one.word.data.toList;have R:=dx u two.word.data.toList;rw[<-Lib.size_eq,<-dv]at Q R;obtain⟨z1,z2,z3,z4⟩:=o1;obtain⟨y1,y2,y3,y4⟩:=o2;have cB:∀(s:UV),s.size<=16->∀x:au w w1,Calls (Qs fs) 54 #[.agg #[v0,v1,v2],.string s] x.val λe w'=>e=.returned (.string (bs (aX t.az s.data.toList)))/\∃y:au w w1,w'=y.val:=λs hs x=>au.calls (FE L s x.val (hT.stays x.st) u (by omega));have J:=cB one.word z1;have M:=cB two.word y1;have C:=λx:au w w1=>x.cell t0;have D:=λx:au w w1=>x.cell t1;have E:=λx:au w w1=>x.cell t2;have F:=λx:au w w1=>x.cell a1;have ay:=λx:au w w1=>x.cell a2;have G:=λx:au w w1=>x.cell b1;have aK:=λx:au w w1=>x.cell b2;refine aO (w0:=w) (w1:=w1) (by kernel_rfl) (by kernel_rfl) (ae.refl _) BW.o ?_;haveI H:Nonempty (au w w1):=⟨⟨w1,ae.refl _,BW.o⟩⟩
 repeat (go_big_quiet_step (first|(go_at_call 54;exact J _)|(go_at_call 54;exact M _)))
 refine wpQuiet_nil ?_;rintro l ⟨⟨_,p,Bx⟩,rfl⟩;have r:=hT.stays p;have S:=O.ints p;have T:=P.ints p;have U:=p.cell t0;have V:=p.cell t1;have W:=p.cell t2;have X:=p.cell a1;have aR:=p.cell a2;have Y:=p.cell b1;have a6:=p.cell b2;clear J M cB C D E F ay G aK hT O P t0 t1 t2 a1 a2 b1 b2 HT H;obtain⟨A,hA⟩:=ex (bs (aX t.az one.word.data.toList));obtain⟨B,hB⟩:=ex (bs (aX t.az two.word.data.toList));have Z:A.data.toList=aX t.az one.word.data.toList:=by rw[hA,dM]
 have aa:B.data.toList=aX t.az two.word.data.toList:=by rw[hB,dM]
 rw[<-hA]at Q⊢;rw[<-hB]at R⊢;have b:Hid _:=(⟨Z,aa⟩:A.data.toList=aX t.az one.word.data.toList/\B.data.toList=aX t.az two.word.data.toList)
 clear hA hB Z aa;have q:=jj Bx;by_cases k0:kd=0
 .subst k0;have c:=vn L A B l (by omega) (by omega);go_wp2_with (go_at_call 115;refine c.mono ?_;clear c;rintro e w2 ⟨rfl,d⟩);go_ret;exact⟨by rw[BM,<-b.o.1,<-b.o.2];rfl,q.o.trans (d.mono q.o.size)⟩
 have j0:(kd==0)=false:=by rw[W5];exact k0
 by_cases k2:kd=2
 .subst k2;have c:=Ro L A B l r u.Ti;go_wp2_with (go_at_call 116;refine c.mono ?_;clear c;rintro e w2 ⟨rfl,d⟩);go_ret;exact⟨by rw[BO,<-b.o.1,<-b.o.2];rfl,q.o.trans (d.mono q.o.size)⟩
 have j2:(kd==2)=false:=by rw[W5];exact k2
 by_cases k3:kd=3
 .subst k3;have c:=Ow L B l (by omega);have c':=λwy=>vn L A (bs B.data.toList.reverse) wy (by omega) (by rw[dv,ZA,<-Lib.size_eq];omega);go_wp2_with (first|(go_at_call 117;refine c.mono ?_;clear c;rintro e w2 ⟨rfl,rfl⟩)|(go_at_call 115;refine(c' _).mono ?_;clear c';rintro e w2 ⟨rfl,d⟩));go_ret;exact⟨by rw[BP,<-b.o.1,<-b.o.2,dM];rfl,q.o.trans (d.mono q.o.size)⟩
 have j3:(kd==3)=false:=by rw[W5];exact k3
 by_cases k4:kd=4
 .subst k4;have c:=U6 L A B l (by omega) (by omega);go_wp2_with (go_at_call 118;refine c.mono ?_;clear c;rintro e w2 ⟨rfl,rfl⟩);go_ret;exact⟨by rw[BQ,<-b.o.1,<-b.o.2];rfl,q.o⟩
 have j4:(kd==4)=false:=by rw[W5];exact k4
 by_cases k1:kd=1
 .subst k1;have HR:Hid ((l.cell? ⟨N0,0,none⟩=some v0/\l.cell? ⟨N0,2,none⟩=some v2)/\l.cell? ⟨N1,1,none⟩=some (.string one.word)/\l.cell? ⟨N2,1,none⟩=some (.string two.word)):=⟨⟨U,W⟩,X,Y⟩
  clear X Y;have n1:∀k,k<t.aI.length->∀s,(bS t k s).length<=3*s.length:=λk hk s=>m6 u hk s;have ln:t.aI.length<=3:=u.yD;obtain⟨ao,c,rfl,a7,hc,aM,m⟩:=r.2.1;have HC:=jj m;clear m aM;have HT:=jj r;clear r S T W U;go_wp2;go_loopw [11,12] (λo i wr=>∃k:Nat,k<=t.aI.length/\i=.i k/\o=.i (fP t one.word.data.toList two.word.data.toList k)/\ae l wr/\jg w wr) (λo i _=>t.aI.length-(intOf i).toNat);case atStart=>exact⟨0,WB _,rfl,rfl,ae.refl _,q.o⟩
  case round=>
   (obtain⟨k,hk,rfl,rfl,a,n⟩:=hrel;have ab:=a.cell V;have HW:Hid _:=(⟨a,n⟩:ae l wr/\jg w wr));obtain I|hge:=Wx k t.aI.length
   .have ad:=IsTable.stays a HT.o;have af:=a.cell HR.o.1.1;have ag:=a.cell HR.o.1.2;have ah:=a.cell HR.o.2.1;have ak:=a.cell HR.o.2.2;clear a n V;have x1:=n1 k I one.word.data.toList;have x2:=n1 k I two.word.data.toList;rw[<-Lib.size_eq,<-dv]at x1 x2;have cS:∀(s:UV),s.size<=16->∀x:au w wr,Calls (Qs fs) 65 #[.agg #[v0,.slice ao t.aI.length c,v2],.i k,.string s] x.val λe w'=>e=.returned (.string (bs (bS t k s.data.toList)))/\∃y:au w wr,w'=y.val:=λs hs x=>au.calls (LU L k s x.val (ad.stays x.st) u (by omega) I);(have J:=cS one.word z1;have M:=cS two.word y1;have q3:∀x:au w wr,Calls (Qs fs) 115 #[.string (bs (bS t k one.word.data.toList)),.string (bs (bS t k two.word.data.toList))] x.val λe w'=>e=.returned (.i (eu (bS t k one.word.data.toList) (bS t k two.word.data.toList)))/\∃y:au w wr,w'=y.val:=λx=>by have h:=au.calls (x:=x) (vn L (bs (bS t k one.word.data.toList)) (bs (bS t k two.word.data.toList)) x.val (by omega) (by omega));rw[dM,dM]at h;exact h);(obtain⟨sA,al⟩:=ex (bs (bS t k one.word.data.toList));obtain⟨sB,an⟩:=ex (bs (bS t k two.word.data.toList));obtain⟨lv,ar⟩:=ex (eu (bS t k one.word.data.toList) (bS t k two.word.data.toList));have ax:Hid _:=lS t one.word.data.toList two.word.data.toList k;rw[<-al]at J q3;rw[<-an]at M q3;rw[<-ar]at q3 ax;have C:=λx:au w wr=>x.cell af;have D:=λx:au w wr=>x.cell ab;have E:=λx:au w wr=>x.cell ag;have F:=λx:au w wr=>x.cell ah;have G:=λx:au w wr=>x.cell ak;clear cS al an ar x1 x2 n1 ad;go_wp2;clear af ab ag ah ak;refine aO (w0:=w) (w1:=wr) (by kernel_rfl) (by kernel_rfl) (ae.refl _) HW.o.2 ?_;haveI H:Nonempty (au w wr):=⟨⟨wr,ae.refl _,HW.o.2⟩⟩);(repeat (go_big_quiet_step (first|(go_at_call 65;exact J _)|(go_at_call 65;exact M _)|(go_at_call 115;exact q3 _))));(refine wpQuiet_nil ?_;rintro wz ⟨⟨_,Sz,Bz⟩,rfl⟩;have SB:Hid _:=(⟨Sz,Bz⟩:ae wr wz/\jg w wz));clear J M q3 C D E F G H Sz Bz;go_wp2;refine⟨⟨k+1,by omega,by go_num,by rw[ax.o];go_num,HW.o.1.trans SB.o.1,SB.o.2⟩,by simp[intOf];omega⟩
   clear a n;(go_wp2;obtain rfl:k=t.aI.length:=by omega);go_ret;exact⟨by rw[BN];rfl,HW.o.2⟩
 have j1:(kd==1)=false:=by rw[W5];exact k1
 have c:=LW L l S T (by omega) (by omega) z3 y3;go_wp2_with (go_at_call 119;refine c.mono ?_;clear c;rintro e w2 ⟨rfl,d⟩);go_ret;exact⟨by rw[BR _ _ _ _ ⟨k0,k1,k2,k3,k4⟩];rfl,q.o.trans (d.mono q.o.size)⟩
end Go.Proofs

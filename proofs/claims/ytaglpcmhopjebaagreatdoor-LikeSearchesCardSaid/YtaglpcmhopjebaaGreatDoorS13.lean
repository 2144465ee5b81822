import Derived.BigQuiet
import Derived.OwnWalk
import Derived.Deep.OwnRows
import Derived.BigRegion
import Derived.StillTail
import Derived.Maps.AppendAt
import Derived.Deep.AppendLies
import Derived.RegionTactic
import Derived.Deep.CutRange
import Derived.Test.YtaglpcmhopjebaaGreatDoorS12
set_option linter.all false
set_option maxRecDepth 100000
set_option maxHeartbeats 20000000
namespace Go.Proofs
open Go.Tm Go.RowKit
variable {fs:Array Func} (L:bM fs)
structure OkT(t:Table):Prop where
 lets:∀p∈t.aw,1<=p.1.size/\p.1.size<=4/\p.2.size<=3
 RX:t.aw.length<=12
 aW:∀x∈t.aG,∀p∈x.aW,1<=p.1.size/\p.1.size<=3/\p.2.size<=p.1.size
 IC:∀x∈t.aG,x.aW.length<=5
 wj:t.aG.length<=3
 Qf:t.bt.length<=4
def ep(rest:Bs)(a:Option Pr2)(p:Pr2):Option Pr2:=if p.1.data.toList.isPrefixOf rest&&decide ((a.elim 0 λq=>q.1.size)<p.1.size)then some p else a
def j7(a:List Pr2)(k)(b:k<a.length)(rest):bN (a.take (k+1)) rest=ep rest (bN (a.take k) rest) a[k]:=by unfold bN;rw[Vi b,Wa];rfl
def iy(a:List Pr2)(rest:Bs)(k:Nat)(b:Int):Prop:=(b= -1/\bN (a.take k) rest=none)\/∃j,∃h:j<a.length,j<k/\b=j/\bN (a.take k) rest=some a[j]
def iy.start(a rest):iy a rest 0 (-1):=.inl ⟨rfl,rfl⟩
def A9(rest):∀(a:List Pr2) (b) (p),a.foldl (ep rest) b=some p->p∈a\/b=some p:=by intro a;induction a with|nil=>exactλb p h=>.inr h|cons q a c=>intro b p h;obtain h|h:=c _ p h;exact .inl (.tail _ h);unfold ep at h;split at h;cases h;exact .inl (.head _);exact .inr h
def gV{ls rest p}(h:bN ls rest=some p):p∈ls:=by obtain h|h:=A9 rest ls none p h;exact h;cases h
def vn(rest:Bs):∀(c:List Pr2) (b),(∀p,b=some p->p.1.data.toList.isPrefixOf rest=true)->∀p,c.foldl (ep rest) b=some p->p.1.data.toList.isPrefixOf rest=true:=by intro c;induction c with|nil=>exactλb d p h=>d p h|cons q c f=>intro b d p h;refine f _ (λg a=>?_) p h;unfold ep at a;split at a;rename_i e;cases a;simp only[TH]at e;exact e.1;exact d g a
def og{a rest p}(h:bN a rest=some p):p.1.data.toList.isPrefixOf rest=true:=vn rest a none (λp h=>by cases h) p h
def FU(a:List Pr2)(e:∀p∈a,1<=p.1.size):∀(n m) (s),s.length<=n->s.length<=m->lz a n s=lz a m s:=by intro n;induction n with|zero=>intro m s h _;have:s=[]:=Uj (by omega);subst this;cases m<;>rfl|succ n b=>intro m s h d;cases s with|nil=>cases m<;>rfl|cons c cs=>cases m with|zero=>simp at d|succ m=>simp only[TA]at h d;unfold lz;cases f:bN a (c::cs)with|none=>simp only[];rw[b m cs (by omega) (by omega)]|some p=>have g:=gV f;have:=e p g;simp only[];rw[b m _ (by rw[TM,TA];omega) (by rw[TM,TA];omega)]
def ku{w w':World}(h:w'.heap=w.heap)(a):w'.cell? a=w.cell? a:=by unfold World.cell?;rw[h]
def Jm(a):aS a []=[]:=rfl
def Jn{a:List Pr2}(b:∀p∈a,1<=p.1.size){c}{s:Bs}{p}(d:bN a (c::s)=some p):aS a (c::s)=p.2.data.toList++aS a ((c::s).drop p.1.size):=by have e:=b p (gV d);show lz a (s.length+1) (c::s)=_;unfold lz;rw[d];simp only[];congr 1;exact FU _ b _ _ _ (by rw[TM,TA];omega) (Tw _)
def FV{a c}{s:Bs}(b:bN a (c::s)=none):aS a (c::s)=(if bd c then[c]else[])++aS a s:=by show lz a (s.length+1) (c::s)=_;unfold lz;rw[b];rfl
def iy.skip{a rest k b}(h:iy a rest k b)(d:k<a.length)(e:ep rest (bN (a.take k) rest) a[k]=bN (a.take k) rest):iy a rest (k+1) b:=by obtain⟨f,c⟩|⟨j,g,f,c,i⟩:=h;exact .inl ⟨f,by rw[j7 _ _ d,e,c]⟩;exact .inr ⟨j,g,by omega,c,by rw[j7 _ _ d,e,i]⟩
def iy.take{a rest k}(b:k<a.length)(c:ep rest (bN (a.take k) rest) a[k]=some a[k]):iy a rest (k+1) k:=.inr ⟨k,b,Ux _,rfl,by rw[j7 _ _ b,c]⟩
def C9{K:Nat->Prop}{v0 v1 v2:Value}{t:Table}(s:ByteArray)(w:World)(ht:IsTable K w v0 v1 v2 t)(ok:OkT t)(hs:s.size<=1000):Calls (Qs fs) 54 #[.agg #[v0,v1,v2],.string s] w λe w'=>e=.returned (.string (bs (aS t.aw s.data.toList)))/\Below w.heap.size w w':=by
 have e96:=e96 L;obtain⟨⟨S,c,rfl,aa,hc,_,m⟩,_,_⟩:=ht;have n:=ok.lets;have ab:=ok.RX;clear ok;obtain⟨ls,T⟩:=ex (t.aw);rw[<-T]at aa m n ab⊢;clear T;have h1:∀p∈ls,1<=p.1.size:=λp hp=>(n p hp).1;have q:=aE w #[.slice S ls.length c,v1,v2] 26 0 _ rfl;have U:=aJ w (.cells #[.slice S ls.length c,v1,v2] 26);have r:∀(k:Nat) (h:k<ls.length),∃b v,S=some ⟨b,v,none⟩/\dv K (w.alloc (.cells #[.slice S ls.length c,v1,v2] 26)) b (v+k*2) ls[k]:=λk h=>by obtain⟨b,v,e,P⟩:=m k h;exact⟨b,v,e,dv.carry (Carry.keep (ae.below (aJ w _))) b b _ _ rfl P⟩
 clear m;obtain⟨w1,V⟩:=ex (w.alloc (.cells #[.slice S ls.length c,v1,v2] 26));go_enter (n54 L),Tryz.ntmps54;go_wp2;rw[<-V]at q U r⊢;obtain⟨N,hN⟩:=ex (w.heap.size);rw[<-hN]at q⊢;clear V hN;go_loopw [5,6] (λo i wr=>∃(k:Nat) (x:Bs),k<=s.size/\i=.int .i64 k/\o=.string (bs x)/\(bs x).size<=1000*k/\wr.heap=w1.heap/\Below w.heap.size w wr/\x++aS ls (s.data.toList.drop k)=aS ls s.data.toList) (λo i _=>s.size-(intOf i).toNat);case atStart=>exact⟨0,[],TE _,rfl,rfl,TE _,rfl,U,rfl⟩
 case round=>
  obtain⟨k,x,hk,rfl,rfl,an,A,l,W⟩:=hrel;have R:Hid _:=W;clear W;obtain X|hge:=Ty k s.size
  .have B:=(ku A _).trans q;have Y:=drop_cons s k X;have HD:Hid _:=Y;clear Y;go_wp2;go_loopw [7,8] (λb i wr=>∃(j:Nat) (b0:Int),j<=ls.length/\i=.int .i64 j/\b=.int .i64 b0/\iy ls (s.data.toList.drop k) j b0/\wr.heap=w1.heap/\Below w.heap.size w wr) (λb i _=>ls.length-(intOf i).toNat);case atStart=>exact⟨0,-1,TE _,rfl,rfl,iy.start _ _,A,l⟩
   case round=>
    (obtain⟨j,b0,hj,rfl,rfl,C,a,g⟩:=hrel;have ah:=(ku a _).trans q;have HW:Hid _:=(⟨a,g⟩:wr.heap=w1.heap/\Below w.heap.size w wr));obtain f|hjge:=Ty j ls.length
    .obtain⟨b,v,rfl,D,H⟩:=r j f;have ad:=n ls[j] (TG _);obtain⟨z1,z2,z3⟩:=ad;have D:=(ku a _).trans D;have E:=r;clear a g A l q H h1 n R U B r;have I:=λwx=>rC L s ls[j].1 k wx (by omega) (by omega) (by omega);obtain⟨rfl,y⟩|⟨u,F,Q,rfl,d⟩:=C
     .have G:Hid _:=y;clear y E;cases z:Lib.occAt s.data.toList ls[j].1.data.toList k with|false=>simp only[z]at I;have M:Hid _:=z;clear z;go_wp2;go_quiet ((go_at_call 96;exact Calls.quiet_of_same (I _)));go_wp2;refine⟨⟨j+1,-1,by omega,by go_num,rfl,iy.skip (.inl ⟨rfl,G.out⟩) f ?_,HW.out.1,Go.below_drewN HW.out.2 _⟩,by simp[intOf];omega⟩;unfold ep;rw[show ls[j].1.data.toList.isPrefixOf (s.data.toList.drop k)=false from M.out];rfl|true=>simp only[z]at I;have M:Hid _:=z;clear z;go_wp2;go_quiet ((go_at_call 96;exact Calls.quiet_of_same (I _)));go_wp2;refine⟨⟨j+1,j,by omega,by go_num,rfl,iy.take f ?_,HW.out.1,Go.below_drewN HW.out.2 _⟩,by simp[intOf];omega⟩;unfold ep;rw[show ls[j].1.data.toList.isPrefixOf (s.data.toList.drop k)=true from M.out,G.out,VJ];exact Tv (TD (show(0:Nat)<ls[j].1.size by omega))
     obtain⟨b2,ak,e2,Z,_⟩:=E u F
     cases e2;have Z:=(ku HW.out.1 _).trans Z;have G:Hid _:=d;clear d E;cases z:Lib.occAt s.data.toList ls[j].1.data.toList k with
     |false=>simp only[z]at I;have M:Hid _:=z;clear z;go_wp2;go_quiet ((go_at_call 96;exact Calls.quiet_of_same (I _)));go_wp2;refine⟨⟨j+1,u,by omega,by go_num,rfl,iy.skip (.inr ⟨u,F,Q,rfl,G.out⟩) f ?_,HW.out.1,Go.below_drewN HW.out.2 _⟩,by simp[intOf];omega⟩;unfold ep;rw[show ls[j].1.data.toList.isPrefixOf (s.data.toList.drop k)=false from M.out];rfl
     |true=>
      simp only[z]at I;have M:Hid _:=z;clear z;obtain hcmp|hcmp:=Ty ls[u].1.size ls[j].1.size
      .go_wp2;go_quiet ((go_at_call 96;exact Calls.quiet_of_same (I _)));go_wp2;refine⟨⟨j+1,j,by omega,by go_num,rfl,iy.take f ?_,HW.out.1,Go.below_drewN HW.out.2 _⟩,by simp[intOf];omega⟩;unfold ep;rw[show ls[j].1.data.toList.isPrefixOf (s.data.toList.drop k)=true from M.out,G.out];simp[hcmp]
      go_wp2;go_quiet ((go_at_call 96;exact Calls.quiet_of_same (I _)));go_wp2;refine⟨⟨j+1,u,by omega,by go_num,rfl,iy.skip (.inr ⟨u,F,Q,rfl,G.out⟩) f ?_,HW.out.1,Go.below_drewN HW.out.2 _⟩,by simp[intOf];omega⟩;unfold ep;rw[show ls[j].1.data.toList.isPrefixOf (s.data.toList.drop k)=true from M.out,G.out,VJ,Tu (by rw[TQ];show ¬ls[u].1.size<ls[j].1.size;omega)]
    (have af:j=ls.length:=by omega);subst af;obtain⟨rfl,y⟩|⟨u,F,Q,rfl,d⟩:=C
    .rw[Vj]at y;(have G:Hid _:=y;have J:=R;clear y r A l q h1 n R U B a g;have O:∀b:Bool,bd s[k]=b->aS ls (s.data.toList.drop k)=(if b then[s[k]]else[])++aS ls (s.data.toList.drop (k+1)):=λb hb=>by have P:=G.out;rw[HD.out]at P⊢;rw[FV P,hb]);have HL:Hid _:=O;clear O;go_wp2;refine⟨⟨k+1,x++[s[k]],by omega,by go_num,by rw[A8 x s k X],?_,HW.out.1,HW.out.2,?_⟩,by simp[intOf];omega⟩;rw[cQ,TR,<-cQ x];simp only[TA,TN];omega;rw[<-J.out,HL.out true ((vO _).2 ⟨by assumption,by assumption⟩),UG];rfl;all_goals
      refine⟨⟨k+1,x,by omega,by go_num,rfl,by omega,HW.out.1,HW.out.2,?_⟩,by simp[intOf];omega⟩;rw[<-J.out,HL.out false (by
       cases hl:bd s[k]with
       |false=>rfl
       |true=>have:=(vO _).1 hl;omega)]
      rfl
    rw[Vj]at d;obtain⟨b,v,rfl,D,H⟩:=r u F;obtain⟨z1,z2,z3⟩:=n ls[u] (TG _);have D:=(ku a _).trans D;have H:=(ku a _).trans H;have G:Hid _:=d;have J:=R;have H1:Hid _:=h1;have ag:=(UM.1 (og d)).length_le;rw[TM,<-Lib.size_eq,<-Lib.size_eq]at ag;clear d r A l q n R U B a g h1;go_wp2;refine⟨⟨k+ls[u].1.size,x++ls[u].2.data.toList,by omega,by go_num,by rw[tz],?_,HW.out.1,HW.out.2,?_⟩,by simp[intOf];omega⟩;rw[cQ,TR,<-cQ x,<-Lib.size_eq];have:1000*(k+ls[u].1.size)=1000*k+1000*ls[u].1.size:=Nat.mul_add _ _ _;omega;have P:=G.out;rw[<-J.out];rw[HD.out]at P⊢;rw[Jn H1.out P,<-HD.out,VI,UG]
  go_wp2;go_ret;have W:=R.out;rw[T6 (by rw[<-Lib.size_eq];exact hge),Jm,UH]at W;exact⟨by rw[W];rfl,l⟩
def ae.cell{w w'}(h:ae w w'){b o v}(a:w.cell? ⟨b,o,none⟩=some v):w'.cell? ⟨b,o,none⟩=some v:=by unfold World.cell? at a⊢;revert a;simp only[];cases c:w.heap[b]? with|none=>intro h;cases h|some o'=>cases o' with|cells d e F=>intro a;rw[h b d e F c];exact a|_=>intro h;cases h
def ae.alloc(w o):ae w (w.alloc o):=ae.below (aJ w o)
def ae.drewN{w w'}(h:ae w w')(n):ae w (w'.drewN n):=h
def vo(f t)(b:t.length<=f.length):∀(n) (s),(eY f t n s).length<=s.length:=by intro n;induction n with|zero=>intro s;exact Tw _|succ n a=>intro s;cases s with|nil=>exact Tw _|cons c cs=>unfold eY;split;rename_i d;have g:=(UM.1 d).length_le;have e:=a ((c::cs).drop f.length);rw[TM]at e;rw[TR];omega;have:=a cs;simp only[TA];omega
def jO{p}(h:p.2.size<=p.1.size)(s):(bU p s).length<=s.length:=vo _ _ (by rw[<-Lib.size_eq,<-Lib.size_eq];exact h) _ _
def rE(a:List Pr2)(h:∀p∈a,1<=p.1.size/\p.1.size<=4/\p.2.size<=3):∀(n) (s),(lz a n s).length<=3*s.length:=by intro n;induction n with|zero=>intro s;exact TE _|succ n b=>intro s;cases s with|nil=>exact TE _|cons c cs=>unfold lz;cases e:bN a (c::cs)with|none=>have:=b cs;simp only[TR,TA];split<;>simp only[TA,TN]<;>omega|some p=>obtain⟨f,g,i⟩:=h p (gV e);have d:=b ((c::cs).drop p.1.size);rw[TM]at d;simp only[TR,TA]at d⊢;rw[<-Lib.size_eq];omega
def cT{t}(a:OkT t)(s):(aS t.aw s).length<=3*s.length:=rE _ a.lets _ _
def FW(aW:List Pr2)(y:Bs):Bs:=aW.foldl (λs r=>bU r s) y
def Da{aW:List Pr2}(h:∀p∈aW,1<=p.1.size/\p.1.size<=3/\p.2.size<=p.1.size):∀(y),(FW aW y).length<=y.length:=by induction aW with|nil=>exactλy=>Tw _|cons p aW a=>intro y;have b:=a (λq c=>h q (.tail _ c)) (bU p y);have d:=jO (h p (.head _)).2.2 y;exact Tx b d
def zv(aW:List Pr2)(j)(a:j<aW.length)(y):FW (aW.drop j) y=FW (aW.drop (j+1)) (bU aW[j] y):=by rw[Vu a];rfl
def tA{t k}(a:k<t.aG.length)(s):bK t k s=FW t.aG[k].aW (aS t.aw s):=by unfold bK;rw[T2 a];rfl
def lQ{t}(a:OkT t){k}(b:k<t.aG.length)(s):(bK t k s).length<=3*s.length:=by rw[tA b];exact Tx (Da (a.aW _ (TG _)) _) (cT a s)
def Jo{K:Nat->Prop}{v0 v1 v2:Value}{t:Table}(k:Nat)(s:ByteArray)(w:World)(S:IsTable K w v0 v1 v2 t)(O:OkT t)(hs:s.size<=300)(T:k<t.aG.length):Calls (Qs fs) 65 #[.agg #[v0,v1,v2],.int .i64 k,.string s] w λe w'=>e=.returned (.string (bs (bK t k s.data.toList)))/\Below w.heap.size w w':=by
 have e54:=e54 L;have Rc:=Rc L;have n:=tA T s.data.toList;have Q:=cT O s.data.toList;rw[<-Lib.size_eq]at Q;have p:=S.stays (ae.alloc w (.cells #[v0,v1,v2] 26));have x:=aJ w (.cells #[v0,v1,v2] 26);have U:=C9 L s _ p O (by omega);have a:∀i v,(#[v0,v1,v2]:Array Value)[i]? =some v->(w.alloc (.cells #[v0,v1,v2] 26)).cell? ⟨w.heap.size,i,none⟩=some v:=λi v h=>aE w _ 26 i v h;have q:=a 0 v0 rfl;have g:=a 1 v1 rfl;have r:=a 2 v2 rfl;go_enter (n65 L),Tryz.ntmps65;go_wp2_with (go_at_call 54;refine U.mono ?_;rintro e w2 ⟨rfl,P⟩);obtain⟨w1,z⟩:=ex (w.alloc (.cells #[v0,v1,v2] 26));have hN:w.heap.size+1=w1.heap.size:=by rw[z];simp
 rw[<-z]at P p x q g r;have S2:=ae.below P;have B2:=x.trans (P.mono (by omega));obtain⟨N,D⟩:=ex (w.heap.size);rw[<-D]at q g r⊢;clear P x U a z hN D S;obtain⟨ao,c,rfl,ab,hc,_,l⟩:=p.2.1;clear p;have u:=O.aW t.aG[k] (TG _);clear O;obtain⟨B,E⟩:=ex (t.aG[k]);have F:=l k T;rw[<-E]at u n F;clear l E;obtain⟨b,ad,rfl,_,vs,A,G⟩:=F;obtain⟨af,c2,rfl,V,ag,W,d⟩:=G;go_loopw [7,8] (λo i wr=>∃(j:Nat) (y:Bs),j<=B.aW.length/\i=.int .i64 j/\o=.string (bs y)/\(bs y).size<=900/\ae w1 wr/\Below w.heap.size w wr/\FW (B.aW.drop j) y=bK t k s.data.toList) (λo i _=>B.aW.length-(intOf i).toNat);case atStart=>exact⟨0,_,TE _,rfl,rfl,by rw[cQ];omega,S2,B2,n.symm⟩
 case round=>
  obtain⟨j,y,hj,rfl,rfl,hy,f,m,C⟩:=hrel;have X:Hid _:=C;have Y:=f.cell g;have Z:=f.cell A;have HW:Hid _:=(⟨f,m⟩:ae w1 wr/\Below w.heap.size w wr)
  obtain H|hge:=Ty j B.aW.length
  .obtain⟨b2,aa,rfl,I,J⟩:=d j H;have I:=f.cell I;have J:=f.cell J;obtain⟨z1,z2,z3⟩:=u B.aW[j] (TG _);have R:=jO z3 y;rw[<-cQ,<-cQ]at R;have cR:=C8 L (bs y) B.aW[j] wr (by omega) z1 (by omega) (by omega);rw[du]at cR;clear C f m g A q r d u n;go_wp2_with (go_at_call 113;refine cR.mono ?_;rintro e w3 ⟨rfl,M⟩);refine⟨⟨j+1,_,by omega,by go_num,rfl,by omega,HW.out.1.trans (ae.below M),HW.out.2.trans (M.mono HW.out.2.size),?_⟩,by simp[intOf];omega⟩;rw[<-X.out,zv _ _ H]
  clear C f m g A q r d u n;go_wp2;go_ret;have C:=X.out;rw[T6 hge]at C;exact⟨by rw[<-C];rfl,HW.out.2⟩
def rF(l a):l.any (λs=>s.data.toList==a.data.toList)=decide (0<=lA l a):=by rw[rD];congr 1;funext q;rw[UE,Uk,TQ];exact⟨λh=>qO h,λh=>h▸rfl⟩
def fS(a:ByteArray):a.data.toList.isEmpty=decide (a.size=0):=by rw[Lib.size_eq,UE,List.isEmpty_iff,TQ,UT]
def Jp(t a b):gM t a.data.toList b.data.toList=if(∃q,∃h:q<t.bt.length,0<=lA t.bt[q] a/\0<=lA t.bt[q] b)\/(a=b/\0<a.size)then 100 else 0:=by unfold gM;congr 1;rw[eq_iff_iff,US,Uv,fS];refine or_congr ⟨?_,?_⟩ ?_;rintro⟨l,d,h⟩;obtain⟨q,c,rfl⟩:=U5.1 d;rw[rF,rF,TH,TQ,TQ]at h;exact⟨q,c,h⟩;rintro⟨q,c,h⟩;refine⟨_,TG c,?_⟩;rw[rF,rF,TH,TQ,TQ];exact h;rw[TH,Uk,Bool.not_eq_true',decide_eq_false_iff_not];exact⟨λh=>⟨qO h.1,by omega⟩,λh=>⟨h.1▸rfl,by omega⟩⟩
def ID{p:Nat->Prop}{k n}(a:∀q,q<k->q<n->¬p q)(h:¬p k):∀q,q<k+1->q<n->¬p q:=by intro q c b;obtain h1|h1:=Ty q k;exact a q h1 b;(have:q=k:=by omega);subst this;exact h
def OJ{K:Nat->Prop}{v0 v1 v2:Value}{t:Table}(a b:ByteArray)(w:World)(E:IsTable K w v0 v1 v2 t)(z:t.bt.length<=4):Calls (Qs fs) 116 #[.agg #[v0,v1,v2],.string a,.string b] w λe w'=>e=.returned (.int .i64 (gM t a.data.toList b.data.toList))/\Below w.heap.size w w':=by
 have e62:=e62 L;have r:=E.stays (ae.alloc w (.cells #[v0,v1,v2] 26));have f:=aJ w (.cells #[v0,v1,v2] 26);have n:=aE w #[v0,v1,v2] 26 2 v2 rfl;have s:Hid _:=Jp t a b;obtain⟨I,c,rfl,A,V,_,d⟩:=r.2.2;clear r E;obtain⟨m,u⟩:=ex (t.bt);rw[<-u]at A d z s f n⊢;clear u;obtain⟨w1,v⟩:=ex (w.alloc (.cells #[v0,v1,.slice I m.length c] 26));obtain⟨N,F⟩:=ex (w.heap.size);have o:∀(J:¬(a=b/\0<a.size)),True:=λ_=>trivial;by_cases k:a=b/\0<a.size
 .obtain⟨rfl,x⟩:=k;have l:=s.out;rw[Tv (.inr ⟨rfl,x⟩)]at l;have B:Hid _:=l;clear l s d;go_enter (n116 L),Tryz.ntmps116;go_wp2;go_ret;exact⟨by rw[B.out];rfl,f⟩
 have p:(a.toList==b.toList)=false\/((a.toList==b.toList)=true/\a.size=0):=by rw[j6];by_cases h:a=b;right;by_cases M:a.size=0;exact⟨by simp[h],M⟩;exact absurd ⟨h,by omega⟩ k;left;simp[h]
 have O:Hid _:=k;clear k o;have key:∀(fr:Act->Prop),True:=λ_=>trivial;clear key;obtain p|⟨p,P⟩:=p;all_goals
  go_enter (n116 L),Tryz.ntmps116;go_wp2;rw[<-v]at n f d⊢;rw[<-F]at n⊢;clear v F
  go_loop [7] (λi=>∃j:Nat,j<=m.length/\i=.int .i64 j/\∀q,q<j->q<m.length->¬∃h:q<m.length,0<=lA m[q] a/\0<=lA m[q] b) (λi=>m.length-(intOf i).toNat)
  case atStart=>exact⟨0,TE _,rfl,λq h=>absurd h (TL _)⟩
  case round=>
   obtain⟨j,W,rfl,G⟩:=hrel;have C:Hid _:=G;clear G;obtain y|hge:=Ty j m.length
   .obtain⟨X,H,rfl,Y,D,g⟩:=d j y
    rw[Ul]at D;have Q:=FT L a w1 g;have R:=FT L b w1 g;obtain⟨S,Z,rfl,_⟩:=g;clear d;go_wp2_with (first|(go_at_call 62;refine Q.mono ?_;rintro e w3 ⟨rfl,rfl⟩)|(go_at_call 62;refine R.mono ?_;rintro e w3 ⟨rfl,rfl⟩))
    .go_ret
     have l:=s.out;rw[Tv (.inl ⟨j,y,by assumption,by assumption⟩)]at l;exact⟨by rw[l];rfl,f⟩
    .exact⟨⟨j+1,by omega,by go_num,ID C.out λ⟨_,T,U⟩=>by omega⟩,by simp[intOf];omega⟩
    .exact⟨⟨j+1,by omega,by go_num,ID C.out λ⟨_,T,U⟩=>by omega⟩,by simp[intOf];omega⟩
   .clear d
    go_wp2;go_ret;have l:=s.out;rw[Tu]at l
    .exact⟨by rw[l];rfl,f⟩
    .rintro(⟨q,p,h⟩|h)
     .exact C.out q (by omega) p ⟨p,h⟩
     .exact O.out h
def RY:((Tryz.prog).info? 3).map (λi=>(i.zero,i.size,i.bytes))=some (some (.int .i64 0),1,8):=by kernel_rfl
def IE(fs):((Qs fs).info? 3).map (λi=>(i.zero,i.size,i.bytes))=some (some (.int .i64 0),1,8):=RY
def ey{base e b n:Nat}{w:World}{v xs}(h:w.ownsRow base e b v n xs):∀k,v.ownBlock=some k->base<=k:=by intro k a;obtain⟨rfl,_⟩|⟨g,cap,c,rfl,d,_⟩:=h.2;cases a;cases a;exact d
def Db{d:Type}{base e b:Nat}{w:World}{v:Value}{l:List d}{xs:List Value}{E:(Nat->Prop)->World->Nat->Nat->d->Prop}(h:w.ownsRow base e b v l.length xs) (f:∀g:Nat,(∀i,i<l.length*b->w.cell? ⟨g,i,none⟩=xs[i]?)->∀k (c:k<l.length),E (λ_=>True) w g (k*b) l[k]):aD (λ_=>True) b E w v l:=by have j:=h;obtain⟨rfl,m⟩|⟨g,cap,n,rfl,s,o,p,q,t,u⟩:=h.2;exact⟨none,0,by rw[m],by omega,by omega,.inl rfl,λk c=>by omega⟩;refine⟨_,_,rfl,p,q,.inr ?_,?_⟩;intro a e;cases e;exact⟨rfl,trivial,_,_,_,o⟩;intro k c;refine⟨g,0,rfl,?_⟩;rw[TF];exact f g (λi r=>j.cellAt i r) k c
def wm{base w v l}(h:w.ownsRow base 3 1 v l.length (l.map (Value.int .i64))):aD (λ_=>True) 1 di w v l:=Db h λg a k b=>by show w.cell? ⟨g,k*1,none⟩=_;rw[a _ (by omega)];simp[b]
def LN{K:Nat->Prop}{v0 v1:Value}{l m:List Int}(w:World)(F:aD K 1 di w v0 l)(E:aD K 1 di w v1 m)(P:l.length<=40):Calls (Qs fs) 141 #[v0,v1] w λe w'=>∃v,e=.returned v/\w'.ownsRow w.heap.size 3 1 v (bu l m).length ((bu l m).map (Value.int .i64))/\Below w.heap.size w w':=by
 have Rz:=Rz L;obtain⟨G,H,A,B,C⟩:=info_parts (IE fs);have D:=E;obtain⟨Q,c,rfl,I,R,_,f⟩:=F;obtain⟨J,c1,rfl,_⟩:=E;go_enter (n141 L),Tryz.ntmps141;go_wp2;go_loopw [5,6] (λo i wr=>∃j:Nat,j<=l.length/\i=.int .i64 j/\wr.ownsRow w.heap.size 3 1 o (bu (l.take j) m).length ((bu (l.take j) m).map (Value.int .i64))/\Below w.heap.size w wr) (λo i _=>l.length-(intOf i).toNat);case atStart=>exact⟨0,TE _,rfl,World.ownsRow_nil _ _ _ _,Below.refl _ _⟩
 case round=>
  obtain⟨j,S,rfl,d,a⟩:=hrel;obtain n|hge:=Ty j l.length
  .obtain⟨b,M,rfl,t⟩:=f j n
   rw[Ul]at t;have g:=ae.below a;have N:=g.cell t;have y:=LJ L l[j] wr (D.stays g (λb T o x e h=>by subst e;exact di.carry (Carry.keep g) b b o x rfl h));have O:(bu (l.take j) m).length<=j:=Tx (Uw _ _) (by rw[Uz];omega);cases z:m.contains l[j]with
   |true=>rw[z]at y;clear f t g D;go_wp2_with (go_at_call 167;refine y.mono ?_;rintro e w3 ⟨rfl,rfl⟩);(have k:bu (l.take (j+1)) m=bu (l.take j) m:=by unfold bu;rw[oe _ _ _ n,z];simp);exact⟨⟨j+1,by omega,by go_num,by rw[k];exact d,a⟩,by simp[intOf];omega⟩
   |false=>rw[z]at y;clear f t g D;go_wp2_with (first|(go_at_call 167;refine y.mono ?_;rintro e w3 ⟨rfl,rfl⟩)|(at_builtin;refine wpList_append_own _ rfl _ _ 36 rfl w.heap.size 3 G (.int .i64 0) 1 8 Tryz.underlying36 H A B C rfl (by decide) _ _ _ rfl (d.alloc _) ⟨_,0,none⟩ 1 1 [.int .i64 l[j]] rfl rfl ?c1 ?c2 ?c3 ?c4 ?c5 ?_));(case c1=>intro i u p;match i,p with|0,p=>simp at p;subst p;simp[Addr.add]);(case c2=>intro u p;simp at p;subst p;rfl);(case c3=>unfold maxLen;omega);(case c4=>omega);(case c5=>have:=a.size;simp;omega);(intro U w4 q r _;have k:bu (l.take (j+1)) m=bu (l.take j) m++[l[j]]:=by unfold bu;rw[oe _ _ _ n,z];simp);have s:=(a.alloc a.size (.cells #[.int .i64 l[j]] 3)).grown r (by have:=a.size;simp;omega) (ey d);go_wp2;exact⟨⟨j+1,by omega,by go_num,by rw[k,TR,Vk];exact q,s⟩,by simp[intOf];omega⟩
  go_wp2;go_ret;rw[Vt hge]at d;exact⟨_,rfl,d,a⟩
def nO(x y:List Int)(k:Nat):Nat:=((List.range k).map λ(n:Nat)=>min (aP x n) (aP y n)).sum
def wo(x y k):nO x y (k+1)=nO x y k+min (aP x k) (aP y k):=by unfold nO;rw[VK,Vk,List.sum_append];simp
def Dc(x y k):nO x y k<=k*x.length:=by induction k with|zero=>simp[nO]|succ k a=>rw[wo,Nat.succ_mul];have:aP x k<=x.length:=Uw _ _;omega
def ux(a b)(c:a≠[])(d:b≠[]):bV a b=(100*(2*(a.length-(bu a b).length)+nO (bu a b) (bu b a) 10:Nat):Int)/(a.length+b.length:Nat):=by unfold bV;rw[Tu (by simp[c,d])];rfl
def rG(a b)(h:a=[]\/b=[]):bV a b=0:=by unfold bV;rw[Tv (by rcases h with rfl|rfl<;>simp)]
def Jq{K:Nat->Prop}{v0 v1:Value}{l m:List Int}(w:World)(Q:aD K 1 di w v0 l)(R:aD K 1 di w v1 m)(I:l.length<=40)(hm:m.length<=40)(A:∀x∈l,0<=x/\x<=999)(B:∀x∈m,0<=x/\x<=999):ac fs 119 #[v0,v1] w (.int .i64 (bV l m)):=by
 have Rr:=Rr L;have Rs:=Rs L;have G:=λJ f v=>LN L (K:=K) (v0:=v0) (v1:=v1) (l:=l) (m:=m) J f v I;have H:=λJ f v=>LN L (K:=K) (v0:=v1) (v1:=v0) (l:=m) (m:=l) J f v hm;have M:=Q;have N:=R;obtain⟨ao,c,rfl,aa,hc,_,j⟩:=Q;obtain⟨ab,O,rfl,S,ad,_,g⟩:=R;clear j g;obtain n|hlp:=Ur l.length
 .have n:=UT.1 n;subst n;clear G H;go_enter (n119 L),Tryz.ntmps119;go_wp2_with fail;go_ret;exact⟨by rw[rG _ _ (.inl rfl)];rfl,Below.refl _ _⟩
 obtain p|hmp:=Ur m.length
 .have p:=UT.1 p;subst p;clear G H;go_enter (n119 L),Tryz.ntmps119;go_wp2_with fail;all_goals
   go_ret;exact⟨by rw[rG _ _ (.inr rfl)];rfl,Below.refl _ _⟩
 have T:Hid _:=ux l m (UF.1 hlp) (UF.1 hmp);have U:∀x∈bu l m,0<=x/\x<=999:=λx f=>A x (Vv.1 f).1;have V:∀x∈bu m l,0<=x/\x<=999:=λx f=>B x (Vv.1 f).1;have q:(bu l m).length<=l.length:=Uw _ _;have af:¬l=[]:=UF.1 hlp;have ag:((l.length:Int)==0)=false:=by rw[TX];omega
 have ah:¬m=[]:=UF.1 hmp;have ak:((m.length:Int)==0)=false:=by rw[TX];omega
 clear A B;have O:=G w M N;go_enter (n119 L),Tryz.ntmps119;go_wp2_with (first|(go_at_call 141;refine O.mono ?_;clear O G;rintro e w2 ⟨x,rfl,f,a⟩;have W:=H w2 (N.stays (ae.below a) (λb X o x e h=>by subst e;exact di.carry (Carry.keep (ae.below a)) b b o x rfl h)) (M.stays (ae.below a) (λb X o x e h=>by subst e;exact di.carry (Carry.keep (ae.below a)) b b o x rfl h)))|(go_at_call 141;refine W.mono ?_;clear W H;rintro e w3 ⟨y,rfl,v,r⟩));have P:=ae.below r;have C:=(wm f).stays P (λb X o x e h=>by subst e;exact di.carry (Carry.keep P) b b o x rfl h);have D:=wm v;have B3:=a.trans (r.mono a.size);clear f v a r M N P;obtain⟨xs,t⟩:=ex (bu l m);obtain⟨z,u⟩:=ex (bu m l);rw[<-t,<-u]at T;rw[<-t]at C U q;rw[<-u]at D V;clear t u;obtain⟨ax,cx,rfl,_⟩:=id C;obtain⟨ay,cy,rfl,_⟩:=id D
 go_loop [7,8] (λs i=>∃k:Nat,k<=10/\i=.int .i64 k/\s=.int .i64 (nO xs z k)) (λs i=>10-(intOf i).toNat)
 case atStart=>exact⟨0,by omega,rfl,rfl⟩
 case round=>
  obtain⟨k,hk,rfl,rfl⟩:=hrel;have E:=Dc xs z k;have Y:nO xs z k<=400:=Tx E (Tx (Nat.mul_le_mul hk (Tx q I)) (by omega));obtain an|hge:=Ty k 10
  .have Z:=wh L (k:Int) w3 C U;have cY:=wh L (k:Int) w3 D V;have ar:aP xs k<=40:=Tx (Uw _ _) (Tx q I);have d:=wo xs z k;have HS:Hid _:=d;clear d E C D;go_wp2_with (first|(go_at_call 142;refine Z.mono ?_;clear Z;rintro e w4 ⟨rfl,rfl⟩)|(go_at_call 142;refine cY.mono ?_;rintro e w4 ⟨rfl,rfl⟩));refine⟨⟨k+1,by omega,by go_num,?_⟩,by simp[intOf];omega⟩;rw[HS.out];refine T7 (Value.int .i64) ?_;split<;>omega
  have F:k=10:=by omega
  subst F;clear C D;go_wp2;go_ret;have e1:(2*((l.length:Int)-xs.length)+nO xs z 10)=((2*(l.length-xs.length)+nO xs z 10:Nat):Int):=by omega
  have e2:((l.length:Int)+m.length)=((l.length+m.length:Nat):Int):=by omega
  refine⟨?_,B3⟩;rw[T.out,<-e1,<-e2];rfl
def eZ(b):aT [] b=b.length:=P2 b
def gX(a):aT a []=a.length:=LI a
def mB(x y)(a b:Bs):aT (x::a) (y::b)=if x=y then aT a b else 1+min (aT a b) (min (aT a (y::b)) (aT (x::a) b)):=by rw[P3]
def tB:∀(n) (a b),a.length+b.length<=n->(∀x,aT a b<=aT (x::a) b+1/\aT (x::a) b<=aT a b+1)/\(∀y,aT a b<=aT a (y::b)+1/\aT a (y::b)<=aT a b+1):=by intro n;induction n with|zero=>intro a b h;have d:a=[]:=Uj (by omega);have e:b=[]:=Uj (by omega);subst d;subst e;simp[eZ,gX]|succ n c=>intro a b h;constructor;intro x;(cases b with|nil=>rw[gX,gX];simp only[TA];omega|cons y b=>simp only[TA]at h;rw[mB];have f:=(c a b (by omega)).2 y;split;omega;constructor;(have g:aT a (y::b)<=aT (x::a) b+1+1:=by have:=(c a b (by omega)).1 x;omega);omega;omega);intro y;cases a with|nil=>rw[eZ,eZ];simp only[TA];omega|cons x a=>simp only[TA]at h;rw[mB];have f:=(c a b (by omega)).1 x;split;omega;constructor;have:=(c a b (by omega)).2 y;omega;omega
def LP(x y)(a b:Bs):aT (x::a) (y::b)=min (aT a b+if x=y then 0 else 1) (min (aT a (y::b)+1) (aT (x::a) b+1)):=by have c:=(tB _ a b (Tw _)).1 x;have d:=(tB _ a b (Tw _)).2 y;rw[mB];split<;>omega
def nf(a b):aT a b<=a.length+b.length:=by induction a with|nil=>rw[eZ];simp|cons x a c=>have:=((tB _ a b (Tw _)).1 x).2;simp only[TA];omega
def Qg:((Tryz.prog).info? 36).map (λi=>(i.zero,i.size,i.bytes))=some (some (.slice none 0 0),1,24):=by kernel_rfl
def oh(N n m p:Nat)(r:Nat):Value:=if p<=r then .slice (some ⟨N+1+(n-r),0,none⟩) (m+1) (m+1)else .slice none 0 0
def yH(a b:Bs)(r q:Nat)(k:Nat):Value:=if q<=k then .int .i64 (aT (a.drop r) (b.drop k))else .int .i64 0
structure Rows(w wr:World)(a b:Bs)(p:Nat):Prop where
 outer:wr.rowIs w.heap.size 36 (a.length+1) (oh w.heap.size a.length b.length p)
 rows:∀r,p<=r->r<=a.length->wr.rowIs (w.heap.size+1+(a.length-r)) 3 (b.length+1) (yH a b r 0)
 size:wr.heap.size=w.heap.size+1+(a.length+1-p)
 below:Below w.heap.size w wr
structure vp(w wr:World)(a b:Bs)(q p:Nat):Prop where
 outer:wr.rowIs w.heap.size 36 (a.length+1) (oh w.heap.size a.length b.length q)
 rows:∀r,q<r->r<=a.length->wr.rowIs (w.heap.size+1+(a.length-r)) 3 (b.length+1) (yH a b r 0)
 row:wr.rowIs (w.heap.size+1+(a.length-q)) 3 (b.length+1) (yH a b q p)
 size:wr.heap.size=w.heap.size+1+(a.length+1-q)
 below:Below w.heap.size w wr
def vp.OK{w wr a b q}(h:vp w wr a b q 0)(d:q<=a.length):Rows w wr a b q:=
 ⟨h.outer,λr e c=>by
  obtain h3|h3:=Ty q r
  .exact h.rows r h3 c
  .have:r=q:=by omega
   subst this;exact h.row,h.size,h.below⟩
def vp.step{w wr:World}{a b:Bs}{q p:Nat}(h:vp w wr a b q (p+1))(d:q<=a.length)(f:p<=b.length):vp w (wr.setCell ⟨w.heap.size+1+(a.length-q),p,none⟩ (.int .i64 (aT (a.drop q) (b.drop p)))) a b q p where
 outer:=h.outer.setOther (by simp only[];omega) _
 rows r h1 h2:=(h.rows r h1 h2).setOther (by simp only[];omega) _
 row:=(h.row.set p _).congr λi g=>by
  unfold yH;by_cases e:i=p
  .rw[Tv e,Tv (by omega),e]
  .rw[Tu e]
   by_cases c:p<=i
   .rw[Tv (by omega),Tv c]
   .rw[Tu (by omega),Tu c]
 size:=by simp[World.setCell,h.size]
 below:=h.below.setCell (by simp only[];omega) _
def vp.drewN{w wr a b q p}(h:vp w wr a b q p)(n):vp w (wr.drewN n) a b q p:=⟨h.outer,h.rows,h.row,h.size,Go.below_drewN h.below n⟩
def Rows.next{w wr a b q}(h:Rows w wr a b (q+1))(l:q<=a.length):vp w ((wr.alloc (.cells (madeCells #[.int .i64 0] (b.length+1)) 3)).setCell ⟨w.heap.size,q,none⟩ (.slice (some ⟨wr.heap.size,0,none⟩) (b.length+1) (b.length+1))) a b q (b.length+1):=by (have d:wr.heap.size=w.heap.size+1+(a.length-q):=by rw[h.size];omega);have c:=World.rowIs_made wr (.int .i64 0) (b.length+1) 3;rw[d]at c;refine⟨((h.outer.alloc _).set q _).congr λi g=>?_,λr j k=>((h.rows r j k).alloc _).setOther (by simp only[];omega) _,((c.setOther (by simp only[];omega) _).congr λi g=>?_),?_,(h.below.alloc (by omega) _).setCell (Tw _) _⟩;unfold oh;by_cases e:i=q;rw[Tv e,Tv (by omega),e,d];rw[Tu e];by_cases f:q<=i;rw[Tv (by omega),Tv f];rw[Tu (by omega),Tu f];unfold yH;rw[Tu (by omega)];simp[World.setCell,d];omega
def Dd(a b:ByteArray)(w:World)(ha:a.size<=1000)(hb:b.size<=1000):Calls (Qs fs) 88 #[.string a,.string b] w λe w'=>e=.returned (.slice (some ⟨w.heap.size,0,none⟩) (a.size+1) (a.size+1))/\Rows w w' a.data.toList b.data.toList 0:=by
 have E:=run_make_row' (P:=Qs fs) 142 36 (.slice none 0 0) 24 Tryz.underlying142 Qg rfl .i64 .i64 (a.size+1) (by omega) (by omega);have F:=run_make_row' (P:=Qs fs) 36 3 (.int .i64 0) 8 Tryz.underlying36 (IE fs) rfl .i64 .i64 (b.size+1) (by omega) (by omega);rw[show((a.size+1:Nat):Int)=(a.size:Int)+1 by omega]at E;rw[show((b.size+1:Nat):Int)=(b.size:Int)+1 by omega]at F;have Q:=Lib.size_eq a;have R:=Lib.size_eq b;obtain⟨A,n⟩:=ex (a.data.toList);obtain⟨B,s⟩:=ex (b.data.toList);rw[<-n]at Q;rw[<-s]at R;rw[<-n,<-s];have d:Hid (a.size=A.length/\b.size=B.length):=⟨Q,R⟩
 have HG:Hid ((∀q (h:q<a.size),A.drop q=a[q]::A.drop (q+1))/\(∀q (h:q<b.size),B.drop q=b[q]::B.drop (q+1))):=⟨λq h=>by rw[n];exact drop_cons a q h,λq h=>by rw[s];exact drop_cons b q h⟩
 clear Q R n s;go_enter (n88 L),Tryz.ntmps88;go_wp2;go_loopw [6] (λi wr=>∃(p:Nat) (j:Int),p<=a.size+1/\j=(p:Int)-1/\i=.int .i64 j/\Rows w wr A B p) (λi _=>(intOf i+1).toNat);case atStart=>refine⟨a.size+1,_,Tw _,rfl,by go_num,?_⟩;have h:=World.rowIs_made w (.slice none 0 0) (a.size+1) 36;rw[d.out.1]at h⊢;refine⟨h.congr λi hi=>?_,λr h1 h2=>by omega,by simp,(aJ w _)⟩;unfold oh;rw[Tu (by omega)]
 case round=>
  obtain⟨p,G,hp,k,rfl,D⟩:=hrel;obtain rfl|hpos:=Ur p
  ·(obtain rfl:G= -1:=by omega);clear k;have HR:Hid _:=D;clear D;go_wp2;go_ret;exact⟨rfl,HR.out⟩
  obtain⟨q,rfl⟩:∃q,p=q+1:=⟨p-1,by omega⟩
  obtain rfl:G=(q:Int):=by omega
  clear k;have H:∀o,(wr.alloc o).cell? ⟨w.heap.size,q,none⟩=some (.slice none 0 0):=λo=>by rw[(D.outer.alloc o).cell (by have:=d.out.1;omega)];unfold oh;rw[Tu (by omega)]
  have I:∀o,(wr.alloc o).frozen? ⟨w.heap.size,q,none⟩=false:=λo=>(D.outer.alloc o).frozen q;have f:=D.next (by have:=d.out.1;omega);rw[<-d.out.2]at f;have O:Hid _:=f;clear f D;go_wp2;clear H I;go_loopw [7] (λi wi=>∃(z:Nat) (j:Int),z<=b.size+1/\j=(z:Int)-1/\i=.int .i64 j/\vp w wi A B q z) (λi _=>(intOf i+1).toNat);case atStart=>exact⟨b.size+1,_,Tw _,rfl,by go_num,O.out⟩
  case round=>
   clear O;obtain⟨z,G,ag,k,rfl,f⟩:=hrel;obtain rfl|hpos2:=Ur z
   ·(obtain rfl:G= -1:=by omega);clear k;have O:Hid _:=f;clear f;go_wp2;refine⟨⟨q,_,by omega,rfl,by go_num,O.out.OK (by have:=d.out.1;omega)⟩,by simp[intOf]⟩
   (obtain⟨c,rfl⟩:∃c,z=c+1:=⟨z-1,by omega⟩);(obtain rfl:G=(c:Int):=by omega);(clear k;have t:q<=A.length:=by have:=d.out.1;omega);(have u:c<=B.length:=by have:=d.out.2;omega);(have S:wr.cell? ⟨w.heap.size,q,none⟩=some (.slice (some ⟨w.heap.size+1+(A.length-q),0,none⟩) (b.size+1) (b.size+1)):=by rw[f.outer.cell (by omega)];unfold oh;rw[Tv (Tw _),d.out.2]);(have J:wr.cell? ⟨w.heap.size+1+(A.length-q),c,none⟩=some (.int .i64 0):=by rw[f.row.cell (by omega)];unfold yH;rw[Tu (by omega)]);have T:=f.row.frozen c;have l:=f.step t u;have HS:Hid _:=l;clear l;obtain⟨U,m⟩:=ex (w.heap.size+1+(A.length-q));rw[<-m]at S J T HS;obtain hqa|hqa:=Ty q a.size
   .obtain hcb|hcb:=Ty c b.size
    ·(have V:wr.cell? ⟨w.heap.size,q+1,none⟩=some (.slice (some ⟨w.heap.size+1+(A.length-(q+1)),0,none⟩) (b.size+1) (b.size+1)):=by rw[f.outer.cell (by have:=d.out.1;omega)];unfold oh;rw[Tv (by omega),d.out.2]);(have C:=f.rows (q+1) (by omega) (by have:=d.out.1;omega);have e11:wr.cell? ⟨w.heap.size+1+(A.length-(q+1)),c+1,none⟩=some (.int .i64 (aT (A.drop (q+1)) (B.drop (c+1)))):=by rw[C.cell (by have:=d.out.2;omega)];unfold yH;rw[Tv (TE _)]);(have e10:wr.cell? ⟨w.heap.size+1+(A.length-(q+1)),c,none⟩=some (.int .i64 (aT (A.drop (q+1)) (B.drop c))):=by rw[C.cell (by have:=d.out.2;omega)];unfold yH;rw[Tv (TE _)]);(have W:wr.cell? ⟨U,c+1,none⟩=some (.int .i64 (aT (A.drop q) (B.drop (c+1)))):=by rw[m,f.row.cell (by have:=d.out.2;omega)];unfold yH;rw[Tv (Tw _)]);(obtain⟨ah,x⟩:=ex (w.heap.size+1+(A.length-(q+1)));rw[<-x]at V e11 e10;have y:aT (A.drop q) (B.drop c)=min (aT (A.drop (q+1)) (B.drop (c+1))+if a[q]=b[c]then 0 else 1) (min (aT (A.drop (q+1)) (B.drop c)+1) (aT (A.drop q) (B.drop (c+1))+1)):=by have g1:=HG.out.1 q hqa;have g2:=HG.out.2 c hcb;rw[g1,g2,LP]);(have X:aT (A.drop (q+1)) (B.drop (c+1))<=2000:=Tx (nf _ _) (by rw[TM,TM];have:=d.out;omega);have Y:aT (A.drop (q+1)) (B.drop c)<=2000:=Tx (nf _ _) (by rw[TM,TM];have:=d.out;omega);have Z:aT (A.drop q) (B.drop (c+1))<=2000:=Tx (nf _ _) (by rw[TM,TM];have:=d.out;omega);rw[y]at HS;obtain⟨ak,K⟩:=ex (aT (A.drop (q+1)) (B.drop (c+1)));obtain⟨an,M⟩:=ex (aT (A.drop (q+1)) (B.drop c));obtain⟨ao,N⟩:=ex (aT (A.drop q) (B.drop (c+1)));rw[<-K]at e11 X HS;rw[<-M]at e10 Y HS;rw[<-N]at W Z HS;have ar:((q:Int)==a.size)=false:=by rw[TX];omega);(have ax:((c:Int)==b.size)=false:=by rw[TX];omega);(have af:¬(q:Int)=a.size:=by omega);clear f m x y t u C K M N;by_cases g:a[q]=b[c]
     .rw[Tv g]at HS;(have aa:((a[q].toNat:Int)!=(b[c].toNat:Int))=false:=by rw[g];simp);clear g;go_wp2;go_quiet (fail);go_wp2
      (go_region);go_wp2;refine⟨⟨c,_,by omega,rfl,by go_num,?_⟩,by simp[intOf]⟩;refine(T7 (λv=>vp w ((wr.drewN _).setCell ⟨U,c,none⟩ (Value.int .i64 v)) A B q c) ?_).mp (HS.out.drewN (nq+1));split<;>split<;>omega
     rw[Tu g]at HS;(have aa:((a[q].toNat:Int)!=(b[c].toNat:Int))=true:=by rw[UN];intro h;exact g (V7.1 (by omega)));clear g;go_wp2;go_quiet (fail);go_wp2
     (go_region);go_wp2;refine⟨⟨c,_,by omega,rfl,by go_num,?_⟩,by simp[intOf]⟩;refine(T7 (λv=>vp w ((wr.drewN _).setCell ⟨U,c,none⟩ (Value.int .i64 v)) A B q c) ?_).mp (HS.out.drewN (nq+1));split<;>split<;>omega
    (have ab:c=b.size:=by omega);(have y:aT (A.drop q) (B.drop c)=a.size-q:=by rw[T6 (by have:=d.out.2;omega:B.length<=c),gX,TM,d.out.1]);rw[y,show((a.size-q:Nat):Int)=(a.size:Int)-q by omega]at HS;subst ab;clear f m y t u;go_wp2;refine⟨⟨b.size,_,by omega,rfl,by go_num,HS.out⟩,by simp[intOf]⟩
   (have ad:q=a.size:=by omega);(have y:aT (A.drop q) (B.drop c)=b.size-c:=by rw[T6 (by have:=d.out.1;omega:A.length<=q),eZ,TM,d.out.2]);rw[y,show((b.size-c:Nat):Int)=(b.size:Int)-c by omega]at HS;subst ad;clear f m y t u;go_wp2;refine⟨⟨c,_,by omega,rfl,by go_num,HS.out⟩,by simp[intOf]⟩
def FX(a b:ByteArray)(w:World)(h:a.size<=1000)(j:b.size<=1000):ac fs 140 #[.string a,.string b] w (.int .i64 (aT a.data.toList b.data.toList)):=by have e88:=e88 L;have d:=Dd L a b w h j;go_enter (n140 L),Tryz.ntmps140;go_wp2_with (go_at_call 88;refine d.mono ?_;clear d;rintro e w2 ⟨rfl,c⟩;have f:=c.outer.cell (i:=0) (by omega);have g:=(c.rows 0 (Tw _) (TE _)).cell (i:=0) (by omega);simp only[oh,yH,TK,Tw,Ub,Nat.sub_zero]at f g;rw[<-Lib.size_eq,<-Lib.size_eq]at f;rw[<-Lib.size_eq]at g;have k:Hid _:=c.below;clear c);go_ret;exact⟨rfl,k.out⟩
def zw(a b:ByteArray):dN a.data.toList b.data.toList=if a.size=0\/b.size=0 then 0 else(100*((max a.size b.size:Nat)-(aT a.data.toList b.data.toList:Int)))/(max a.size b.size:Nat):=by unfold dN;rw[<-Lib.size_eq,<-Lib.size_eq,fS,fS];by_cases c:a.size=0<;>by_cases d:b.size=0<;>simp[c,d]
def wu:∀(n) (a b),a.length+b.length<=n->aT a b<=max a.length b.length:=by intro n;induction n with|zero=>intro a b h;have c:a=[]:=Uj (by omega);have d:b=[]:=Uj (by omega);subst c;subst d;rw[eZ];simp|succ n e=>intro a b h;cases a with|nil=>rw[eZ];omega|cons x a=>cases b with|nil=>rw[gX];omega|cons y b=>simp only[TA]at h⊢;have:=e a b (by omega);rw[mB];split<;>omega
def tC(a b:ByteArray)(w:World)(m:a.size<=1000)(n:b.size<=1000):ac fs 115 #[.string a,.string b] w (.int .i64 (dN a.data.toList b.data.toList)):=by
 have Rq:=Rq L;have j:=λo=>FX L a b o m n;have g:Hid _:=zw a b;have h:=wu _ a.data.toList b.data.toList (Tw _);rw[<-Lib.size_eq,<-Lib.size_eq]at h;obtain⟨d,l⟩:=ex (aT a.data.toList b.data.toList);rw[<-l]at j g h;clear l;obtain k|hpa:=Ur a.size
 .have f:=g.out;rw[Tv (.inl k)]at f;have c:Hid _:=f;clear f g;go_enter (n115 L),Tryz.ntmps115;go_wp2_with fail;go_ret;exact⟨by rw[c.out];rfl,Below.refl _ _⟩
 obtain k|hpb:=Ur b.size
 .have f:=g.out;rw[Tv (.inr k)]at f;have c:Hid _:=f;have p:((a.size:Int)==0)=false:=by rw[TX];omega
  clear f g;go_enter (n115 L),Tryz.ntmps115;go_wp2_with fail;all_goals
   go_ret;exact⟨by rw[c.out];rfl,Below.refl _ _⟩
 have f:=g.out;rw[Tu (by omega)]at f;have c:Hid _:=f;have p:((a.size:Int)==0)=false:=by rw[TX];omega
 have q:((b.size:Int)==0)=false:=by rw[TX];omega
 clear f g;go_enter (n115 L),Tryz.ntmps115;go_wp2_with (go_at_call 140;refine(j _).mono ?_;clear j;rintro e w2 ⟨rfl,i⟩);go_ret;exact⟨by rw[c.out,show max a.size b.size=b.size by omega];rfl,i⟩;go_ret;exact⟨by rw[c.out,show max a.size b.size=a.size by omega];rfl,i⟩
end Go.Proofs
namespace Go.Proofs
open Go.Tm Go.RowKit
structure al(w0 w1:World) where
 val:World
 st:ae w1 val
 be:Below w0.heap.size w0 val
def vP(w0 w1 w':World):Prop:=∃x:al w0 w1,w'=x.val
def vP.st{w0 w1 w'}(h:vP w0 w1 w'):ae w1 w':=by obtain⟨x,rfl⟩:=h;exact x.st
def vP.be{w0 w1 w'}(h:vP w0 w1 w'):Below w0.heap.size w0 w':=by obtain⟨x,rfl⟩:=h;exact x.be
def al.cell{w0 w1 b o v}(h:w1.cell? ⟨b,o,none⟩=some v)(x:al w0 w1):x.val.cell? ⟨b,o,none⟩=some v:=x.st.cell h
def al.calls{P f args w0 w1}{x:al w0 w1}{v}(h:Calls P f args x.val λe w'=>e=.returned v/\Below x.val.heap.size x.val w'):Calls P f args x.val λe a=>e=.returned v/\∃y:al w0 w1,a=y.val:=
 h.mono λe w' ⟨c,b⟩=>⟨c,⟨w',x.st.trans (ae.below b),x.be.trans (b.mono x.be.size)⟩,rfl⟩
def al.same{P f args w0 w1}{x:al w0 w1}{v}(h:Calls P f args x.val λe w'=>e=.returned v/\w'=x.val):Calls P f args x.val λe a=>e=.returned v/\∃y:al w0 w1,a=y.val:=
 h.mono λe w' ⟨b,c⟩=>⟨b,x,c⟩
def aO{P b Q a w w0 w1 l}(c:P.follows .mixedOrders=true)(d:Region.lexB .any l.toArray=true)(e:ae w1 w)(f:Below w0.heap.size w0 w) (h:wpQuiet P l.toArray (λw'=>∃x:al w0 w1,w'=x.val) (λg=>∀w',(∃x:al w0 w1,w'=x.val)->Q .normal g w') l a):(Code.region b l.toArray true).wp P Q a w:=
 wp_region_quiet (C:=λw'=>∃x:al w0 w1,w'=x.val) c d ⟨⟨w.drew,e,f.drew⟩,rfl⟩ (by simpa using h)
section
variable {P:Program} {md:Region.Mode} {ops:Array Oper} {C:World->Prop}
def oq(P:Program)(md:Region.Mode)(ops:Array Oper)(C:World->Prop)(n:Nat)(L:Array Bool->Act->Prop):Nat->Array Bool->Act->Prop
 |0,s,a=>L s a
 |f+1,s,a=>Region.ready md ops s≠[]/\∀i∈Region.ready md ops s,i<n/\qOp P ops C i (oq P md ops C n L f (s.setIfInBounds i true)) a
def oq.any{n g L Q}(d:∀s a w,C w->L s a->wpAny P md ops Q g s a w):∀(f) (s) (a) (w),C w->oq P md ops C n L f s a->wpAny P md ops Q (f+g) s a w:=by intro f;induction f with|zero=>intro s a w b h;rw[TF];exact d s a w b h|succ f e=>(intro s a w b h;have j:f+1+g=(f+g)+1:=by omega);rw[j];exact⟨λk=>absurd k h.1,λi l=>wpOp_of_qOp b (λm w' c o=>e _ m w' c o) (h.2 i l).2⟩
def oq.first{n i o v L}(B:ops[i]? =some o)(m:∀(j:Nat) (o) cs b,ops[j]? =some o->o.op≠ .select cs b) (I:Region.sinkB md ops n=true) (J:Region.chainB md ops n=true) (K:n<ops.size) (x:i<n) (q:∀s a,L s a->∀j∈Region.ready md ops s,n<=j):∀(f) (s) (a),HeadInv md ops n s->(∀j r,ops[j]? =some r->j≠i->s.getD j true=false->(∀e∈r.after,Region.binds md e=true->e.on≠i)->o.apart ops r=true)->i∈Region.ready md ops s->YieldsIn P ops C o v a->oq P md ops C n L f (s.setIfInBounds i true) (a.put o.dst v)->oq P md ops C n L (f+1) s a:=by intro f;induction f with|zero=>intro s a g d t A H;refine⟨WA t,λj u=>?_⟩;have l:j<n:=Wb λh=>tail_waits I J K g _ i rfl x (mem_ready.1 t).1 j (by omega) u;refine⟨l,?_⟩;by_cases c:j=i;rw[c];exact A.qOp B H;have:=q _ _ H j (ready_mono u c);omega|succ f O=>intro s a g d t A H;refine⟨WA t,λj u=>?_⟩;have l:j<n:=Wb λh=>tail_waits I J K g _ i rfl x (mem_ready.1 t).1 j (by omega) u;refine⟨l,?_⟩;by_cases c:j=i;rw[c];exact A.qOp B H;obtain⟨p,r,w,y⟩:=mem_ready.1 u;(have D:∀e∈r.after,Region.binds md e=true->e.on≠i:=λe Q R E=>by have M:=y e Q R;rw[E,getD_both (mem_ready.1 t).1]at M;cases M);have S:=qOp_put w (d j r w c p D) (λcs b=>m i o cs b B) (λcs b=>m j r cs b w) A (H.2 j (ready_mono u c)).2;refine qOp_mono (λT N=>O _ T (g.set u l) ?_ (ready_mono t (TO c)) N.1 ?_) S;intro k U V F G;refine d k U V F ?_;by_cases z:j=k;rw[<-z];exact p;rwa[getD_set_ne true z]at G;rw[Array.setIfInBounds_comm _ _ c];exact N.2
def oq.lex{n g f}(d:Region.noSelect ops=true)(r:Region.sinkB md ops n=true)(t:Region.chainB md ops n=true)(u:n<ops.size):∀(l) (k) (s) (a),(∀j,j<l.length->l[j]? =ops[k+j]?)->k+l.length=n->HeadInv md ops n s->Region.lexHead md ops g l.length k s=true->wpQuiet P ops C f l a->oq P md ops C n (λs' p=>Region.seqB md ops g n s'=true/\f p) l.length s a:=by
 intro l;induction l with
 |nil=>(intro k s a i m b c h;obtain rfl:k=n:=by simpa using m);exact⟨c,h⟩
 |cons o l w=>(intro k s a i m b c h;have e:ops[k]? =some o:=(i 0 (Vw _)).symm;rw[TA]at m;rw[TA,Region.lexHead,TH,TH]at c;have q:k∈Region.ready md ops s:=by simpa using c.1.1);(have x:qOp P ops C k (wpQuiet P ops C f l) a:=by unfold qOp;rw[e];exact h);obtain⟨v,y,z⟩:=yieldsIn_of_qOp e x;refine oq.first e (Region.noSelect_spec d) r t u (by omega) (λs' p A=>seqB_ready A.1) l.length s a b (Region.free_spec e c.1.2) q y ?_;refine w (k+1) _ _ (λj B=>?_) (by omega) (b.set q (by omega)) c.2 z;have:=i (j+1) (by rw[TA];omega);rw[show k+(j+1)=k+1+j by omega]at this;exact this
end
def aX{P u Q a w w0 w1}{l:List Oper}(n)(v:P.follows .mixedOrders=true)(i:Region.lexTailB .any l.toArray n=true) (y:ae w1 w) (z:Below w0.heap.size w0 w) (h:wpQuiet P l.toArray (λw'=>∃x:al w0 w1,w'=x.val) (λk=>∀w',(∃x:al w0 w1,w'=x.val)->wpList P l.toArray Q (l.drop n) k w') (l.take n) a):(Code.region u l.toArray true).wp P Q a w:=by
 rw[Region.lexTailB]at i;simp only[TH,TQ]at i;obtain⟨⟨⟨⟨c,o⟩,A⟩,B⟩,d⟩:=i;have D:n<l.length:=by simpa using o
 have b:(l.take n).length=n:=by rw[Uz];omega
 have e:(l.drop n).length=l.toArray.size-n:=by simp
 have f:HeadInv .any l.toArray n (Array.replicate l.toArray.size false):=⟨by simp,λj G _ p=>(by rw[getD_replicate_false]at p;cases p),λt _ E=>getD_in (by simpa using E) (getD_replicate_false _ _)⟩
 refine wp_region_any v ?_;have H:=oq.lex (md:=.any) (g:=l.toArray.size-n) (C:=λw'=>∃x:al w0 w1,w'=x.val) c A B o (l.take n) 0 _ a (λj q=>by
  have m:j<n:=by rw[b]at q;exact q
  simp[m]) (by rw[b];omega) f (by rw[b];exact d) h
 have R:=oq.any (Q:=Q) (g:=l.toArray.size-n) (λs k w' F r=>by have:=wpAny_of_seq (md:=.any) (Q':=Q) (l.drop n) n s k w' (λj=>by simp[Wc]) (by rw[e];exact r.1) (r.2 w' F);rwa[e]at this) _ _ _ _ ⟨⟨w.drew,y,z.drew⟩,rfl⟩ H;rw[b,show n+(l.toArray.size-n)=l.toArray.size by omega]at R;exact R
inductive Src(w:World)(size:Nat):Option Addr->Nat->List Value->Prop
 |nil:Src w size none 0 []
 |some (ad:Addr) (m:Nat) (news:List Value) (hl:news.length=m*size) (hc:∀j u,news[j]? =some u->w.cell? (ad.add j)=some u):Src w size (some ad) m news
section
variable {P:Program} (w:World) (base:Nat) (t ty e:TypeId) (i:TypeInfo) (z:Value) (size bytes:Nat) (ht:P.underlying t=some (.slice e)) (hi:P.info? e=some i) (hz:i.zero=some z) (hsize:i.size=size) (hby:i.bytes=bytes) (hzs:z.cells.size=size) (hsz:0<size) (v:Value) (n:Nat) (xs:List Value) (hown:w.ownsRow base e size v n xs) (A:Option Addr) (m c:Nat) (news:List Value) (hs:Src w size A m news) (h1:∀u∈news,u.oneCell'=true) (h63:n+m<=maxLen) (hbytes:(n+m)*bytes<=140737488355328) (hbase:base<=w.heap.size)
include ht hi hz hsize hby hzs hsz hown hs h1 h63 hbytes hbase
def wU:∃b w',(Builtin.append_ #[t,t] ty #[v,.slice A m c]).run P w=.ok b w'/\w'.ownsRow base e size b (n+m) (xs++news)/\w.grownBy w' v.ownBlock/\(b.ownBlock=v.ownBlock\/b.ownBlock=some w.heap.size):=by cases hs with|some ad m news f j=>obtain⟨b,w',h,k,l,_,p⟩:=run_append_own_at (P:=P) w base t ty e i z size bytes ht hi hz hsize hby hzs hsz v n xs hown ad m c news f j h1 h63 hbytes hbase;exact⟨b,w',h,k,l,p⟩|nil=>refine⟨v,w,?_,by rw[UB,UH];exact hown,World.grownBy.refl w _,.inl rfl⟩;obtain⟨rfl,_⟩|⟨g,cap,q,rfl,_,_,d,_⟩:=hown.2;simp[Builtin.append_,run_underlying ht,sizeOf,typeInfo,hi,Builtin.lenOf,Builtin.firstCells];simp[Builtin.append_,run_underlying ht,sizeOf,typeInfo,hi,Builtin.lenOf,Builtin.firstCells,d,storeCells]
end
section
variable {P:Program} {w:World} {o:Oper} {a:Act} {K:Act->World->Prop} {Q:Exit->Act->World->Prop} (s x:Operand) (t:TypeId) (ho:o.op=.call {callee:=.builtin .append,args:=#[s,x],argTypes:=#[t,t]}) (base:Nat) (e:TypeId) (i:TypeInfo) (z:Value) (size bytes:Nat) (ht:P.underlying t=some (.slice e)) (hi:P.info? e=some i) (hz:i.zero=some z) (hsize:i.size=size) (hby:i.bytes=bytes) (hzs:z.cells.size=size) (hsz:0<size) (v:Value) (n:Nat) (xs:List Value) (hsv:a.eval s=v) (hown:w.ownsRow base e size v n xs) (A:Option Addr) (m c:Nat) (news:List Value) (hxv:a.eval x=.slice A m c) (hs:Src w size A m news) (h1:∀u∈news,u.oneCell'=true) (h63:n+m<=maxLen) (hbytes:(n+m)*bytes<=140737488355328) (hbase:base<=w.heap.size)
include ho ht hi hz hsize hby hzs hsz hown hs h1 h63 hbytes hbase hsv hxv
def qf(h:∀b w',w'.ownsRow base e size b (n+m) (xs++news)->w.grownBy w' v.ownBlock->(b.ownBlock=v.ownBlock\/b.ownBlock=some w.heap.size)->K (a.put o.dst b) w'):o.wp P a w K Q:=by obtain⟨b,w',d,f,g,j⟩:=wU (P:=P) w base t o.type e i z size bytes ht hi hz hsize hby hzs hsz v n xs hown A m c news hs h1 h63 hbytes hbase;unfold Oper.wp execOp;simp only[ho,resolve,invoke,builtin,Sem.run_bind,Sem.run_pure,Result.andThen_ok,List.map_toArray,WL,List.map_nil,hsv,hxv,d];exact h b w' f g j
def et{ops:Array Oper}{rest:List Oper}(d:o.guard=none)(h:∀b w',w'.ownsRow base e size b (n+m) (xs++news)->w.grownBy w' v.ownBlock->(b.ownBlock=v.ownBlock\/b.ownBlock=some w.heap.size)->wpList P ops Q rest (a.put o.dst b) w'):wpList P ops Q (o::rest) a w:=wpList_plain d λ_ f=>qf s x t ho base e i z size bytes ht hi hz hsize hby hzs hsz v n xs hsv hown A m c news hxv hs h1 h63 hbytes hbase λb w' g j k=>f _ _ (h b w' g j k)
def bS{ops E}(d:o.guard=none)(h:∀b w',w'.ownsRow base e size b (n+m) (xs++news)->w.grownBy w' v.ownBlock->(b.ownBlock=v.ownBlock\/b.ownBlock=some w.heap.size)->K (a.put o.dst b) w'):if Region.wanted o (yielded ops a.tmps)=true then Oper.wp P o a w K Q else E:=by rw[Tv (by simp[Region.wanted,d])];exact qf s x t ho base e i z size bytes ht hi hz hsize hby hzs hsz v n xs hsv hown A m c news hxv hs h1 h63 hbytes hbase h
end
end Go.Proofs
namespace Go.Proofs
open Go.Tm Go.RowKit
variable {fs:Array Func} (L:bM fs)
def bL(K:Nat->Prop)(w:World)(mc:Array Value)(m:Mark):Prop:=∃a,mc=#[.string m.name,.string m.word,a,.int .i64 m.day,.bool m.known]/\aD K 1 di w a m.aQ
structure OkM(m:Mark):Prop where
 word:m.word.size<=16
 fig:m.aQ.length<=5
 code:∀x∈m.aQ,0<=x/\x<=999
 day:0<=m.day/\m.day<=99999
def aD.ints{K w w'}(a:ae w w'){v l}(h:aD K 1 di w v l):aD K 1 di w' v l:=h.stays a λb c o x e h=>by subst e;exact di.carry (Carry.keep a) b b o x rfl h
def zy(t one two):bI t 0 one two=dN (aS t.aw one.word.data.toList) (aS t.aw two.word.data.toList):=rfl
def fj(t:Table)(one two:Bs)(k:Nat):Int:=(List.range k).foldl (λa k=>max a (dN (bK t k one) (bK t k two))) 0
def kL(t one two k):fj t one two (k+1)=max (fj t one two k) (dN (bK t k one) (bK t k two)):=by unfold fj;rw[VK,Wa];rfl
def zA(t one two):bI t 1 one two=fj t one.word.data.toList two.word.data.toList t.aG.length:=rfl
def zB(t one two):bI t 2 one two=gM t (aS t.aw one.word.data.toList) (aS t.aw two.word.data.toList):=rfl
def zC(t one two):bI t 3 one two=dN (aS t.aw one.word.data.toList) (aS t.aw two.word.data.toList).reverse:=rfl
def zD(t one two):bI t 4 one two=pP (aS t.aw one.word.data.toList) (aS t.aw two.word.data.toList):=rfl
def zE(t k one two)(h:k≠0/\k≠1/\k≠2/\k≠3/\k≠4):bI t k one two=bV one.aQ two.aQ:=by unfold bI;simp only[Tu h.1,Tu h.2.1,Tu h.2.2.1,Tu h.2.2.2.1,Tu h.2.2.2.2]
def zF{K:Nat->Prop}{v0 v1 v2:Value}{t:Table}{m1 m2:Array Value}{one two:Mark}(kd:Int)(w:World)(ht:IsTable K w v0 v1 v2 t)(u:OkT t)(h1:bL K w m1 one)(h2:bL K w m2 two)(o1:OkM one)(o2:OkM two):Calls (Qs fs) 70 #[.agg #[v0,v1,v2],.int .i64 kd,.agg m1,.agg m2] w λe w'=>e=.returned (.int .i64 (bI t kd one two))/\Below w.heap.size w w':=by
 have e54:=e54 L;have e65:=e65 L;have Re:=Re L;have Rf:=Rf L;have Rg:=Rg L;have Oy:=Oy L;have Rh:=Rh L;obtain⟨f1,rfl,r1⟩:=h1;obtain⟨f2,rfl,r2⟩:=h2;obtain⟨N,f⟩:=ex (w.alloc (.cells #[v0,v1,v2] 26));obtain⟨wb,g⟩:=ex (N.alloc (.cells #[.string one.name,.string one.word,f1,.int .i64 one.day,.bool one.known] 38));obtain⟨w1,j⟩:=ex (wb.alloc (.cells #[.string two.name,.string two.word,f2,.int .i64 two.day,.bool two.known] 38));have Sa:ae N w1:=by rw[j,g];exact(ae.alloc _ _).trans (ae.alloc _ _)
 have Sb:ae wb w1:=by rw[j];exact ae.alloc _ _
 have S1:ae w w1:=(by rw[f];exact ae.alloc _ _:ae w N).trans Sa;have B1:Below w.heap.size w w1:=by rw[j,g,f];exact(((Below.refl _ w).alloc (Tw _) _).alloc (by simp) _).alloc (by simp;omega) _
 have z:N.heap.size=w.heap.size+1:=by rw[f];simp
 have hsb:wb.heap.size=w.heap.size+1+1:=by rw[g,<-z];simp
 have ct:∀i v,(#[v0,v1,v2]:Array Value)[i]? =some v->w1.cell? ⟨w.heap.size,i,none⟩=some v:=λi v h=>Sa.cell (by rw[f];exact aE w _ 26 i v h);have c1:∀i v,(#[.string one.name,.string one.word,f1,.int .i64 one.day,.bool one.known]:Array Value)[i]? =some v->w1.cell? ⟨w.heap.size+1,i,none⟩=some v:=λi v h=>Sb.cell (by rw[g,<-z];exact aE N _ 38 i v h);have c2:∀i v,(#[.string two.name,.string two.word,f2,.int .i64 two.day,.bool two.known]:Array Value)[i]? =some v->w1.cell? ⟨w.heap.size+1+1,i,none⟩=some v:=λi v h=>by rw[j,<-hsb];exact aE wb _ 38 i v h
 have t0:=ct 0 _ rfl;have t1:=ct 1 _ rfl;have t2:=ct 2 _ rfl;have a1:=c1 1 _ rfl;have a2:=c1 2 _ rfl;have b1:=c2 1 _ rfl;have b2:=c2 2 _ rfl;have hT:=ht.stays S1;have O:=r1.ints S1;have P:=r2.ints S1;go_enter (n70 L),Tryz.ntmps70;go_upto_region 1 with fail;rw[<-f,<-g,<-j];obtain⟨N0,h0⟩:=ex (w.heap.size);obtain⟨N1,h1⟩:=ex (w.heap.size+1);obtain⟨N2,h2⟩:=ex (w.heap.size+1+1);rw[<-h2]at b1 b2⊢;rw[<-h1]at a1 a2⊢;rw[<-h0]at t0 t1 t2⊢;have BW:Hid (Below w.heap.size w w1):=B1;clear f g j Sa Sb S1 B1 z hsb ct c1 c2 ht r1 r2 h0 h1 h2;have HT:Hid _:=hT;have Q:=cT u one.word.data.toList;have R:=cT u two.word.data.toList;rw[<-Lib.size_eq,<-cQ]at Q R;obtain⟨z1,z2,z3,z4⟩:=o1;obtain⟨y1,y2,y3,y4⟩:=o2;have cB:∀(s:ByteArray),s.size<=16->∀x:al w w1,Calls (Qs fs) 54 #[.agg #[v0,v1,v2],.string s] x.val λe w'=>e=.returned (.string (bs (aS t.aw s.data.toList)))/\∃y:al w w1,w'=y.val:=λs hs x=>al.calls (C9 L s x.val (hT.stays x.st) u (by omega));have J:=cB one.word z1;have M:=cB two.word y1;have C:=λx:al w w1=>x.cell t0;have D:=λx:al w w1=>x.cell t1;have E:=λx:al w w1=>x.cell t2;have F:=λx:al w w1=>x.cell a1;have aM:=λx:al w w1=>x.cell a2;have G:=λx:al w w1=>x.cell b1;have a6:=λx:al w w1=>x.cell b2;refine aO (w0:=w) (w1:=w1) (by kernel_rfl) (by kernel_rfl) (ae.refl _) BW.out ?_;haveI H:Nonempty (al w w1):=⟨⟨w1,ae.refl _,BW.out⟩⟩
 repeat (go_big_quiet_step (first|(go_at_call 54;exact J _)|(go_at_call 54;exact M _)))
 refine wpQuiet_nil ?_;rintro l ⟨⟨_,p,Bx⟩,rfl⟩;have r:=hT.stays p;have S:=O.ints p;have T:=P.ints p;have U:=p.cell t0;have V:=p.cell t1;have W:=p.cell t2;have X:=p.cell a1;have a8:=p.cell a2;have Y:=p.cell b1;have ba:=p.cell b2;clear J M cB C D E F aM G a6 hT O P t0 t1 t2 a1 a2 b1 b2 HT H;obtain⟨A,hA⟩:=ex (bs (aS t.aw one.word.data.toList));obtain⟨B,hB⟩:=ex (bs (aS t.aw two.word.data.toList));have Z:A.data.toList=aS t.aw one.word.data.toList:=by rw[hA,du]
 have aa:B.data.toList=aS t.aw two.word.data.toList:=by rw[hB,du]
 rw[<-hA]at Q⊢;rw[<-hB]at R⊢;have b:Hid _:=(⟨Z,aa⟩:A.data.toList=aS t.aw one.word.data.toList/\B.data.toList=aS t.aw two.word.data.toList)
 clear hA hB Z aa;have q:Hid _:=Bx;by_cases k0:kd=0
 .subst k0;have c:=tC L A B l (by omega) (by omega);go_wp2_with (go_at_call 115;refine c.mono ?_;clear c;rintro e w2 ⟨rfl,d⟩);go_ret;exact⟨by rw[zy,<-b.out.1,<-b.out.2];rfl,q.out.trans (d.mono q.out.size)⟩
 have j0:(kd==0)=false:=by rw[TX];exact k0
 by_cases k2:kd=2
 .subst k2;have c:=OJ L A B l r u.Qf;go_wp2_with (go_at_call 116;refine c.mono ?_;clear c;rintro e w2 ⟨rfl,d⟩);go_ret;exact⟨by rw[zB,<-b.out.1,<-b.out.2];rfl,q.out.trans (d.mono q.out.size)⟩
 have j2:(kd==2)=false:=by rw[TX];exact k2
 by_cases k3:kd=3
 .subst k3;have c:=LK L B l (by omega);have c':=λwy=>tC L A (bs B.data.toList.reverse) wy (by omega) (by rw[cQ,V9,<-Lib.size_eq];omega);go_wp2_with (first|(go_at_call 117;refine c.mono ?_;clear c;rintro e w2 ⟨rfl,rfl⟩)|(go_at_call 115;refine(c' _).mono ?_;clear c';rintro e w2 ⟨rfl,d⟩));go_ret;exact⟨by rw[zC,<-b.out.1,<-b.out.2,du];rfl,q.out.trans (d.mono q.out.size)⟩
 have j3:(kd==3)=false:=by rw[TX];exact k3
 by_cases k4:kd=4
 .subst k4;have c:=RV L A B l (by omega) (by omega);go_wp2_with (go_at_call 118;refine c.mono ?_;clear c;rintro e w2 ⟨rfl,rfl⟩);go_ret;exact⟨by rw[zD,<-b.out.1,<-b.out.2];rfl,q.out⟩
 have j4:(kd==4)=false:=by rw[TX];exact k4
 by_cases k1:kd=1
 .subst k1;have HR:Hid ((l.cell? ⟨N0,0,none⟩=some v0/\l.cell? ⟨N0,2,none⟩=some v2)/\l.cell? ⟨N1,1,none⟩=some (.string one.word)/\l.cell? ⟨N2,1,none⟩=some (.string two.word)):=⟨⟨U,W⟩,X,Y⟩
  clear X Y;have n1:∀k,k<t.aG.length->∀s,(bK t k s).length<=3*s.length:=λk hk s=>lQ u hk s;have ln:t.aG.length<=3:=u.wj;obtain⟨ao,c,rfl,bb,hc,a7,m⟩:=r.2.1;have HC:Hid _:=m;clear m a7;have HT:Hid _:=r;clear r S T W U;go_wp2;go_loopw [11,12] (λo i wr=>∃k:Nat,k<=t.aG.length/\i=.int .i64 k/\o=.int .i64 (fj t one.word.data.toList two.word.data.toList k)/\ae l wr/\Below w.heap.size w wr) (λo i _=>t.aG.length-(intOf i).toNat);case atStart=>exact⟨0,TE _,rfl,rfl,ae.refl _,q.out⟩
  case round=>
   (obtain⟨k,hk,rfl,rfl,a,n⟩:=hrel;have ab:=a.cell V;have HW:Hid _:=(⟨a,n⟩:ae l wr/\Below w.heap.size w wr));obtain I|hge:=Ty k t.aG.length
   .have ad:=IsTable.stays a HT.out;have af:=a.cell HR.out.1.1;have ag:=a.cell HR.out.1.2;have ah:=a.cell HR.out.2.1;have ak:=a.cell HR.out.2.2;clear a n V;have x1:=n1 k I one.word.data.toList;have x2:=n1 k I two.word.data.toList;rw[<-Lib.size_eq,<-cQ]at x1 x2;have cS:∀(s:ByteArray),s.size<=16->∀x:al w wr,Calls (Qs fs) 65 #[.agg #[v0,.slice ao t.aG.length c,v2],.int .i64 k,.string s] x.val λe w'=>e=.returned (.string (bs (bK t k s.data.toList)))/\∃y:al w wr,w'=y.val:=λs hs x=>al.calls (Jo L k s x.val (ad.stays x.st) u (by omega) I);(have J:=cS one.word z1;have M:=cS two.word y1;have q3:∀x:al w wr,Calls (Qs fs) 115 #[.string (bs (bK t k one.word.data.toList)),.string (bs (bK t k two.word.data.toList))] x.val λe w'=>e=.returned (.int .i64 (dN (bK t k one.word.data.toList) (bK t k two.word.data.toList)))/\∃y:al w wr,w'=y.val:=λx=>by have h:=al.calls (x:=x) (tC L (bs (bK t k one.word.data.toList)) (bs (bK t k two.word.data.toList)) x.val (by omega) (by omega));rw[du,du]at h;exact h);(obtain⟨sA,an⟩:=ex (bs (bK t k one.word.data.toList));obtain⟨sB,ar⟩:=ex (bs (bK t k two.word.data.toList));obtain⟨lv,ax⟩:=ex (dN (bK t k one.word.data.toList) (bK t k two.word.data.toList));have ay:Hid _:=kL t one.word.data.toList two.word.data.toList k;rw[<-an]at J q3;rw[<-ar]at M q3;rw[<-ax]at q3 ay;have C:=λx:al w wr=>x.cell af;have D:=λx:al w wr=>x.cell ab;have E:=λx:al w wr=>x.cell ag;have F:=λx:al w wr=>x.cell ah;have G:=λx:al w wr=>x.cell ak;clear cS an ar ax x1 x2 n1 ad;go_wp2;clear af ab ag ah ak;refine aO (w0:=w) (w1:=wr) (by kernel_rfl) (by kernel_rfl) (ae.refl _) HW.out.2 ?_;haveI H:Nonempty (al w wr):=⟨⟨wr,ae.refl _,HW.out.2⟩⟩);(repeat (go_big_quiet_step (first|(go_at_call 65;exact J _)|(go_at_call 65;exact M _)|(go_at_call 115;exact q3 _))));(refine wpQuiet_nil ?_;rintro wz ⟨⟨_,Sz,Bz⟩,rfl⟩;have SB:Hid _:=(⟨Sz,Bz⟩:ae wr wz/\Below w.heap.size w wz));clear J M q3 C D E F G H Sz Bz;go_wp2;refine⟨⟨k+1,by omega,by go_num,by rw[ay.out];go_num,HW.out.1.trans SB.out.1,SB.out.2⟩,by simp[intOf];omega⟩
   clear a n;(go_wp2;obtain rfl:k=t.aG.length:=by omega);go_ret;exact⟨by rw[zA];rfl,HW.out.2⟩
 have j1:(kd==1)=false:=by rw[TX];exact k1
 have c:=Jq L l S T (by omega) (by omega) z3 y3;go_wp2_with (go_at_call 119;refine c.mono ?_;clear c;rintro e w2 ⟨rfl,d⟩);go_ret;exact⟨by rw[zE _ _ _ _ ⟨k0,k1,k2,k3,k4⟩];rfl,q.out.trans (d.mono q.out.size)⟩
end Go.Proofs

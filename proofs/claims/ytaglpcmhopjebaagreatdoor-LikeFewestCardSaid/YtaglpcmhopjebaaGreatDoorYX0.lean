import Derived.Test.YtaglpcmhopjebaaGreatDoorY50
set_option linter.all false
set_option maxRecDepth 100000
set_option maxHeartbeats 20000000
namespace Go.Proofs
open Go.Tm Go.Shelf
section
variable {fs:Array Func} (L:bQ fs)
def n49:=(L 49 (by decide)).trans Tryz.func49
def e49:=λa w=>enters_of (n49 L) (by kernel_rfl) rfl a w
end
end Go.Proofs
namespace Go.Proofs
def Vm(a b)(d:a.length<=48)(e:b.length<=48)(c:b.all aX=true):eR a.length (gu a b)=0/\bP a 0 (gu a b)=b:=by have h:=j7 _ 0 a b (Rq _) c;refine Oa h.1 ?_;show(aV 0 a b).length<=96;rw[h.2];have:=jq a b;omega
end Go.Proofs
namespace Go.Proofs
open Go.Tm Go.RowKit
variable {fs:Array Func} (L:bQ fs)
def Vs{K D v1 v2 a d}(w)(E:aB K 3 (dI .u8) w v1 a)(F:aB D 3 (dI .u8) w v2 d):
 Calls (Qs fs) 49 #[v1,v2] w λe w'=>e=.returned (.bool (fv a d))/\Below w.heap.size w w':=by
 obtain⟨a1,U,rfl,G,H,_,B⟩:=E;obtain⟨V,W,rfl,I,J,_,C⟩:=F;have M:Hid _:=B;have N:Hid _:=C;clear B C;go_enter (n49 L),Tryz.ntmps49;go_wp2;go_loopw [5] (λs wr=>∃j:Nat,s=.int .i64 j/\j<=a.length/\j<=d.length/\Below w.heap.size w wr/\fv a d=fv (a.drop j) (d.drop j)) (λs _=>a.length-(intOf s).toNat)
 case atStart=>exact⟨0,rfl,RA _,RA _,Below.refl _ _,rfl⟩
 case round=>
  obtain⟨j,rfl,O,P,l,g⟩:=hrel;have i:Hid _:=l;obtain k1|k1:=Ry j a.length
  ·have Q:(j:Int)<(a.length:Int):=by omega
   obtain k2|k2:=Ry j d.length
   ·have R:(j:Int)<(d.length:Int):=by omega
    obtain⟨b,o,rfl,q,r,t⟩:=M.out j k1;obtain⟨X,o',rfl,u,v,x⟩:=N.out j k2;have S:=ae.below l;have q:=S.cell q;have r:=S.cell r;have t:=S.cell t;have u:=S.cell u;have v:=S.cell v;have x:=S.cell x;rw[SE k1,SE k2]at g;obtain⟨⟨p,k,c⟩,A⟩:∃e,e=a[j]:=⟨_,rfl⟩
    obtain⟨⟨m,n,c'⟩,h⟩:∃e,e=d[j]:=⟨_,rfl⟩
    rw[<-A,<-h]at g;rw[<-A]at q r t;rw[<-h]at u v x;simp only[]at q r t u v x;have y:Hid (fv a d=if p≠m then decide (p<m)else if k≠n then decide (k<n)else if c≠c' then decide (c<c')else fv (a.drop (j+1)) (d.drop (j+1))):=g;clear A h g S l;by_cases e1:p=m
    ·subst e1
     have b1:(p !=p)=false:=by simp
     by_cases z:k=n
     ·subst z
      have b2:(k !=k)=false:=by simp
      by_cases e3:c=c'
      ·subst e3
       have T:(c !=c)=false:=by simp
       go_wp2;go_quiet (fail);go_wp2;go_quiet (fail);go_wp2;go_quiet (fail);go_wp2;exact⟨⟨j+1,by go_num,by omega,by omega,by repeat (first|exact i.out|refine Below.fL ?_ _),by rw[y.out];simp⟩,by simp[intOf];omega⟩
      ·have T:(c !=c')=true:=by simpa using e3
       have f:Hid (fv a d=decide (c<c')):=by rw[Hid,y.out];simp[e3]
       clear e3;go_wp2;go_quiet (fail);go_wp2;go_quiet (fail);go_wp2;go_quiet (fail);go_wp2;go_quiet (fail);go_wp2;go_ret;exact⟨by rw[f.out];rfl,by repeat (first|exact i.out|refine Below.fL ?_ _)⟩
     ·have b2:(k !=n)=true:=by simpa using z
      have f:Hid (fv a d=decide (k<n)):=by rw[Hid,y.out];simp[z]
      clear z;go_wp2;go_quiet (fail);go_wp2;go_quiet (fail);go_wp2;go_quiet (fail);go_wp2;go_ret;exact⟨by rw[f.out];rfl,by repeat (first|exact i.out|refine Below.fL ?_ _)⟩
    ·have b1:(p !=m)=true:=by simpa using e1
     have f:Hid (fv a d=decide (p<m)):=by rw[Hid,y.out];simp[e1]
     clear e1;go_wp2;go_quiet (fail);go_wp2;go_quiet (fail);go_wp2;go_ret;exact⟨by rw[f.out];rfl,by repeat (first|exact i.out|refine Below.fL ?_ _)⟩
   ·have R:decide ((j:Int)<(d.length:Int))=false:=Rz (by omega)
    have f:Hid (fv a d=decide (a.length<d.length)):=by rw[Hid,g,SE k1,RY k2,Rz (by omega)];rfl
    clear g l;go_wp2;go_ret;exact⟨by rw[f.out];rfl,i.out⟩
  ·have Q:decide ((j:Int)<(a.length:Int))=false:=Rz (by omega)
   have f:Hid (fv a d=decide (a.length<d.length)):=by
    rw[Hid,g,RY k1];obtain k2|k2:=Ry j d.length
    ·rw[SE k2,RE (by omega)]
     rfl
    ·rw[RY k2,Rz (by omega)]
     rfl
   clear g l;go_wp2;go_ret;exact⟨by rw[f.out];rfl,i.out⟩
end Go.Proofs
namespace Go.Proofs
open Go.Tm Go.RowKit
theorem Vk{K w b}:∀(l:List Ed) (off:Nat),(∀k (c:k<l.length),dI .u8 K w b (off+k*3) l[k])->∀j u,(pH l)[j]? =some u->w.cell? ⟨b,off+j,none⟩=some u
 | [],_,_,j,u,h=>by simp[pH]at h
 |x::l,off,c,j,u,h=>by
  have a:=c 0 (TO _);have e:pH (x::l)=.int .i64 x.1:: .int .i64 x.2.1:: .int .u8 x.2.2::pH l:=rfl;rw[e]at h;rw[Nat.zero_mul,SM]at a
  match j,h with
  |0,h=>cases h;exact a.1
  |1,h=>cases h;exact a.2.1
  |2,h=>cases h;exact a.2.2
  |j+3,h=>
   have:=Vk l (off+3) (λk d=>by have:=c (k+1) (Nat.succ_lt_succ d);rw[show off+3+k*3=off+(k+1)*3 by omega];exact this) j u h
   rw[show off+(j+3)=off+3+j by omega];exact this
theorem Ve:∀l:List Ed,(pH l).length=l.length*3
 | []=>rfl
 |x::l=>by have e:pH (x::l)=.int .i64 x.1:: .int .i64 x.2.1:: .int .u8 x.2.2::pH l:=rfl;rw[e,Rs,Rs,Rs,Ve l,Rs];omega
def Vr{K w b off}{l:List Ed}(h:∀k (c:k<l.length),dI .u8 K w b (off+k*3) l[k]):Src w 3 (some ⟨b,off,none⟩) l.length (pH l):=.some _ _ _ (Ve l) λj u a=>by rw[dD];exact Vk l off h j u a
theorem B7:∀(l:List Ed),∀u∈pH l,u.oneCell'=true
 | [],u,h=>by simp[pH]at h
 |x::l,u,h=>by
  have e:pH (x::l)=.int .i64 x.1:: .int .i64 x.2.1:: .int .u8 x.2.2::pH l:=rfl;rw[e]at h;simp only[RX]at h;obtain rfl|rfl|rfl|h:=h
  ·rfl
  ·rfl
  ·rfl
  ·exact B7 l u h
def Vv(x y:List Ed):pH (x++y)=pH x++pH y:=by simp[pH]
def Vx(w:World)(B:Nat)(h:B<=w.heap.size):(w.alloc (.cells #[] 96)).ownsRow B 96 3 (.slice (some ⟨w.heap.size,0,none⟩) 0 0) 0 []:=⟨rfl,.inr ⟨w.heap.size,0,#[],rfl,h,Sd,Rq _,RA _,rfl,rfl⟩⟩
end Go.Proofs
namespace Go.Proofs
open Go.Tm Go.RowKit
def B8(a b:ByteArray):fT b a=fT a b:=by
 unfold fT;rw[Bool.and_comm];by_cases h:48<a.size\/48<b.size
 ·rw[Rp h,Rp h.symm]
 ·rw[Ro h,Ro λc=>h c.symm]
def Vh(b:ByteArray):bs b.data.toList=b:=rfl
def qw{a b:ByteArray}(i:a.size<=20)(j:b.size<=20)(c:fT a b=0):
 a.data.toList.all aX=true/\b.data.toList.all aX=true/\gy a b=gu a.data.toList b.data.toList/\(gy a b).length=aJ a.data.toList b.data.toList/\eW a (gy a b)=0/\ov a (gy a b)=b:=by
 have h:(a.data.toList.all aX&&b.data.toList.all aX)=true:=by
  unfold fT at c;rw[Ro (by omega)]at c;cases h:(a.data.toList.all aX&&b.data.toList.all aX)with
  |true=>rfl
  |false=>rw[h]at c;cases c
 have h:=Bool.and_eq_true_iff.1 h;have d:gy a b=gu a.data.toList b.data.toList:=Rp c;have k:=Lib.size_eq a;have sb:=Lib.size_eq b;have⟨f,g⟩:=Vm a.data.toList b.data.toList (by omega) (by omega) h.2;have e:eW a (gy a b)=0:=by rw[d];have:=Jv (x:=a.data.toList) (l:=gu a.data.toList b.data.toList) (by omega) h.1;rw[Vh]at this;rw[this];exact f
 refine⟨h.1,h.2,d,by rw[d];exact pG _ _ h.2,e,?_⟩;unfold ov;rw[Rp e,d,g,Vh]
def UG{a b:ByteArray}{l:List Ed}(g:a.size<=20)(i:b.size<=20)(j:fT a b=0)(f:eW a l=0)(k:ov a l=b):aJ a.data.toList b.data.toList<=l.length/\(l.length=aJ a.data.toList b.data.toList->fv l (gy a b)=false):=by
 obtain⟨la,lb,m,_⟩:=qw g i j;have n:=Lib.size_eq a;have d:=Jv (x:=a.data.toList) (l:=l) (by omega) la;rw[Vh,f]at d;have e:=k;unfold ov at e;rw[Rp f]at e;have c:bP a.data.toList 0 l=b.data.toList:=by rw[<-e,bY]
 exact⟨OO d.symm c,λh=>by rw[m];exact least d.symm c h⟩
def Vp{a b:ByteArray}(c:a.size<=20)(d:b.size<=20)(e:fT a b=0)(j:Nat)(i:j<(gy a b).length)(f:eW a ((gy a b).take j++(gy a b).drop (j+1))=0):ov a ((gy a b).take j++(gy a b).drop (j+1))≠b:=λg=>by have h:=(UG c d e f g).1;have k:=(qw c d e).2.2.2.1;rw[RM,R9,RI]at h;omega
def Vi{fs}(L:bQ fs)(a b:ByteArray)(w)(i:a.size<=20)(j:b.size<=20):
 Calls (Qs fs) 29 #[.string a,.string b] w λe w'=>∃ao c,e=.returned (.tuple #[.slice ao (gy a b).length c,.int .i64 (fT a b)])/\aB (λ_=>True) 3 (dI .u8) w' (.slice ao (gy a b).length c) (gy a b)/\Below w.heap.size w w':=
 (A4 L a b w (by omega) (by omega)).mono λe w' ⟨v,f,g,h⟩=>by have d:=tz g;obtain⟨ao,c,rfl,_⟩:=id d;exact⟨ao,c,f,d,h⟩
def Vj{a b:ByteArray}(d:a.size<=20)(e:b.size<=20)(c:fT a b≠0):fT a b=3/\gy a b=[]:=by
 refine⟨?_,Ro c⟩;unfold fT at c⊢;rw[Ro (by omega)]at c⊢;split at c
 ·exact absurd rfl c
 ·rename_i h;rw[Ro h]
def Vn{K v l}(a b w)(bm:aB K 3 (dI .u8) w v l)(bx:gi w)(bA:jD w):
 Calls (Qs FM) 14 #[.string a,.string b,v] w λe w'=>(e=.returned (.bool true)/\Below w.heap.size w w')\/∃v L,e=.panicked (jo v)/\dN w' v L:=by
 have L:=iP;have e17:∀(a:Array Value) (w:World),(callFunc 17 a).run (Qs FM) w=.ok (.enter 17 a) w:=e17 L;have e29:=e29 L;have e47:=e47 L;have e49:=e49 L;have qs:=λw2 (d:Below w.heap.size w w2)=>NK w2 (bA.stays (ae.below d) d.size);have H:=bm;obtain⟨ao,cp,rfl,dy,ea,eb,f⟩:=bm;have HS:Hid _:=qs;have fin:Hid (∀(w2:World),Below w.heap.size w w2->∀e w',((e=Ending.returned (.bool true)/\Below w2.heap.size w2 w')\/∃v L,e=.panicked (jo v)/\dN w' v L)->(e=.returned (.bool true)/\Below w.heap.size w w')\/∃v L,e=.panicked (jo v)/\dN w' v L):=λw2 d e w' h=>h.imp (λ⟨h1,h2⟩=>⟨h1,d.trans (h2.mono d.size)⟩) id
 by_cases cb:20<a.size\/20<b.size\/96<l.length
 ·have q:=qs w (Below.refl _ _)
  clear H bx bA f qs;have hg:∃g1 g2 g3:Bool,decide ((20:Int)<(a.size:Int))=g1/\decide ((20:Int)<(b.size:Int))=g2/\decide ((96:Int)<(l.length:Int))=g3/\(g1||g2||g3)=true:=⟨_,_,_,rfl,rfl,rfl,by simp;omega⟩
  obtain⟨g1,g2,g3,h1,h2,h3,hg⟩:=hg;clear cb;rcases g1 with _|_<;>rcases g2 with _|_<;>rcases g3 with _|_<;>first|(simp at hg;done)|skip
  all_goals
   clear hg;go_enter (n14 L),Tryz.ntmps14;go_wp2_with fail
   refine q.mono ?_;rintro e w2 (⟨rfl,d⟩|⟨v,L',rfl,E⟩)
   ·have HB:Hid _:=d
    clear d q;go_wp2;go_ret;exact .inl ⟨rfl,HB.out⟩
   ·have N:Hid _:=E
    clear E;exact er rfl (.inr ⟨v,L',rfl,N.out⟩)
 have g1:decide ((20:Int)<(a.size:Int))=false:=Rz (by omega);have g2:decide ((20:Int)<(b.size:Int))=false:=Rz (by omega);have g3:decide ((96:Int)<(l.length:Int))=false:=Rz (by omega);have ha:a.size<=20:=by omega
 have d:b.size<=20:=by omega
 have p:=Vi L a b w ha d;have c:=λwx=>Vi L b a wx d ha;rw[B8]at c;have cc:Hid (a.size<=20/\b.size<=20/\l.length<=96):=⟨ha,d,by omega⟩
 have cd:=λK v l a (ha:a.size<1000000) wx (hw:Below w.heap.size w wx) (h:aB K 3 (dI .u8) wx v l)=>NM L (K:=K) (v:=v) (l:=l) a wx h ha (bx.below hw);have HA:Hid _:=cd;have HR:Hid (∀wx,Below w.heap.size w wx->aB K 3 (dI .u8) wx (.slice ao l.length cp) l):=λwx d=>H.stays (ae.below d) λx y o z e h=>by subst e;exact h.keep (ae.below d)
 clear bx bA f qs H cb cd;by_cases E:fT a b=0
 ·have N:Hid _:=qw ha d E
  have cf:Hid _:=qw d ha (by rw[B8];exact E);have hn:(gy b a).length=(gy a b).length:=by rw[N.out.2.2.2.1,cf.out.2.2.2.1,DX]
  have hx:=N.out.2.2.2.2;have bB:=jq a.data.toList b.data.toList;rw[<-N.out.2.2.2.1,<-Lib.size_eq,<-Lib.size_eq]at bB;have ck:(((gy a b).length:Int)==0)=decide (a=b):=by
   rw[N.out.2.2.2.1];by_cases h:a=b
   ·subst h
    rw[zC,RE rfl];rfl
   ·rw[Rz h,R2]
    intro h0;have:=qo _ _ (Int.ofNat.inj h0);exact h (by rw[<-Vh a,<-Vh b,this])
  rw[hn]at c;rw[E]at p c;obtain⟨X,hX⟩:=ex (gy a b);obtain⟨Y,hY⟩:=ex (gy b a);rw[<-hX]at p c hx bB ck;rw[<-hY]at c;have HX:Hid _:=hX;have HW:Hid (∀j (hj:j<X.length),eW a (X.take j++X.drop (j+1))=0->ov a (X.take j++X.drop (j+1))≠b):=by rw[hX];exact Vp ha d E
  have HO:Hid (eW a l=0->ov a l=b->X.length<=l.length/\(l.length=X.length->fv l X=false)):=λh1 h2=>by rw[hX,N.out.2.2.2.1];rw[<-N.out.2.2.2.1];have:=UG ha d E h1 h2;rw[<-N.out.2.2.2.1]at this;exact this
  clear hX hY hn E N cf;go_enter (n14 L),Tryz.ntmps14;go_upto_region 7 with(first
   |(go_at_call 29;refine p.mono ?_;clear p;rintro e w2 ⟨a1,c1,rfl,cl,B2⟩;have c:=c w2)
   |(go_at_call 29;refine c.mono ?_;clear c;rintro e w3 ⟨a2,c2,rfl,cM,J⟩))
  have B3:Below w.heap.size w w3:=B2.trans (J.mono B2.size);have bC:aB (λ_=>True) 3 (dI .u8) w3 (.slice a1 X.length c1) X:=cl.stays (ae.below J) λx y o z e h=>by subst e;exact h.keep (ae.below J)
  have ay:=HA.out _ _ X a (by omega) w3 B3 bC;rw[hx.1,hx.2]at ay;have cR:Hid (aB (λ_=>True) 3 (dI .u8) w3 (.slice a1 X.length c1) X):=bC;have cm:Hid _:=B3;have hq:((!decide (a=b))==(a.toList==b.toList))=false:=by rw[qu];cases decide (a=b)<;>rfl
  have cn:decide (max (a.size:Int) (b.size:Int)<(X.length:Int))=false:=Rz (by omega);have HQ:Hid _:=hq;clear cl cM bC B2 J B3 hx;go_upto_region 10 with(first
   |(go_at_call 47;refine ay.mono ?_;clear ay;rintro e w4 ⟨rfl,ar⟩))
  ·rename_i h
   exfalso;have h2:=qu a b;by_cases cq:a=b
   ·subst cq
    simp at h
   ·simp[cq]at h h2
    exact h2 h
  have B4:Below w.heap.size w w4:=cm.out.trans (ar.mono cm.out.size);have cr:Hid _:=B4;have aM:=HA.out _ _ l a (by omega) w4 B4 (HR.out w4 B4);have cS:Hid (aB (λ_=>True) 3 (dI .u8) w4 (.slice a1 X.length c1) X):=cR.out.stays (ae.below ar) λx y o z e h=>by subst e;exact h.keep (ae.below ar)
  have ds:X.length<=20:=by omega
  clear ar B4 ck bB cn hq;obtain⟨F2,cu⟩:=ex (eW a l);obtain⟨S2,cv⟩:=ex (ov a l);have b0:=HO.out;rw[<-cu,<-cv]at aM b0;have cU:Hid _:=b0;clear cu cv b0;go_upto_region 11 with(first
   |(go_at_call 47;refine aM.mono ?_;clear aM;rintro e w5 ⟨rfl,a6⟩))
  have B5:Hid (Below w.heap.size w w5):=cr.out.trans (a6.mono cr.out.size);have cw:Hid (aB (λ_=>True) 3 (dI .u8) w5 (.slice a1 X.length c1) X):=cS.out.stays (ae.below a6) λx y o z e h=>by subst e;exact h.keep (ae.below a6)
  clear a6;go_cut [134]from 13 (λcx wx=>cx=.bool false/\Below w.heap.size w wx/\Below w5.heap.size w5 wx)
  case first=>
   by_cases hF:F2=0
   ·subst hF
    by_cases hS:S2=b
    ·subst hS
     have o:=cU.out rfl rfl;have o1:decide ((l.length:Int)<(X.length:Int))=false:=Rz (by omega);have o3:X.length<=l.length:=o.1;have o4:decide (l.length<X.length)=false:=Rz (by omega);have O4:Hid _:=o4;have ec:(S2.toList==S2.toList)=true:=by rw[qu];simp
     by_cases hl:l.length=X.length
     ·have b1:=Vs L w5 (HR.out w5 B5.out) cw.out
      rw[o.2 hl]at b1;have o2:((l.length:Int)==(X.length:Int))=true:=by rw[hl];simp
      clear o hl;go_wp2_with (first|(go_at_call 49;refine b1.mono ?_;clear b1;rintro e w6 ⟨rfl,ax⟩;have r:Hid _:=ax;clear ax))
      go_meet;exact⟨rfl,B5.out.trans (r.out.mono B5.out.size),r.out⟩
     ·have o2:((l.length:Int)==(X.length:Int))=false:=by rw[R2];omega
      clear o hl;go_wp2;go_meet;exact⟨by first|rfl|(rw[O4.out];rfl)|(rw[hS'];rfl),B5.out,Below.refl _ _⟩
    ·have hS':(S2.toList==b.toList)=false:=by rw[qu];exact Rz hS
     clear hS;go_wp2;go_meet;exact⟨by first|rfl|(rw[O4.out];rfl)|(rw[hS'];rfl),B5.out,Below.refl _ _⟩
   ·have cy:(F2==0)=false:=by simpa using hF
    clear hF;go_wp2;go_meet;exact⟨by first|rfl|(rw[O4.out];rfl)|(rw[hS'];rfl),B5.out,Below.refl _ _⟩
  case rest=>
   obtain⟨rfl,t,ax⟩:=hcut;have cV:Hid (aB (λ_=>True) 3 (dI .u8) wc (.slice a1 X.length c1) X):=cw.out.stays (ae.below ax) λx y o z e h=>by subst e;exact h.keep (ae.below ax)
   have r:Hid _:=t;clear t ax;go_wp2;go_loopw [14] (λs wr=>∃j:Nat,s=.int .i64 j/\j<=X.length/\Below wc.heap.size wc wr) (λs _=>X.length-(intOf s).toNat)
   case atStart=>exact⟨0,rfl,RA _,Below.refl _ _⟩
   case round=>
    obtain⟨j,rfl,hj,b2⟩:=hrel;have b3:Hid _:=b2;obtain b4|hge:=Ry j X.length
    ·have cX:(j:Int)<(X.length:Int):=by omega
     obtain⟨ed,ee,he,cY,c0,_,f⟩:=cV.out;cases he;obtain⟨O,off,rfl,_⟩:=f j b4;have Q:∀k (hk:k<X.length),dI .u8 (λ_=>True) wc O (off+k*3) X[k]:=λk hk=>by obtain⟨b',dt,e,h⟩:=f k hk;cases e;exact h
     have cz:Hid _:=Q;have cA:Hid (X.length<=c1/\c1<=9223372036854775807):=⟨cY,c0⟩
     obtain⟨Z,hZ⟩:=ex (X.take j++X.drop (j+1));have b5:Hid _:=hZ;have ef:j<=c1:=by omega
     have eg:j+1<=X.length:=b4;have dw:(j:Int)+1<=(X.length:Int):=by omega
     have ei:IntKind.i64.wrap ((j:Int)+1)=(j:Int)+1:=wrap_i64 _ (by omega);clear b2 f Q hZ;go_upto_region 16 with fail;refine wp_region_any (by kernel_rfl) ?_;obtain⟨WZ,b6⟩:=ex (wr.drew);rw[show({heap:=wr.heap,tape:=wr.tape,drawn:=wr.drawn+1,os:=wr.os,output:=wr.output}:World)=WZ from b6.symm];have HZ:Hid (Below wc.heap.size wc WZ):=by rw[b6];exact b3.out.drew
     obtain⟨B0,cB⟩:=ex (WZ.heap.size);obtain⟨SS,cC⟩:=ex (ov a Z);obtain⟨FF,cD⟩:=ex (eW a Z);have a7:Hid (SS=ov a Z/\FF=eW a Z):=⟨cC,cD⟩
     have m:Hid _:=cB;have c5:Below B0 WZ WZ:=Below.refl _ _;obtain⟨i0,hi,bo,br,bs⟩:=info_parts (Ln FM);have c6:Hid (Z.length=j+(X.length-(j+1))):=by rw[b5.out,Hid,RM,R9,RI];omega
     have c7:Hid (∀W,Below WZ.heap.size WZ W->Src W 3 (some ⟨O,off,none⟩) j (pH (X.take j))):=λW hw=>by
      have S:=(ae.below HZ.out).trans (ae.below hw);have:=Vr (K:=λ_=>True) (w:=W) (b:=O) (off:=off) (l:=X.take j) λk hk=>by rw[List.getElem_take];exact(cz.out k (by rw[R9]at hk;omega)).keep S
      rwa[R9,Up (by omega)]at this
     have c8:Hid (∀W,Below WZ.heap.size WZ W->Src W 3 (if c1=j+1 then some ⟨O,off,none⟩else some ⟨O,off+(j+1)*3,none⟩) (X.length-(j+1)) (pH (X.drop (j+1)))):=λW hw=>by
      have S:=(ae.below HZ.out).trans (ae.below hw);split
      ·rename_i hc
       have e:X.drop (j+1)=[]:=RY (by have:=cA.out;omega);rw[e,show X.length-(j+1)=0 by have:=cA.out;omega];exact .some _ _ _ rfl λq u h=>by simp[pH]at h
      ·have:=Vr (K:=λ_=>True) (w:=W) (b:=O) (off:=off+(j+1)*3) (l:=X.drop (j+1)) λk hk=>by rw[List.getElem_drop,show off+(j+1)*3+k*3=off+(j+1+k)*3 by omega];exact(cz.out (j+1+k) (by rw[RI]at hk;omega)).keep S
       rwa[RI]at this
     clear b6 cC cD cB;refine jV (I:=λs A0 W=>∃a8 ba R T A U V aa B ab ad af ag C ak al an:Value,A0=⟨#[.string a,.string b,.slice ao l.length cp,undef,undef,undef,u6,.slice (some ⟨O,off,none⟩) X.length c1,.int .i64 0,.slice a2 X.length c2,.int .i64 0,a8,ba,u13,.int .i64 j,u15,u16,u17,u18,u19,u20,u21,u22,u23,u24,u25,u26,u27,u28,u29,u30,u31,u32,u33,u34,u35,u36,u37,u38,u39,u40,u41,u42,u43,u44,u45,u46,u47,u48,u49,u50,u51,u52,u53,u54,u55,u56,u57,u58,u59,u60,u61,u62,u63,u64,u65,u66,u67,u68,u69,u70,u71,u72,u73,u74,u75,u76,u77,u78,u79,u80,u81,u82,u83,u84,u85,u86,u87,u88,u89,u90,u91,u92,u93,u94,u95,u96,u97,u98,u99,u100,u101,u102,u103,u104,u105,u106,u107,u108,u109,u110,u111,u112,u113,u114,u115,u116,u117,u118,u119,u120,u121,u122,u123,u124,u125,u126,u127,u128,u129,u130,u131,u132,u133,.bool false,.int .i64 j,.slice (some ⟨O,off,none⟩) X.length c1,.int .i64 X.length,.bool true,u139,u140,R,T,A,U,V,aa,B,ab,ad,af,ag,C,ak,al,an,u156,u157,u158,u159,u160,u161,u162,u163],[]⟩/\s.size=17/\Below B0 WZ W/\Agr s 0 [T,A,U,V,aa,B,ab,ad,af,ag,C,ak,R,al,an,a8,ba] [.string a,A,.slice (some ⟨O,off,none⟩) X.length c1,.int .i64 j,.slice (some ⟨O,off,none⟩) j c1,B,.slice (some ⟨O,off,none⟩) X.length c1,.int .i64 j,.int .i64 ((j:Int)+1),.slice (if c1=j+1 then some ⟨O,off,none⟩else some ⟨O,off+(j+1)*3,none⟩) (X.length-(j+1)) (c1-(j+1)),C,.tuple #[.string SS,.int .i64 FF],.tuple #[.string SS,.int .i64 FF],.string SS,.int .i64 FF,.string SS,.int .i64 FF]/\∃st:Nat,s.getD 1 false=decide (1<=st)/\s.getD 5 false=decide (2<=st)/\s.getD 10 false=decide (3<=st)/\s.getD 11 false=decide (4<=st)/\(st=1->W.ownsRow B0 96 3 A 0 [])/\(st=2->W.ownsRow B0 96 3 B j (pH (X.take j)))/\(st=3->W.ownsRow B0 96 3 C Z.length (pH Z))) ?step ?fin _ _ _ _ (by simp) ?start;case start=>exact⟨_,_,_,_,_,_,_,_,_,_,_,_,_,_,_,_,_,rfl,by simp,c5,Agr.start rfl,0,by simp,by simp,by simp,by simp,(λh=>by cases h),(λh=>by cases h),λh=>by cases h⟩
     case fin=>
      rintro s a0 W ⟨a8,ba,R,T,A,U,V,aa,B,ab,ad,af,ag,C,ak,al,an,rfl,n,t,hA,st,s1,s5,F,M,o1,o5,bd⟩ hr;have D:=λk (hk:k<17)=>lU n (by kernel_rfl) hr (k+1) k (To k) hk;obtain⟨k0,k1,k2,k3,k4,k5,k6,k7,k8,k9,c9,dc,dd,dp,dr,cF,cG,_⟩:=hA;obtain rfl:=cF (D 15 (by decide));obtain rfl:=cG (D 16 (by decide));have cH:Hid _:=t;have b7:FF=0->SS≠b:=by rw[a7.out.1,a7.out.2,b5.out];exact HW.out j b4
      clear D k0 k1 k2 k3 k4 k5 k6 k7 k8 k9 c9 dc dd dp dr cF cG hr n t s1 s5 F M o1 o5 bd;by_cases hF:FF=0
      ·have hS':(SS.toList==b.toList)=false:=by rw[qu];exact Rz (b7 hF)
       have cy:(FF==0)=true:=by simpa using hF
       clear b7 hF;go_wp2;exact⟨⟨j+1,by go_num,by omega,HZ.out.trans (cH.out.mono (by have:=m.out;have:=HZ.out.size;omega))⟩,by simp[intOf];omega⟩
      ·have cy:(FF==0)=false:=by simpa using hF
       clear b7 hF;go_wp2;exact⟨⟨j+1,by go_num,by omega,HZ.out.trans (cH.out.mono (by have:=m.out;have:=HZ.out.size;omega))⟩,by simp[intOf];omega⟩
     case step=>
      rintro s a0 W i ⟨a8,ba,R,T,A,U,V,aa,B,ab,ad,af,ag,C,ak,al,an,rfl,n,t,hA,st,s1,s5,F,M,o1,o5,bd⟩ hr;obtain⟨bk,o,ho,g⟩:=mem_ready.1 hr;have hi:i<17:=(Rx.1 ho).1;clear hr;obtain rfl|rfl|rfl|rfl|rfl|rfl|rfl|rfl|rfl|rfl|rfl|rfl|rfl|rfl|rfl|rfl|rfl:i=1\/i=5\/i=10\/i=11\/i=0\/i=2\/i=3\/i=4\/i=6\/i=7\/i=8\/i=9\/i=12\/i=13\/i=14\/i=15\/i=16:=by omega
      all_goals
       obtain rfl:=RU ho;clear ho hi
       (try (have e:=hA.dep g 0 rfl rfl;(conv at e=>lhs;whnf);(conv at e=>rhs;whnf);subst e))
       (try (have e:=hA.dep g 1 rfl rfl;(conv at e=>lhs;whnf);(conv at e=>rhs;whnf);subst e))
       refine wpOp_step rfl λK' cI=>?_;have HK:Hid (∀a w,_->K' a w):=cI;clear cI
      ·have b8:¬1<=st:=λh=>fE bk (s1.trans (RE h))
       obtain rfl:st=0:=by omega
       clear g;go_simp;exact HK.out _ _ ⟨_,_,_,_,_,_,_,_,_,_,_,_,_,_,_,_,_,rfl,by rw[R3];exact n,t.alloc (Rr (Tk m.out) t.size) _,hA.EZ _ _,1,(eD (by rw[n];decide)).trans rfl,(getD_set_ne false (by decide)).trans (s5.trans rfl),(getD_set_ne false (by decide)).trans (F.trans rfl),(getD_set_ne false (by decide)).trans (M.trans rfl),(λ_=>Vx _ _ (Rr (Tk m.out) t.size)),(λh=>absurd h (by decide)),(λh=>absurd h (by decide))⟩
      ·have b8:¬2<=st:=λh=>fE bk (s5.trans (RE h))
       have hd:1<=st:=Su (s1.symm.trans (g ⟨1,.data⟩ (by simp) rfl));obtain rfl:st=1:=by omega
       refine bO (P:=Qs FM) (.tmp 143) (.tmp 146) 53 (by rfl) B0 96 i0 (.agg #[.int .i64 0,.int .i64 0,.int .u8 0]) 3 24 Tryz.underlying53 hi bo br bs rfl (by decide) _ 0 [] (by rfl) (o1 rfl) (some ⟨O,off,none⟩) j c1 (pH (X.take j)) (by rfl) (c7.out W (by rw[<-m.out];exact t)) (B7 _) (by unfold maxLen;omega) (by omega) (Rr (Tk m.out) t.size) (by rfl) ?_;intro v' W' G ca _;rw[RB,Tc]at G;exact HK.out _ _ ⟨_,_,_,_,_,_,_,_,_,_,_,_,_,_,_,_,_,rfl,by rw[R3];exact n,t.grown ca (Rr (Tk m.out) t.size) (dP (o1 rfl)),hA.EZ _ _,2,(getD_set_ne false (by decide)).trans (s1.trans rfl),(eD (by rw[n];decide)).trans rfl,(getD_set_ne false (by decide)).trans (F.trans rfl),(getD_set_ne false (by decide)).trans (M.trans rfl),(λh=>absurd h (by decide)),(λ_=>G),(λh=>absurd h (by decide))⟩
      ·have b8:¬3<=st:=λh=>fE bk (F.trans (RE h))
       have hd:2<=st:=Su (s5.symm.trans (g ⟨5,.data⟩ (by simp) rfl));obtain rfl:st=2:=by omega
       refine bO (P:=Qs FM) (.tmp 147) (.tmp 151) 53 (by rfl) B0 96 i0 (.agg #[.int .i64 0,.int .i64 0,.int .u8 0]) 3 24 Tryz.underlying53 hi bo br bs rfl (by decide) _ j _ (by rfl) (o5 rfl) _ (X.length-(j+1)) (c1-(j+1)) (pH (X.drop (j+1))) (by rfl) (c8.out W (by rw[<-m.out];exact t)) (B7 _) (by unfold maxLen;omega) (by omega) (Rr (Tk m.out) t.size) (by rfl) ?_;intro v' W' G ca _;rw[<-Vv,<-b5.out,<-c6.out]at G;exact HK.out _ _ ⟨_,_,_,_,_,_,_,_,_,_,_,_,_,_,_,_,_,rfl,by rw[R3];exact n,t.grown ca (Rr (Tk m.out) t.size) (dP (o5 rfl)),hA.EZ _ _,3,(getD_set_ne false (by decide)).trans (s1.trans rfl),(getD_set_ne false (by decide)).trans (s5.trans rfl),(eD (by rw[n];decide)).trans rfl,(getD_set_ne false (by decide)).trans (M.trans rfl),(λh=>absurd h (by decide)),(λh=>absurd h (by decide)),(λ_=>G)⟩
      ·have b8:¬4<=st:=λh=>fE bk (M.trans (RE h))
       have hd:3<=st:=Su (F.symm.trans (g ⟨10,.data⟩ (by simp) rfl));obtain rfl:st=3:=by omega
       have q:=HA.out _ _ Z a (by have:=cc.out;omega) W ((r.out.trans (HZ.out.mono r.out.size)).trans (t.mono (by have:=m.out;have:=HZ.out.size;have:=r.out.size;omega))) (tz (bd rfl));rw[<-a7.out.1,<-a7.out.2]at q;clear g;go_simp;go_at_call 47
       refine q.mono ?_;rintro e w4 ⟨rfl,ar⟩;dsimp only;exact HK.out _ _ ⟨_,_,_,_,_,_,_,_,_,_,_,_,_,_,_,_,_,rfl,by rw[R3];exact n,t.trans (ar.mono (Rr (Tk m.out) t.size)),hA.set _,4,(getD_set_ne false (by decide)).trans (s1.trans rfl),(getD_set_ne false (by decide)).trans (s5.trans rfl),(getD_set_ne false (by decide)).trans (F.trans rfl),(eD (by rw[n];decide)).trans rfl,(λh=>absurd h (by decide)),(λh=>absurd h (by decide)),(λh=>absurd h (by decide))⟩
      all_goals
       clear g;go_simp;exact HK.out _ _ ⟨_,_,_,_,_,_,_,_,_,_,_,_,_,_,_,_,_,rfl,by rw[R3];exact n,t,hA.set _,st,(getD_set_ne false (by decide)).trans s1,(getD_set_ne false (by decide)).trans s5,(getD_set_ne false (by decide)).trans F,(getD_set_ne false (by decide)).trans M,o1,o5,bd⟩
    ·have cX:decide ((j:Int)<(X.length:Int))=false:=Rz (by omega)
     clear b2;have q:=HS.out wr (r.out.trans (b3.out.mono r.out.size));have cK:Hid (Below w.heap.size w wr):=r.out.trans (b3.out.mono r.out.size);go_wp2_with fail
     refine q.mono ?_;rintro e w9 (⟨rfl,d⟩|⟨v,L',rfl,E⟩)
     ·have HB:Hid _:=d
      clear d q;go_wp2;go_ret;exact .inl ⟨rfl,cK.out.trans (HB.out.mono cK.out.size)⟩
     ·have N:Hid _:=E
      clear E;exact er rfl (.inr ⟨v,L',rfl,N.out⟩)
 ·obtain⟨h3,hE⟩:=Vj ha d E
  have cL:gy b a=[]:=(Vj d ha (by rw[B8];exact E)).2;rw[h3,hE]at p;rw[h3,cL]at c;clear E h3 hE cL HA HR cc;go_enter (n14 L),Tryz.ntmps14;go_wp2_with (first
   |(go_at_call 29;refine p.mono ?_;clear p;rintro e w2 ⟨a1,c1,rfl,_,B2⟩;have c:=c w2)
   |(go_at_call 29;refine c.mono ?_;clear c;rintro e w3 ⟨a2,c2,rfl,_,J⟩;have B3:Hid (Below w.heap.size w w3):=B2.trans (J.mono B2.size);have q:=HS.out w3 B3.out;clear B2 J))
  refine q.mono ?_;rintro e w9 (⟨rfl,d⟩|⟨v,L',rfl,E⟩)
  ·have HB:Hid _:=d
   clear d q;go_wp2;go_ret;exact .inl ⟨rfl,B3.out.trans (HB.out.mono B3.out.size)⟩
  ·have N:Hid _:=E
   clear E;exact er rfl (.inr ⟨v,L',rfl,N.out⟩)
end Go.Proofs

import Derived.Test.YtaglpcmhopjebaaGreatDoorQ30
set_option linter.all false
set_option maxRecDepth 100000
set_option maxHeartbeats 20000000
namespace Go.Proofs
open Go.Tm Go.RowKit
variable {fs:Array Func} (L:bU fs)
def Mx{K:Nat->Prop}{v0 v1 v2:Value}{t:Table}(s:ByteArray)(w:World)(l:IsTable K w v0 v1 v2 t)(u:∀p∈t.au,1<=p.1.size/\p.1.size<=4/\p.2.size<=3)(x:bH t=0)(H:s.size<=16):
 Calls (Qs fs) 18 #[.agg #[v0,v1,v2],.string s] w λe w'=>e=.returned (.tuple #[.string (bs (aQ t.au s.data.toList)),.int .i64 0])/\Below w.heap.size w w':=by
 have e20:=e20 L;have e51:=e51 L;have e52:=e52 L;have e53:=e53 L;obtain⟨w1,a⟩:=ex (w.alloc (.cells #[v0,v1,v2] 26));have m:ae w w1:=by rw[a];exact ae.alloc _ _
 have y:Below w.heap.size w w1:=by rw[a];exact aG _ _
 have ct:∀i v,(#[v0,v1,v2]:Array Value)[i]? =some v->w1.cell? ⟨w.heap.size,i,none⟩=some v:=λi v h=>by rw[a];exact aw w _ 26 i v h
 have b:=eD L w1 (l.stays m);rw[x]at b;have f:=λd=>dz L false 2 d;have g:=λd=>cJ L 0 0 d;have j:=λd (h:ae w1 d)=>sH L (v0:=v0) (v1:=v1) (v2:=v2) s d ((l.stays (m.trans h)).1) u (by omega);obtain⟨N,n⟩:=ex (w.heap.size);rw[<-n]at ct;have z:=ct 0 _ rfl;have A:=ct 1 _ rfl;have B:=ct 2 _ rfl;have C:Hid _:=y;have E:¬((s.size:Int)>16):=by omega
 have F:¬(16<s.size):=by omega
 have G:decide ((16:Int)<(s.size:Int))=false:=R8 (by omega);clear l u x m y ct;go_enter (n18 L),Tryz.ntmps18;go_upto_region 1 with fail;rw[<-a,<-n];clear a n;go_upto_region 4 with(first|(go_at_call 20;refine b.mono ?_;rintro e w2 ⟨rfl,c⟩)|(go_at_call 52;refine(f _).mono ?_;rintro e w3 ⟨rfl,rfl⟩)|(go_at_call 51;refine(g _).mono ?_;rintro e w4 ⟨rfl,rfl⟩))
 have k:=(ae.below c).trans (ae.alloc w3 (.cells #[.int .i64 0,.int .i64 0] 29));have z:=k.cell z;have A:=k.cell A;have B:=k.cell B;have q:=j _ k;have o:=C.out.trans (c.mono C.out.size);have D:Hid _:=o.alloc o.size (.cells #[.int .i64 0,.int .i64 0] 29);clear b f g j k c o;go_wp2_with (first|(go_at_call 53;refine q.mono ?_;rintro e I ⟨rfl,r⟩))
 go_ret2
 exact⟨rfl,D.out.trans (r.mono D.out.size)⟩
def Hw{K:Nat->Prop}{v0 v1 v2:Value}{t:Table}(k:Nat)(s:ByteArray)(w:World)(l:IsTable K w v0 v1 v2 t)(G:OkT t)(H:bH t=0)(hs:s.size<=16)(Q:k<t.az.length)(I:gJ w):
 Calls (Qs fs) 22 #[.agg #[v0,v1,v2],.int .i64 k,.string s] w λe w'=>e=.returned (.tuple #[.string (bs (bt t k s.data.toList)),.int .i64 0])/\Below w.heap.size w w':=by
 have e20:=e20 L;have e51:=e51 L;have e52:=e52 L;have e63:=e63 L;have e64:=e64 L;obtain⟨u,z,rfl,R,S,_⟩:=id l.2.1;obtain⟨w1,a⟩:=ex (w.alloc (.cells #[v0,.slice u t.az.length z,v2] 26));have m:ae w w1:=by rw[a];exact ae.alloc _ _
 have J:Below w.heap.size w w1:=by rw[a];exact aG _ _
 have ct:∀i v,(#[v0,.slice u t.az.length z,v2]:Array Value)[i]? =some v->w1.cell? ⟨w.heap.size,i,none⟩=some v:=λi v h=>by rw[a];exact aw w _ 26 i v h
 have A:(decide ((0:Int)<=(k:Int))&&decide ((k:Int)<=(t.az.length:Int)-1))=true:=by rw[Sd (by omega),Sd (by omega)];rfl
 have T:IntKind.i64.wrap ((t.az.length:Int)-1)=(t.az.length:Int)-1:=wrap_i64 _ (by omega);have d:∀x:aj w w1,Calls (Qs fs) 20 #[.agg #[v0,.slice u t.az.length z,v2]] x.val λe w'=>e=.returned (.int .i64 0)/\∃y:aj w w1,w'=y.val:=λx=>by have h:=eD L x.val (l.stays (m.trans x.st));rw[H]at h;exact aj.calls h
 have f:∀x:aj w w1,Calls (Qs fs) 63 #[.int .i64 k,.int .i64 0,.int .i64 ((t.az.length:Int)-1)] x.val λe w'=>e=.returned (.bool true)/\∃y:aj w w1,w'=y.val:=λx=>by have h:=dv fs (n63 L) k 0 ((t.az.length:Int)-1) x.val;rw[A]at h;exact aj.same h
 have b:∀x:aj w w1,Calls (Qs fs) 52 #[.bool false,.int .i64 6] x.val λe w'=>e=.returned (.int .i64 0)/\∃y:aj w w1,w'=y.val:=λx=>aj.same (dz L false 6 x.val);have c:∀x:aj w w1,Calls (Qs fs) 52 #[.bool false,.int .i64 2] x.val λe w'=>e=.returned (.int .i64 0)/\∃y:aj w w1,w'=y.val:=λx=>aj.same (dz L false 2 x.val);have B:=λn=>vJ L 0 0 0 n;have g:=λn (h:ae w1 n)=>He L k s n (l.stays (m.trans h)) G (by omega) Q (I.stays (m.trans h));obtain⟨N,C⟩:=ex (w.heap.size);rw[<-C]at ct;have o:=ct 0 _ rfl;have p:=ct 1 _ rfl;have r:=ct 2 _ rfl;have U:=λx:aj w w1=>x.cell o;have V:=λx:aj w w1=>x.cell p;have W:=λx:aj w w1=>x.cell r;have M:Hid _:=J;have X:¬((s.size:Int)>16):=by omega
 have Y:¬(16<s.size):=by omega
 have Z:decide ((16:Int)<(s.size:Int))=false:=R8 (by omega);clear l G H m J ct I;go_enter (n22 L),Tryz.ntmps22;go_upto_region 1 with fail;rw[<-a,<-C];clear a C;have U0:Hid _:=o;have U1:Hid _:=p;have U2:Hid _:=r;clear o p r;refine aU (w0:=w) (w1:=w1) 14 (by kernel_rfl) (by kernel_rfl) (ae.refl _) M.out ?_;simp only[SN,SI,SZ,SP];haveI D:Nonempty (aj w w1):=⟨⟨w1,ae.refl _,M.out⟩⟩
 repeat (go_big_quiet_step (first|(go_at_call 20;exact d _)|(go_at_call 63;exact f _)|(go_at_call 52;first|exact b _|exact c _)))
 refine wpQuiet_nil ?_;rintro wy ⟨⟨_,O,E⟩,rfl⟩;have j:=O.trans (ae.alloc wy (.cells #[.int .i64 0,.int .i64 0,.int .i64 0] 29));have o:=j.cell U0.out;have p:=j.cell U1.out;have r:=j.cell U2.out;have q:=g _ j;have P:Hid _:=E.alloc E.size (.cells #[.int .i64 0,.int .i64 0,.int .i64 0] 29);clear d f b c g j O E U V W D;go_wp2_with (first|(go_at_call 51;refine(B _).mono ?_;rintro e w4 ⟨rfl,rfl⟩)|(go_at_call 64;refine q.mono ?_;rintro e w5 ⟨rfl,F⟩))
 go_ret2
 exact⟨rfl,P.out.trans (F.mono P.out.size)⟩
def ME{K:Nat->Prop}{v:Value}{l:List Int}(s:Int)(w:World)(k:aE K 1 du w v l):
 Calls (Qs fs) 245 #[v,.int .i64 s] w λe w'=>(∃z:Int,e=.returned (.int .i64 z)/\decide (0<=z)=l.any (λt=>decide (t=s)))/\w'=w:=by
 obtain⟨G,c,rfl,A,H,B,d⟩:=k;have C:Hid _:=d;clear d;go_enter (n245 L),Tryz.ntmps245;go_wp2;go_loopw [8] (λz wr=>∃j:Nat,j<=l.length/\z=.int .i64 j/\wr=w/\∀i (m:i<l.length),i<j->l[i]≠s) (λz _=>l.length-(intOf z).toNat)
 case atStart=>exact⟨0,R9 _,rfl,rfl,λi m h=>by omega⟩
 case round=>
  obtain⟨j,I,rfl,rfl,n⟩:=hrel;have u:Hid _:=n;clear n;obtain o|hge:=R5 j l.length
  ·obtain⟨b,q,rfl,p⟩:=C.out j o
   rw[Tn]at p;have r:wr.cell? ⟨b,q+j,none⟩=some (.int .i64 l[j]):=p;have D:(j:Int)<(l.length:Int):=by omega
   obtain⟨x,f⟩:=ex (l[j]);rw[<-f]at r;have y:Hid _:=f;clear p f;by_cases a:s=x
   ·have E:(s==x)=true:=by simpa using a
    have g:Hid _:=a;clear a;go_wp2;go_ret;refine⟨⟨(j:Int),rfl,?_⟩,rfl⟩;rw[Sd (by omega),TX,Tj];exact⟨l[j],Sg o,Sd (by rw[g.out,y.out])⟩
   ·have E:(s==x)=false:=by simpa using a
    have g:Hid _:=a;clear a;go_wp2;refine⟨⟨j+1,by omega,by go_num,trivial,λi m F=>?_⟩,by simp[intOf];omega⟩;by_cases h:i<j
    ·exact u.out i m h
    ·obtain rfl:i=j:=by omega
     rw[<-y.out];exactλh=>g.out h.symm
  ·go_wp2
   go_ret;refine⟨⟨-1,rfl,?_⟩,rfl⟩;rw[R8 (by decide),TX,T5];intro x p;obtain⟨i,m,rfl⟩:=TO.1 p;simpa using u.out i m (by omega)
def Eu{K:Nat->Prop}{v:Value}{l:List Int}(s:Int)(w:World)(a:aE K 1 du w v l):
 Calls (Qs fs) 244 #[v,.int .i64 s] w λe w'=>e=.returned (.bool (l.any (λt=>decide (t=s))))/\w'=w:=by
 have QE:=QE L;have b:=ME L s w a;clear a;go_enter (n244 L),Tryz.ntmps244;go_wp2_with (first|(go_at_call 245;refine b.mono ?_;clear b;rintro e w2 ⟨⟨z,rfl,c⟩,rfl⟩;have d:Hid _:=c;clear c))
 go_ret;exact⟨by rw[<-d.out];rfl,rfl⟩
structure oH(t:Table):Prop where
 lets:t.au.length<=1000/\∀p∈t.au,p.1.size<=1000/\p.2.size<=1000
 OA:t.az.length<=1000/\∀x∈t.az,x.name.size<=1000/\∀p∈x.aT,p.1.size<=1000/\p.2.size<=1000
 bl:t.bl.length<=1000/\∀g∈t.bl,g.length<=1000/\∀s∈g,s.size<=1000
def MV(l:List ByteArray)(i:Nat)(s:ByteArray):je (l.take i) s=if !aX s 1 48 then 3 else if(l.take i).any (λq=>decide (q=s))then 5 else 0:=rfl
def lR{K:Nat->Prop}{v0 v1 v2:Value}{t:Table}(w:World)(ht:IsTable K w v0 v1 v2 t)(hs:oH t):
 Calls (Qs fs) 21 #[.agg #[v0,v1,v2]] w λe w'=>e=.returned (.int .i64 (bH t))/\Below w.heap.size w w':=by
 have e58:=e58 L;have e59:=e59 L;have e60:=e60 L;have e61:=e61 L;have e62:=e62 L;obtain⟨w1,C⟩:=ex (w.alloc (.cells #[v0,v1,v2] 26));have S1:ae w w1:=by rw[C];exact ae.alloc _ _
 have B1:Below w.heap.size w w1:=by rw[C];exact aG _ _
 have ct:∀i v,(#[v0,v1,v2]:Array Value)[i]? =some v->w1.cell? ⟨w.heap.size,i,none⟩=some v:=λi v h=>by rw[C];exact aw w _ 26 i v h
 obtain⟨N,hN⟩:=ex (w.heap.size);rw[<-hN]at ct;have u0:=ct 0 _ rfl;have u1:=ct 1 _ rfl;have u2:=ct 2 _ rfl;have Q:=xA L w1 (ht.stays S1).1 hs.lets.2 hs.lets.1;have B:=λwx (hb:Below w1.heap.size w1 wx)=>xB L wx (ht.stays (S1.trans (ae.below hb))).2.1 hs.OA.2 hs.OA.1;obtain⟨fa,R⟩:=ex (aP 0 12 letterF t.au);obtain⟨fb,hfb⟩:=ex (aP 0 3 da t.az);have hT:bH t=if fa≠0 then fa else if fb≠0 then fb else aP 0 4 fY t.bl:=by rw[R,hfb];rfl
 rw[<-R]at Q;simp only[<-hfb]at B;have HB:Hid _:=B1;have HT:Hid _:=hT;have ad:=(ht.stays S1).2.2;have HM:Hid _:=hs.bl;obtain⟨ao,c,rfl,bC,hc,_,D⟩:=ad;have HC:Hid _:=D;clear ht hs ct R hfb S1 B1 hT D;go_enter (n21 L),Tryz.ntmps21;go_upto_region 1 with fail;rw[<-C,<-hN];clear C hN;go_upto_region 2 with(first|(go_at_call 58;refine Q.mono ?_;rintro e w2 ⟨rfl,I⟩))
 have S2:=ae.below I;have u0:=S2.cell u0;have u1:=S2.cell u1;have u2:=S2.cell u2;have S:Hid (Below w.heap.size w w2):=HB.out.trans (I.mono HB.out.size);have B:=B w2 I;have ba:Hid _:=S2;clear Q S2 I;by_cases ha:fa=0
 ·subst ha
  go_upto_region 5 with(first|(go_at_call 59;refine B.mono ?_;rintro e w3 ⟨rfl,T⟩))
  have S3:=ae.below T;have u0:=S3.cell u0;have u1:=S3.cell u1;have u2:=S3.cell u2;have U:Hid (Below w.heap.size w w3):=S.out.trans (T.mono S.out.size);have bb:Hid _:=ae.trans ba.out S3;clear B S3 T;by_cases hb:fb=0
  ·subst hb
   have af:Hid (bH t=aP 0 4 fY t.bl):=HT.out;by_cases h4:4<t.bl.length
   ·have g4:(4:Int)<(t.bl.length:Int):=by omega
    have n:bH t=2:=af.out.trans (by unfold aP aD;rw[R8 (p:=(t.bl.length:Int)<=4) (by omega),UJ];rfl)
    have HV:Hid _:=n;clear n;go_wp2;go_ret;exact⟨by rw[HV.out];rfl,U.out⟩
   ·have g4:decide ((4:Int)<(t.bl.length:Int))=false:=R8 (by omega)
    have J:Hid (bH t=eY fY [] t.bl):=af.out.trans (by unfold aP aD;rw[Sd (by omega),Sd (by omega)];rfl)
    go_wp2;have bk:=u2;clear u0 u1 u2;go_loopw [5] (λs wr=>∃k:Nat,k<=t.bl.length/\s=.int .i64 k/\(∀j (_:j<k) (h':j<t.bl.length),fY (t.bl.take j) t.bl[j]=0)/\ae w3 wr/\Below w.heap.size w wr) (λs _=>t.bl.length-(intOf s).toNat)
    case atStart=>exact⟨0,R9 _,rfl,λj h=>absurd h (Sm _),ae.refl _,U.out⟩
    case round=>
     obtain⟨k,hk,rfl,hf,l,u⟩:=hrel;have HF:Hid _:=hf;have HI:Hid _:=(⟨l,u⟩:ae w3 wr/\Below w.heap.size w wr)
     have y2:=l.cell bk;clear hf;obtain M|hge:=R5 k t.bl.length
     ·obtain⟨b,bm,rfl,vs,hx,E⟩:=HC.out k M
      have SW:ae w1 wr:=ae.trans bb.out l;have hx:=SW.cell hx;have hx:wr.cell? ⟨b,bm+k,none⟩=some vs:=by simpa using hx
      have E:=E.stays SW λx y o z e h=>by subst e;exact SW.cell h
      obtain⟨bo,ak⟩:=HM.out.2 _ (Sg M);have d:fY (t.bl.take k) t.bl[k]=aP 2 4 je t.bl[k]:=rfl;obtain⟨g,V⟩:=ex (t.bl[k]);rw[<-V]at E bo ak d;have an:Hid _:=V;have HL:Hid _:=d;have F:=E;obtain⟨ag,cg,rfl,b0,b1,_,A⟩:=E;have br:Hid _:=A;have ar:Hid _:=F;have O:∀{f:Int},aP 2 4 je g=f->f≠0->eY fY [] t.bl=f:=λh1 h2=>mD M HF.out (by rw[<-an.out];exact HL.out.trans h1) h2;have HG:Hid (aP 2 4 je g=0->∀j (_:j<k+1) (h':j<t.bl.length),fY (t.bl.take j) t.bl[j]=0):=λh=>mE HF.out M (by rw[<-an.out];exact HL.out.trans h);have ax:Hid _:=@O;have W:=λwx=>Im L (g.length:Int) 2 4 wx;clear V d F A O l u SW;obtain⟨z0,X⟩:=ex (aD g.length 2 4);simp only[<-X]at W;have ay:Hid _:=X;clear X;cases z0 with
      |false=>
       have n:=ax.out (by unfold aP;rw[<-ay.out];rfl:_=(2:Int)) (by decide);have HV:Hid _:=n;clear n;go_wp2_with (first|(go_at_call 60;refine(W _).mono ?_;rintro e w' ⟨rfl,q⟩;rw[q];clear q))
       go_ret;exact⟨by rw[J.out,HV.out];rfl,HI.out.2⟩
      |true=>
       have HE:Hid (aP 2 4 je g=eY je [] g):=by rw[Hid];unfold aP;rw[<-ay.out];rfl
       go_upto_block 2 with(first|(go_at_call 60;refine(W _).mono ?_;rintro e w' ⟨rfl,q⟩;rw[q];clear q))
       go_wp2;go_loopw [7] (λs wi=>∃m:Nat,m<=g.length/\s=.int .i64 m/\(∀i (_:i<m) (h':i<g.length),je (g.take i) g[i]=0)/\ae wr wi/\Below w.heap.size w wi) (λs _=>g.length-(intOf s).toNat)
       case atStart=>exact⟨0,R9 _,rfl,λj h=>absurd h (Sm _),ae.refl _,HI.out.2⟩
       case round=>
        obtain⟨m,hm,rfl,aM,l,u⟩:=hrel;have Y:Hid _:=aM;have G:Hid _:=(⟨l,u⟩:_/\Below w.heap.size w wr)
        clear aM;obtain hmk|hmk:=R5 m g.length
        ·obtain⟨b2,o2,rfl,Z⟩:=br.out m hmk
         have k1:=ak g[m] (Sg hmk);have Z:=l.cell Z;have Z:wr.cell? ⟨b2,o2+m,none⟩=some (.string g[m]):=by simpa using Z
         have d:=MV g m g[m];have a1:=(aE.take ar.out m hm).stays l λx y o z e h=>by subst e;exact l.cell h
         obtain⟨r,hr⟩:=ex (g[m]);rw[<-hr]at Z k1 d;have qa:=λwx=>mH L r 1 48 wx (by omega);have qb:∀x:aj w wr,Calls (Qs fs) 62 #[.slice (some ⟨b2,o2,none⟩) m cg,.string r] x.val λe w'=>e=.returned (.int .i64 (kS (g.take m) r))/\∃y:aj w wr,w'=y.val:=λx=>aj.same (EU L r x.val (a1.stays x.st λa b o z e h=>by subst e;exact x.st.cell h))
         have l0:∀x:aj w wr,x.val.cell? ⟨b2,o2+m,none⟩=some (.string r):=λx=>x.st.cell Z;obtain⟨z1,a6⟩:=ex (aX r 1 48);obtain⟨fi,H⟩:=ex (kS (g.take m) r);have aa:=qw (g.take m) r;simp only[<-a6]at qa d;simp only[<-H]at qb aa;rw[<-aa]at d;have a7:Hid _:=hr;have ab:Hid _:=d;clear a6 H hr d l u a1 aa;have a8:∀{f:Int},je (g.take m) r=f->f≠0->eY fY [] t.bl=f:=λh1 h2=>ax.out (HE.out.trans (mD hmk Y.out (by rw[<-a7.out];exact h1) h2)) h2;have P:Hid _:=@a8;have bs:Hid (je (g.take m) r=0->∀i (_:i<m+1) (h':i<g.length),je (g.take i) g[i]=0):=λh=>mE Y.out hmk (by rw[<-a7.out];exact h);clear a8;cases z1 with
         |false=>
          have n:=P.out (ab.out.trans rfl:_=(3:Int)) (by decide);have HV:Hid _:=n;clear n qb l0;go_wp2_with (first|(go_at_call 61;refine(qa _).mono ?_;rintro e w' ⟨rfl,q⟩;rw[q];clear q))
          go_ret;exact⟨by rw[J.out,HV.out];rfl,G.out.2⟩
         |true=>
          go_upto_region 20 with(first|(go_at_call 61;refine(qa _).mono ?_;rintro e w' ⟨rfl,q⟩;rw[q];clear q))
          have b3:¬(m:Int)<0:=by omega
          have b4:(m:Int)<=(cg:Int):=by omega
          refine aY (w0:=w) (w1:=wr) (by kernel_rfl) (by kernel_rfl) (ae.refl _) G.out.2 ?_;haveI bx:Nonempty (aj w wr):=⟨⟨wr,ae.refl _,G.out.2⟩⟩
          repeat (go_big_quiet_step (first|(go_at_call 62;exact qb _)))
          refine wpQuiet_nil ?_;rintro wz ⟨⟨_,Sz,Bz⟩,rfl⟩;have HZ:Hid _:=(⟨ae.trans G.out.1 Sz,Bz⟩:_/\_)
          clear qa qb l0 bx Sz Bz Z;by_cases H:0<=fi
          ·have n:=P.out (ab.out.trans (by rw[Sd H];rfl):_=(5:Int)) (by decide)
           have HV:Hid _:=n;clear n;go_wp2;go_ret;exact⟨by rw[J.out,HV.out];rfl,HZ.out.2⟩
          ·have n:=bs.out (ab.out.trans (by rw[R8 H];rfl))
           have HV:Hid _:=n;clear n;go_wp2;exact⟨⟨m+1,by omega,by go_num,HV.out,HZ.out.1,HZ.out.2⟩,by simp[intOf];omega⟩
        ·have bA:m=g.length:=by omega
         subst bA;have n:=HG.out (HE.out.trans (kN λi h=>Y.out i h h));have HV:Hid _:=n;have bB:Hid _:=ae.trans HI.out.1 l;clear n l u;go_wp2;exact⟨⟨k+1,by omega,by go_num,HV.out,bB.out,G.out.2⟩,by simp[intOf];omega⟩
     ·clear l u
      go_wp2;go_ret;exact⟨by rw[J.out,kN λj h=>HF.out j (by omega) h];rfl,HI.out.2⟩
  ·have b5:(fb !=0)=true:=by simpa using hb
   have n:bH t=fb:=HT.out.trans (by rw[RY (by simp),RZ hb]);have HV:Hid _:=n;clear n;go_wp2;go_ret;exact⟨by rw[HV.out];rfl,U.out⟩
 ·have b6:(fa !=0)=true:=by simpa using ha
  have n:bH t=fa:=HT.out.trans (by rw[RZ ha]);have HV:Hid _:=n;clear n B;go_wp2;go_ret;exact⟨by rw[HV.out];rfl,S.out⟩
structure BI(t:Table):Prop where
 lets:∀p∈t.au,p.1.size<=140737488351232/\p.2.size<=140737488351232
 OA:∀x∈t.az,x.name.size<=140737488351232/\∀p∈x.aT,p.1.size<=140737488351232/\p.2.size<=140737488351232
 bl:∀g∈t.bl,∀s∈g,s.size<=140737488351232
def wrap_add{a b:Nat}(h:a+b<=9223372036854775807):wrap64 ((a:Int)+b)=((a+b:Nat):Int):=by unfold wrap64;omega
def zS{a b c:Nat}(h:a+b+c<=9223372036854775807):wrap64 (wrap64 ((a:Int)+b)+c)=((a+b+c:Nat):Int):=by rw[wrap_add (by omega),wrap_add h]
def PK{K:Nat->Prop}{v0 v1 v2:Value}{t:Table}(w:World)(ht:IsTable K w v0 v1 v2 t)(hr:BI t):
 Calls (Qs fs) 16 #[.agg #[v0,v1,v2]] w λe w'=>∃z,e=.returned (.bool z)/\(z=false->oH t)/\Below w.heap.size w w':=by
 obtain⟨w1,I⟩:=ex (w.alloc (.cells #[v0,v1,v2] 26));have S1:ae w w1:=by rw[I];exact ae.alloc _ _
 have B1:Below w.heap.size w w1:=by rw[I];exact aG _ _
 have ct:∀i v,(#[v0,v1,v2]:Array Value)[i]? =some v->w1.cell? ⟨w.heap.size,i,none⟩=some v:=λi v h=>by rw[I];exact aw w _ 26 i v h
 obtain⟨N,hN⟩:=ex (w.heap.size);rw[<-hN]at ct;have u0:=ct 0 _ rfl;have u1:=ct 1 _ rfl;have u2:=ct 2 _ rfl;have HB:Hid _:=B1;have HR:Hid _:=hr;have ao:=ht.stays S1;obtain⟨⟨a8,c0,rfl,ba,bb,_,g0⟩,⟨bk,c1,rfl,bm,ak,_,g1⟩,⟨bo,Y,rfl,br,an,_,g2⟩⟩:=ao;have G0:Hid _:=g0;have G1:Hid _:=g1;have G2:Hid _:=g2;clear ht hr ct S1 B1 g0 g1 g2;have dn:∀n:Nat,40<n->decide ((40:Int)<(n:Int))=true:=λn h=>Sd (by omega);have dm:∀n:Nat,¬40<n->decide ((40:Int)<(n:Int))=false:=λn h=>R8 (by omega);go_enter (n16 L),Tryz.ntmps16;go_upto_region 1 with fail;rw[<-I,<-hN];clear I hN;by_cases a0:40<t.au.length
 ·have d0:=dn _ a0
  go_wp2;go_ret;exact⟨true,rfl,(λh=>by cases h),HB.out⟩
 have d0:=dm _ a0;by_cases a1:40<t.az.length
 ·have d1:=dn _ a1
  go_wp2;go_ret;exact⟨true,rfl,(λh=>by cases h),HB.out⟩
 have d1:=dm _ a1;by_cases a2:40<t.bl.length
 ·have d2:=dn _ a2
  go_wp2;go_ret;exact⟨true,rfl,(λh=>by cases h),HB.out⟩
 have d2:=dm _ a2;have A:t.au.length<=40/\t.az.length<=40/\t.bl.length<=40:=by omega
 clear dn dm a0 a1 a2;go_wp2;have Z:=u0;have aa:=u1;have J:=u2;clear u0 u1 u2;go_loopw [3,4] (λT s wr=>∃j n:Nat,j<=t.au.length/\s=.int .i64 j/\T=.int .i64 n/\n<=j*281474976702464/\(∀i (_:i<j) (h':i<t.au.length),t.au[i].1.size<=n/\t.au[i].2.size<=n)/\ae w1 wr/\Below w.heap.size w wr) (λ_ s _=>t.au.length-(intOf s).toNat)
 case atStart=>exact⟨0,0,R9 _,rfl,rfl,R9 _,λj h=>absurd h (Sm _),ae.refl _,HB.out⟩
 case round=>
  obtain⟨j,n,hj,rfl,rfl,hn,f,c,M⟩:=hrel;have S:Hid _:=f;have u:Hid _:=(⟨c,M⟩:ae w1 wr/\Below w.heap.size w wr)
  have y0:=c.cell Z;have y1:=c.cell aa;have y2:=c.cell J;clear f;obtain y|hge:=R5 j t.au.length
  ·obtain⟨b,E,rfl,O,k⟩:=G0.out j y
   have X:=c.cell O;have U:=c.cell k;obtain⟨k1,V⟩:=HR.out.lets _ (Sg y);obtain⟨p,l⟩:=ex (t.au[j]);rw[<-l]at X U k1 V;obtain⟨p0,p1⟩:=p;simp only[]at X U k1 V;have l0:∀x:aj w wr,x.val.cell? ⟨N,0,none⟩=some _:=λx=>x.st.cell y0;have l1:∀x:aj w wr,x.val.cell? ⟨b,E+j*2,none⟩=some (.string p0):=λx=>x.st.cell X;have l2:∀x:aj w wr,x.val.cell? ⟨b,E+j*2+1,none⟩=some (.string p1):=λx=>x.st.cell U;have HP:Hid _:=l;clear l O k c M;go_upto_region 7 with fail;refine aU (w0:=w) (w1:=wr) 17 (by kernel_rfl) (by kernel_rfl) (ae.refl _) u.out.2 ?_;simp only[SN,SI,SZ,SP];haveI ab:Nonempty (aj w wr):=⟨⟨wr,ae.refl _,u.out.2⟩⟩
   repeat (go_big_quiet_step (fail))
   refine wpQuiet_nil ?_;rintro wz ⟨⟨_,Sz,Bz⟩,rfl⟩;have HZ:Hid _:=(⟨ae.trans u.out.1 Sz,Bz⟩:_/\_)
   clear l0 l1 l2 ab Sz Bz X U y0 y1 y2;go_wp2;refine⟨⟨j+1,n+p0.size+p1.size,by omega,by go_num,by first|rw[zS (by omega)]|exact SL (Value.int .i64) (by omega),by omega,λi F W=>?_,HZ.out.1,HZ.out.2⟩,by simp[intOf];omega⟩;obtain h3|h3:=R5 i j
   ·have:=S.out i h3 W
    omega
   ·have:i=j:=by omega
    subst this;rw[<-HP.out];show p0.size<=_/\p1.size<=_;omega
  ·have P:j=t.au.length:=by omega
   subst P;have H0:Hid (n<=11258999068098560/\∀p∈t.au,p.1.size<=n/\p.2.size<=n):=⟨by omega,λp l=>by obtain⟨i,F,rfl⟩:=T3 l;exact S.out i F F⟩
   have W1:=u;clear c M S u hge hn;go_wp2;clear y0 y1 y2;go_loopw [3,5] (λT s wr=>∃j C:Nat,j<=t.az.length/\s=.int .i64 j/\T=.int .i64 C/\n<=C/\C<=11258999068098560+j*11399736556449792/\(∀i (_:i<j) (h':i<t.az.length),t.az[i].name.size<=C/\t.az[i].aT.length<=40/\∀p∈t.az[i].aT,p.1.size<=C/\p.2.size<=C)/\ae w1 wr/\Below w.heap.size w wr) (λ_ s _=>t.az.length-(intOf s).toNat)
   case atStart=>exact⟨0,n,R9 _,rfl,rfl,R2 _,by have:=H0.out.1;omega,λj h=>absurd h (Sm _),W1.out.1,W1.out.2⟩
   case round=>
    obtain⟨j,C,hj,rfl,rfl,bs,hn,f,c,M⟩:=hrel;have S:Hid _:=f;have u:Hid _:=(⟨c,M⟩:ae w1 wr/\Below w.heap.size w wr)
    have y0:=c.cell Z;have y1:=c.cell aa;have y2:=c.cell J;clear f;obtain y|hge:=R5 j t.az.length
    ·obtain⟨b,E,rfl,O,vs,k,G⟩:=G1.out j y
     have X:=c.cell O;have U:=c.cell k;obtain⟨k1,V⟩:=HR.out.OA _ (Sg y);obtain⟨p,l⟩:=ex (t.az[j]);rw[<-l]at X k1 V G;obtain⟨p0,p1⟩:=p;simp only[]at X U k1 V G;obtain⟨ar,cs,rfl,ax,ay,_,d⟩:=G;have ad:Hid _:=d;have HP:Hid _:=l;have af:=k;clear l O k c M d;by_cases aM:40<p1.length
     ·have g5:(40:Int)<(p1.length:Int):=by omega
      go_wp2;go_ret;exact⟨true,rfl,(λh=>by cases h),u.out.2⟩
     ·have g5:decide ((40:Int)<(p1.length:Int))=false:=R8 (by omega)
      go_upto_block 4 with fail
      go_wp2;clear y0 y1 y2 X U;go_loopw [3,6] (λT s wi=>∃m n3:Nat,m<=p1.length/\s=.int .i64 m/\T=.int .i64 n3/\C+p0.size<=n3/\n3<=11258999068098560+j*11399736556449792+140737488351232+m*281474976702464/\(∀i (_:i<m) (h':i<p1.length),p1[i].1.size<=n3/\p1[i].2.size<=n3)/\ae w1 wi/\Below w.heap.size w wi) (λ_ s _=>p1.length-(intOf s).toNat)
      case atStart=>exact⟨0,C+p0.size,R9 _,rfl,by first|rw[wrap_add (by omega)]|exact SL (Value.int .i64) (by omega),R2 _,by omega,λj h=>absurd h (Sm _),u.out.1,u.out.2⟩
      case round=>
       obtain⟨m,n3,hm,rfl,rfl,ak,an,o,a,D⟩:=hrel;have Q:Hid _:=o;have r:Hid _:=(⟨a,D⟩:ae w1 wr/\Below w.heap.size w wr)
       have z0:=a.cell Z;have z1:=a.cell aa;have z2:=a.cell J;have z3:=a.cell af;clear o;obtain B|hge2:=R5 m p1.length
       ·obtain⟨b2,o2,rfl,H,r2⟩:=ad.out m B
        have H:=a.cell H;have r2:=a.cell r2;obtain⟨e1,e2⟩:=V p1[m] (Sg B);obtain⟨q,hq⟩:=ex (p1[m]);rw[<-hq]at H r2 e1 e2;obtain⟨q0,q1⟩:=q;simp only[]at H r2 e1 e2;have l0:∀x:aj w wr,x.val.cell? ⟨N,1,none⟩=some _:=λx=>x.st.cell z1;have l3:∀x:aj w wr,x.val.cell? ⟨b,E+j*2+1,none⟩=some _:=λx=>x.st.cell z3;have l1:∀x:aj w wr,x.val.cell? ⟨b2,o2+m*2,none⟩=some (.string q0):=λx=>x.st.cell H;have l2:∀x:aj w wr,x.val.cell? ⟨b2,o2+m*2+1,none⟩=some (.string q1):=λx=>x.st.cell r2;have HQ:Hid _:=hq;clear hq a D;go_upto_region 17 with fail;refine aU (w0:=w) (w1:=wr) 25 (by kernel_rfl) (by kernel_rfl) (ae.refl _) r.out.2 ?_;simp only[SN,SI,SZ,SP];haveI ab:Nonempty (aj w wr):=⟨⟨wr,ae.refl _,r.out.2⟩⟩
        repeat (go_big_quiet_step (fail))
        refine wpQuiet_nil ?_;rintro wz ⟨⟨_,Sz,Bz⟩,rfl⟩;have HZ:Hid _:=(⟨ae.trans r.out.1 Sz,Bz⟩:_/\_)
        clear l0 l1 l2 l3 ab Sz Bz H r2 z0 z1 z2 z3;go_wp2;refine⟨⟨m+1,n3+q0.size+q1.size,by omega,by go_num,by first|rw[zS (by omega)]|exact SL (Value.int .i64) (by omega),by omega,by omega,λi F W=>?_,HZ.out.1,HZ.out.2⟩,by simp[intOf];omega⟩;obtain h3|h3:=R5 i m
        ·have:=Q.out i h3 W
         omega
        ·have:i=m:=by omega
         subst this;rw[<-HQ.out];show q0.size<=_/\q1.size<=_;omega
       ·have ag:m=p1.length:=by omega
        subst ag;clear a D;go_wp2;refine⟨⟨j+1,n3,by omega,by go_num,rfl,by omega,by omega,λi F W=>?_,r.out.1,r.out.2⟩,by simp[intOf];omega⟩;obtain h3|h3:=R5 i j
        ·obtain⟨c1,Y,c3⟩:=S.out i h3 W
         exact⟨by omega,Y,λp l=>by have:=c3 p l;omega⟩
        ·have:i=j:=by omega
         subst this;rw[<-HP.out];refine⟨by show p0.size<=_;omega,by show p1.length<=_;omega,λp l=>?_⟩;obtain⟨i',R,rfl⟩:=T3 l;exact Q.out i' R R
    ·have P:j=t.az.length:=by omega
     subst P;have H1:Hid (C<=467248461326090240/\∀x∈t.az,x.name.size<=C/\x.aT.length<=40/\∀p∈x.aT,p.1.size<=C/\p.2.size<=C):=⟨by omega,λp l=>by obtain⟨i,F,rfl⟩:=T3 l;exact S.out i F F⟩
     have W2:=u;clear c M S u hge hn;go_wp2;clear y0 y1 y2;go_loopw [3,7] (λT s wr=>∃j n3:Nat,j<=t.bl.length/\s=.int .i64 j/\T=.int .i64 n3/\C<=n3/\n3<=467248461326090240+j*5629499534049280/\(∀i (_:i<j) (h':i<t.bl.length),t.bl[i].length<=40/\∀s∈t.bl[i],s.size<=n3)/\ae w1 wr/\Below w.heap.size w wr) (λ_ s _=>t.bl.length-(intOf s).toNat)
     case atStart=>exact⟨0,C,R9 _,rfl,rfl,R2 _,by have:=H1.out.1;omega,λj h=>absurd h (Sm _),W2.out.1,W2.out.2⟩
     case round=>
      obtain⟨j,n3,hj,rfl,rfl,a6,hn,f,c,M⟩:=hrel;have S:Hid _:=f;have u:Hid _:=(⟨c,M⟩:ae w1 wr/\Below w.heap.size w wr)
      have y2:=c.cell J;clear f;obtain y|hge:=R5 j t.bl.length
      ·obtain⟨b,E,rfl,vs,k,G⟩:=G2.out j y
       have k:w1.cell? ⟨b,E+j,none⟩=some vs:=by simpa using k
       have U:=c.cell k;have V:=HR.out.bl _ (Sg y);obtain⟨g,hg⟩:=ex (t.bl[j]);rw[<-hg]at V G;obtain⟨ar,cs,rfl,ax,ay,_,d⟩:=G;have ad:Hid _:=d;have HP:Hid _:=hg;have af:=k;clear hg k c M d;by_cases aM:40<g.length
       ·have g5:(40:Int)<(g.length:Int):=by omega
        go_wp2;go_ret;exact⟨true,rfl,(λh=>by cases h),u.out.2⟩
       ·have g5:decide ((40:Int)<(g.length:Int))=false:=R8 (by omega)
        go_upto_block 8 with fail
        go_wp2;clear y2 U;go_loopw [3,8] (λT s wi=>∃m n4:Nat,m<=g.length/\s=.int .i64 m/\T=.int .i64 n4/\n3<=n4/\n4<=467248461326090240+j*5629499534049280+m*140737488351232/\(∀i (_:i<m) (h':i<g.length),g[i].size<=n4)/\ae w1 wi/\Below w.heap.size w wi) (λ_ s _=>g.length-(intOf s).toNat)
        case atStart=>exact⟨0,n3,R9 _,rfl,rfl,R2 _,R3 hn (Vu _ _),λj h=>absurd h (Sm _),u.out.1,u.out.2⟩
        case round=>
         obtain⟨m,n4,hm,rfl,rfl,ak,an,o,a,D⟩:=hrel;have Q:Hid _:=o;have r:Hid _:=(⟨a,D⟩:ae w1 wr/\Below w.heap.size w wr)
         have z2:=a.cell J;have z3:=a.cell af;clear o;obtain B|hge2:=R5 m g.length
         ·obtain⟨b2,o2,rfl,H⟩:=ad.out m B
          have H:=a.cell H;have H:wr.cell? ⟨b2,o2+m,none⟩=some (.string g[m]):=by simpa using H
          have e1:=V g[m] (Sg B);obtain⟨q,hq⟩:=ex (g[m]);rw[<-hq]at H e1;have HQ:Hid _:=hq;clear hq a D;go_wp2;refine⟨⟨m+1,n4+q.size,by omega,by go_num,by first|rw[wrap_add (by omega)]|exact SL (Value.int .i64) (by omega),by omega,by omega,λi F W=>?_,r.out.1,r.out.2⟩,by simp[intOf];omega⟩;obtain h3|h3:=R5 i m
          ·have:=Q.out i h3 W
           omega
          ·have:i=m:=by omega
           subst this;rw[<-HQ.out];omega
         ·have ag:m=g.length:=by omega
          subst ag;clear a D;go_wp2;refine⟨⟨j+1,n4,by omega,by go_num,rfl,by omega,by omega,λi F W=>?_,r.out.1,r.out.2⟩,by simp[intOf];omega⟩;obtain h3|h3:=R5 i j
          ·obtain⟨c1,Y⟩:=S.out i h3 W
           exact⟨c1,λp l=>by have:=Y p l;omega⟩
          ·have:i=j:=by omega
           subst this;rw[<-HP.out];refine⟨by omega,λp l=>?_⟩;obtain⟨i',R,rfl⟩:=T3 l;exact Q.out i' R R
      ·have P:j=t.bl.length:=by omega
       subst P;clear c M;by_cases a7:1000<n3
       ·have d9:decide ((1000:Int)<(n3:Int))=true:=Sd (by omega)
        go_wp2;go_ret;exact⟨true,rfl,(λh=>by cases h),u.out.2⟩
       ·have d9:decide ((1000:Int)<(n3:Int))=false:=R8 (by omega)
        have hT:oH t:=⟨⟨by omega,λp l=>by have:=H0.out.2 p l;omega⟩,⟨by omega,λx hx=>by
         obtain⟨c1,Y,c3⟩:=H1.out.2 x hx;exact⟨by omega,λp l=>by have:=c3 p l;omega⟩⟩,⟨by omega,λg hg=>by
         obtain⟨i,F,rfl⟩:=T3 hg;obtain⟨c1,Y⟩:=S.out i F F;exact⟨by omega,λs hs=>by have:=Y s hs;omega⟩⟩⟩
        have HT:Hid _:=hT;clear hT;go_wp2;go_ret;exact⟨false,rfl,λ_=>HT.out,u.out.2⟩
end Go.Proofs

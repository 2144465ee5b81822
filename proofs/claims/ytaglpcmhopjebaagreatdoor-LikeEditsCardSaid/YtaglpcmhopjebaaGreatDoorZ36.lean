import Derived.Test.YtaglpcmhopjebaaGreatDoorZ35
set_option linter.all false
set_option maxRecDepth 100000
set_option maxHeartbeats 20000000
namespace Go.Proofs
open Go.Tm Go.RowKit
variable {fs:Array Func} (L:bX fs)
def Ic{K:Nat->Prop}{v0 v1 v2:Value}{l:List lh}(w:World)(f:aE K 2 fZ w v1 l):
 Calls (Qs fs) 56 #[.agg #[v0,v1,v2]] w λe w'=>e=.returned (.int .i64 (bq 0 3 mz l))/\Below w.heap.size w w':=by
 have Pf:=Pf L;obtain⟨i,a⟩:=ex (w.alloc (.cells #[v0,v1,v2] 100));obtain⟨k,c⟩:=ex (i.alloc (.map #[] 0));obtain⟨w1,d⟩:=ex (k.alloc (.cells #[.map (some (w.heap.size+1))] 133));have g:i.heap.size=w.heap.size+1:=by rw[a];simp
 have hsb:k.heap.size=w.heap.size+1+1:=by rw[c,<-g];simp
 have A:ae k w1:=by rw[d];exact ae.alloc _ _
 have y:ae i w1:=(by rw[c];exact ae.alloc _ _:ae i k).trans A;have z:ae w w1:=(by rw[a];exact ae.alloc _ _:ae w i).trans y;have B:Below w.heap.size w w1:=by rw[d,c,a];exact(((Below.refl _ w).alloc (Ro _) _).alloc (by simp) _).alloc (by simp;omega) _
 have ct:w1.cell? ⟨w.heap.size,1,none⟩=some v1:=y.cell (by rw[a];exact av w _ 100 1 _ rfl);have C:w1.cell? ⟨w.heap.size+1+1,0,none⟩=some (.map (some (w.heap.size+1))):=by rw[d,<-hsb];exact av k _ 133 0 _ rfl
 have m:bN w1 (w.heap.size+1) (λ_=>false):=by have h:=bN.new i;rw[g,<-c]at h;exact h.keep (by rw[d];exact Below.heap_alloc k _ _ (by omega))
 have n:aE K 2 fZ w1 v1 l:=f.stays z λb O o x e h=>by subst e;exact fZ.carry (Carry.keep z) b b o x rfl h
 have r:=(iX L 101 #[.pointer (some ⟨w.heap.size+1+1,0,none⟩)] 0 3 w1 (λj wr=>ae w1 wr/\Below w.heap.size w wr/\bN wr (w.heap.size+1) (λt=>(l.take j).any (λq=>decide (q.name=t)))) (nK mz l) (QQ L)
  ⟨ae.refl _,B,m⟩ (λj wr h=>h.1) (λj wr o h=>⟨h.1.trans (ae.alloc _ _),h.2.1.alloc h.2.1.size _,h.2.2.keep (Below.heap_alloc wr o _ h.2.2.lt)⟩)).2.2.2.2.2.2.2.1 _ n
  (λj D wr h F G=>(E5 L j l[j] F (w.heap.size+1+1) (w.heap.size+1) _ wr (h.1.cell C) h.2.2 G).mono λe w' u=>⟨by rw[fI _ _ _ D];exact u.1,h.1.trans u.2.2.2,h.2.1.trans (u.2.2.1 _ (by omega)),u.2.1.iff λt=>by rw[lB l _ j D,kP t]⟩)
 have r:=r.p;obtain⟨N,v⟩:=ex (w.heap.size);rw[<-v]at ct r;have s:Calls (Qs fs) 100 #[v1,.int .i64 0,.int .i64 3,.func (.func 101) #[] #[.pointer (some ⟨N+1+1,0,none⟩)]] w1 λe w'=>e=.returned (.int .i64 (bq 0 3 mz l))/\Below w.heap.size w w':=r.mono λe w' h=>by obtain⟨H,j,E,I,_⟩:=h;exact⟨H,by rw[<-v];exact I⟩
 have J:∀(fn:Fn) (first cap:Array Value) (w:World),(Instr.makeFunc fn first cap).run (Qs fs) w=.ok (.func fn first cap) w:=λ_ _ _ _=>rfl;have M:∀(t:TypeId) (w:World),(Instr.makeMap t none).run (Qs fs) w=.ok (.map (some w.heap.size)) (w.alloc (.map #[] 0)):=λ_ _=>rfl;clear r m C n z B f;go_enter (n56 L),Tryz.ntmps56;go_upto_region 2 with fail;rw[<-a,<-c,<-d,<-v];clear a c d g hsb y A v;go_wp2_with (first|(go_at_call 100;refine s.mono ?_;clear s;rintro e w2 ⟨rfl,E⟩))
 go_ret;exact⟨rfl,E⟩
def MG{K:Nat->Prop}{v:Value}{l:List ByteArray}(s:ByteArray)(w:World)(k:aE K 1 kI w v l):
 Calls (Qs fs) 137 #[v,.string s] w λe w'=>(∃z:Int,e=.returned (.int .i64 z)/\decide (0<=z)=l.any (λt=>decide (t=s)))/\w'=w:=by
 obtain⟨ao,c,rfl,A,G,B,d⟩:=k;have C:Hid _:=d;clear d;go_enter (n137 L),Tryz.ntmps137;go_wp2;go_loopw [8] (λz wr=>∃j:Nat,j<=l.length/\z=.int .i64 j/\wr=w/\∀i (m:i<l.length),i<j->l[i]≠s) (λz _=>l.length-(intOf z).toNat)
 case atStart=>exact⟨0,Rz _,rfl,rfl,λi m h=>by omega⟩
 case round=>
  obtain⟨j,H,rfl,rfl,n⟩:=hrel;have u:Hid _:=n;clear n;obtain o|hge:=Rv j l.length
  ·obtain⟨b,q,rfl,p⟩:=C.out j o
   rw[SK]at p;have r:wr.cell? ⟨b,q+j,none⟩=some (.string l[j]):=p;have D:(j:Int)<(l.length:Int):=by omega
   obtain⟨x,f⟩:=ex (l[j]);rw[<-f]at r;have y:Hid _:=f;clear p f;by_cases a:s=x
   ·have E:(s.toList==x.toList)=true:=by rw[qz];exact Ry a
    have g:Hid _:=a;clear a;go_wp2;go_ret;refine⟨⟨(j:Int),rfl,?_⟩,rfl⟩;rw[Ry (by omega),Tt,S8];exact⟨l[j],RN o,Ry (by rw[g.out,y.out])⟩
   ·have E:(s.toList==x.toList)=false:=by rw[qz];exact Rr a
    have g:Hid _:=a;clear a;go_wp2;refine⟨⟨j+1,by omega,by go_num,trivial,λi m F=>?_⟩,by simp[intOf];omega⟩;by_cases h:i<j
    ·exact u.out i m h
    ·obtain rfl:i=j:=by omega
     rw[<-y.out];exactλh=>g.out h.symm
  ·go_wp2
   go_ret;refine⟨⟨-1,rfl,?_⟩,rfl⟩;rw[Rr (by decide),Tt,TY];intro x p;obtain⟨i,m,rfl⟩:=Ty.1 p;simpa using u.out i m (by omega)
def pY{K:Nat->Prop}{v:Value}{l:List ByteArray}(s:ByteArray)(w:World)(a:aE K 1 kI w v l):
 Calls (Qs fs) 109 #[v,.string s] w λe w'=>e=.returned (.bool (l.any (λt=>decide (t=s))))/\w'=w:=by
 have Py:=Py L;have b:=MG L s w a;clear a;go_enter (n109 L),Tryz.ntmps109;go_wp2_with (first|(go_at_call 137;refine b.mono ?_;clear b;rintro e w2 ⟨⟨z,rfl,c⟩,rfl⟩;have d:Hid _:=c;clear c))
 go_ret;exact⟨by rw[<-d.out];rfl,rfl⟩
def J9(a b):(if(if(!a)=true then(3:Int)else 0)≠0 then(if(!a)=true then(3:Int)else 0)else(if b=true then(5:Int)else 0))=if(!a)=true then 3 else if b=true then 5 else 0:=by cases a<;>cases b<;>rfl
def aE.take{g K f E w ao c}{l:List g}(h:aE K f E w (.slice ao l.length c) l)(j)(i:j<=l.length):aE K f E w (.slice ao j c) (l.take j):=by obtain⟨a,c',e,r,m,n,o⟩:=h;cases e;refine⟨ao,c,by rw[R5,Uo i],by rw[R5];omega,m,n,λk p=>?_⟩;rw[R5]at p;obtain⟨b,d,e,q⟩:=o k (by omega);exact⟨b,d,e,by rw[List.getElem_take];exact q⟩
def E6{K:Nat->Prop}{ao:Option Addr}{c:Nat}{l:List ByteArray}(j:Nat)(F:j<l.length)(B:Nat)(w:World)(n:w.cell? ⟨B,0,none⟩=some (.slice ao l.length c))(d:aE K 1 kI w (.slice ao l.length c) l):
 Calls (Qs fs) 108 #[.int .i64 j,.string l[j],.pointer (some ⟨B,0,none⟩)] w λe w'=>e=.returned (.int .i64 (uZ (l.take j) l[j]))/\Below w.heap.size w w':=by
 have e52:=e52 L;have e72:=e72 L;have e51:=e51 L;have Mi:=Mi L;obtain⟨R,c',G,H,I,p,g⟩:=id d;cases G;obtain⟨b,J,rfl,_⟩:=g j F;clear g;have o:Hid (uZ (l.take j) l[j]=if(!bp l[j] 1 48)=true then 3 else if((l.take j).any λt=>decide (t=l[j]))=true then 5 else 0):=rfl;have h:=λx:aj w w=>aj.calls (iO L l[j] 1 48 x.val (by decide));have a:=λx:aj w w=>aj.same (pY L l[j] x.val ((d.strs x.st).take j (by omega)));obtain⟨s,C⟩:=ex (l[j]);rw[<-C]at o h a⊢;obtain⟨q,i⟩:=ex (bp s 1 48);obtain⟨r,k⟩:=ex ((l.take j).any (λt=>decide (t=s)));rw[<-i,<-k]at o;rw[<-i]at h;rw[<-k]at a;have u:=λx:aj w w=>aj.same (du L (!q) 3 x.val);have v:=λx:aj w w=>aj.same (du L r 5 x.val);obtain⟨y,m⟩:∃f:Int,f=if(!q)=true then 3 else 0:=⟨_,rfl⟩
 obtain⟨fb,hfb⟩:∃f:Int,f=if r=true then 5 else 0:=⟨_,rfl⟩
 rw[<-m]at u;rw[<-hfb]at v;have M:Hid ((if y≠0 then y else fb)=uZ (l.take j) s):=by rw[Hid,o.out,m,hfb];exact J9 q r
 have N:=λx:aj w w=>x.cell n;have O:(j:Int)<=(c:Int):=by omega
 clear C i k m hfb o d n p;go_enter (n108 L),Tryz.ntmps108;go_upto_region 1 with fail;refine aV (w0:=w) (w1:=w) 10 (by kernel_rfl) (by kernel_rfl) (ae.refl _) (Below.refl _ _) ?_;simp only[R7,Sg,Sj,Si];haveI z:Nonempty (aj w w):=⟨⟨w,ae.refl _,Below.refl _ _⟩⟩
 repeat (go_big_quiet_step (first|(go_at_call 72;exact h _)|(go_at_call 109;exact a _)|(go_at_call 52;exact u _)|(go_at_call 52;exact v _)))
 refine wpQuiet_nil ?_;rintro P ⟨⟨_,Q,D⟩,rfl⟩;have A:=dg L y fb P;rw[M.out]at A;have E:Hid _:=D;clear h a u v N z Q D;go_wp2_with (first|(go_at_call 51;refine A.mono ?_;clear A;rintro e w3 ⟨rfl,rfl⟩))
 go_ret;exact⟨rfl,E.out.alloc E.out.size _⟩
def Ie{K:Nat->Prop}{v:Value}{l:List ByteArray}(j:Int)(w:World)(a:aE K 1 kI w v l):
 Calls (Qs fs) 106 #[.int .i64 j,v] w λe w'=>e=.returned (.int .i64 (bq 2 4 uZ l))/\Below w.heap.size w w':=by
 have Pj:=Pj L;obtain⟨ao,c,rfl,s,t,_⟩:=id a;obtain⟨w1,b⟩:=ex (w.alloc (.cells #[.slice ao l.length c] 92));have m:ae w w1:=by rw[b];exact ae.alloc _ _
 have n:Below w.heap.size w w1:=by rw[b];exact aF _ _
 have ct:w1.cell? ⟨w.heap.size,0,none⟩=some (.slice ao l.length c):=by rw[b];exact av w _ 92 0 _ rfl
 obtain⟨N,i⟩:=ex (w.heap.size);rw[<-i]at ct;have d:=a.strs m;have g:=(iX L 108 #[.pointer (some ⟨N,0,none⟩)] 2 4 w1 (λj wr=>ae w1 wr/\Below w.heap.size w wr) (nK uZ l) (QT L)
  ⟨ae.refl _,n⟩ (λj wr h=>h.1) (λj wr o h=>⟨h.1.trans (ae.alloc _ _),h.2.alloc h.2.size _⟩)).2.2.2.2.2.1 _ d
  (λj q wr h=>(E6 L j q N wr (h.1.cell ct) (d.strs h.1)).mono λe w' k=>⟨by rw[fI _ _ _ q];exact k.1,h.1.trans (ae.below k.2),h.2.trans (k.2.mono h.2.size)⟩)
 have g:=g.p;have f:Calls (Qs fs) 107 #[.slice ao l.length c,.int .i64 2,.int .i64 4,.func (.func 108) #[] #[.pointer (some ⟨N,0,none⟩)]] w1 λe w'=>e=.returned (.int .i64 (bq 2 4 uZ l))/\Below w.heap.size w w':=g.mono λe w' h=>by obtain⟨u,j,r,x⟩:=h;exact⟨u,x⟩
 have y:∀(fn:Fn) (first cap:Array Value) (w:World),(Instr.makeFunc fn first cap).run (Qs fs) w=.ok (.func fn first cap) w:=λ_ _ _ _=>rfl;clear g d m n a;go_enter (n106 L),Tryz.ntmps106;go_upto_region 1 with fail;rw[<-b,<-i];clear b i;go_wp2_with (first|(go_at_call 107;refine f.mono ?_;clear f;rintro e w2 ⟨rfl,r⟩))
 go_ret;exact⟨rfl,r⟩
def Ka{K:Nat->Prop}{v0 v1 v2:Value}{l:List (List ByteArray)}(w:World)(c:aE K 1 kj w v2 l):
 Calls (Qs fs) 57 #[.agg #[v0,v1,v2]] w λe w'=>e=.returned (.int .i64 (bq 0 4 su l))/\Below w.heap.size w w':=by
 have Ph:=Ph L;obtain⟨w1,a⟩:=ex (w.alloc (.cells #[v0,v1,v2] 100));have i:ae w w1:=by rw[a];exact ae.alloc _ _
 have n:Below w.heap.size w w1:=by rw[a];exact aF _ _
 have ct:w1.cell? ⟨w.heap.size,2,none⟩=some v2:=by rw[a];exact av w _ 100 2 _ rfl
 obtain⟨N,k⟩:=ex (w.heap.size);rw[<-k]at ct;have d:aE K 1 kj w1 v2 l:=c.stays i λb v o x e h=>by subst e;exact kj.carry (Carry.keep i) b b o x rfl h
 have g:=(iX L 106 #[] 0 4 w1 (λj wr=>ae w1 wr/\Below w.heap.size w wr) (nK su l) (QS L)
  ⟨ae.refl _,n⟩ (λj wr h=>h.1) (λj wr o h=>⟨h.1.trans (ae.alloc _ _),h.2.alloc h.2.size _⟩)).2.2.2.2.2.2.2.2 _ d
  (λj r wr h y s=>(Ie L j wr s).mono λe w' m=>⟨by rw[fI _ _ _ r];exact m.1,h.1.trans (ae.below m.2),h.2.trans (m.2.mono h.2.size)⟩)
 have g:=g.p;have f:Calls (Qs fs) 105 #[v2,.int .i64 0,.int .i64 4,.func (.func 106) #[] #[]] w1 λe w'=>e=.returned (.int .i64 (bq 0 4 su l))/\Below w.heap.size w w':=g.mono λe w' h=>by obtain⟨t,j,q,u⟩:=h;exact⟨t,u⟩
 clear g d i n c;go_enter (n57 L),Tryz.ntmps57;go_upto_region 1 with fail;rw[<-a,<-k];clear a k;go_wp2_with (first|(go_at_call 105;refine f.mono ?_;clear f;rintro e w2 ⟨rfl,q⟩))
 go_ret;exact⟨rfl,q⟩
def Ig:(Tryz.prog.info? 103).map (·.size)=some 1:=by kernel_rfl
def Kb:(Tryz.prog.types[103]?).map (·.size)=some 1:=by kernel_rfl
def E7(fs)(h:103<(Qs fs).types.size):((Qs fs).types[103]'h).size=1:=by have e:=Kb;have a:103<Tryz.prog.types.size:=h;rw[RU a]at e;exact RS e
def CE(w):(Go.sizeOf 103).run (Qs fs) w=.ok 1 w:=by
 rw[uY];have h:=Ig;cases a:Tryz.prog.info? 103 with
 |none=>rw[a]at h;cases h
 |some i=>rw[a]at h;simp only[Sk,Se]at h;simp[Go.sizeOf,typeInfo,a,h]
def Av(w):(isAgg 103).run (Qs fs) w=.ok false w:=by rw[zW];simp[isAgg,run_underlying Tryz.underlying103]
def fJ(A B C w):(Instr.index 104 (.agg #[A,B,C]) (.int .i64 0)).run (Qs fs) w=.ok A w/\(Instr.index 104 (.agg #[A,B,C]) (.int .i64 1)).run (Qs fs) w=.ok B w/\(Instr.index 104 (.agg #[A,B,C]) (.int .i64 2)).run (Qs fs) w=.ok C w:=by
 have a:(Qs fs).underlying 104=some (.array 3 103):=by rw[aH];exact Tryz.underlying104
 refine⟨?_,?_,?_⟩<;>simp[Instr.index,asIntOf,run_underlying a,CE,part,Av]
def Ih(t):km t=if bq 0 12 letterF t.aC≠0 then bq 0 12 letterF t.aC else if bq 0 3 mz t.aO≠0 then bq 0 3 mz t.aO else bq 0 4 su t.iB:=rfl
def jQ{K:Nat->Prop}{v0 v1 v2:Value}{t:Table}(w:World)(p:IsTable K w v0 v1 v2 t):
 Calls (Qs fs) 20 #[.agg #[v0,v1,v2]] w λe w'=>e=.returned (.int .i64 (km t))/\Below w.heap.size w w':=by
 have e55:=e55 L;have e56:=e56 L;have e57:=e57 L;have Z:∀(fn:Fn) (first cap:Array Value) (w:World),(Instr.makeFunc fn first cap).run (Qs fs) w=.ok (.func fn first cap) w:=λ_ _ _ _=>rfl;obtain⟨G,H,rfl,_⟩:=id p.1;obtain⟨a1,I,rfl,_⟩:=id p.2.1;obtain⟨J,M,rfl,_⟩:=id p.2.2;have f:=λk (D:ae w k)=>Cz L (v1:=.slice a1 t.aO.length I) (v2:=.slice J t.iB.length M) k (p.1.yT D);have g:=λk (D:ae w k)=>Ic L (v0:=.slice G t.aC.length H) (v2:=.slice J t.iB.length M) k (p.stays D).2.1;have i:=λk (D:ae w k)=>Ka L (v0:=.slice G t.aC.length H) (v1:=.slice a1 t.aO.length I) k (p.stays D).2.2;have aa:=E7 fs;have E:Hid _:=Ih t;obtain⟨N,r⟩:=ex (bq 0 12 letterF t.aC);obtain⟨fb,hfb⟩:=ex (bq 0 3 mz t.aO);obtain⟨O,s⟩:=ex (bq 0 4 su t.iB);rw[<-r,<-hfb,<-s]at E;rw[<-r]at f;rw[<-hfb]at g;rw[<-s]at i;clear r hfb s p;obtain⟨T,u⟩:=ex (t.aC.length);obtain⟨U,v⟩:=ex (t.aO.length);obtain⟨V,x⟩:=ex (t.iB.length);rw[<-u,<-v,<-x];rw[<-u,<-v,<-x]at f g i;obtain⟨w1,y⟩:=ex ((w.alloc (.cells #[.slice G T H,.slice a1 U I,.slice J V M] 26)).alloc (.cells #[.slice G T H,.slice a1 U I,.slice J V M] 100));have W:Hid (ae w w1/\Below w.heap.size w w1):=by rw[Hid,y];exact⟨(ae.alloc _ _).trans (ae.alloc _ _),((Below.refl _ w).alloc (Ro _) _).alloc (by simp) _⟩
 clear u v x;go_enter (n20 L),Tryz.ntmps20;go_upto_region 3 with fail;rw[<-y];clear y;go_loopw [16] (λz wr=>∃j:Nat,j<=3/\z=.int .i64 j/\ae w wr/\Below w.heap.size w wr/\(0<j->N=0)/\(1<j->fb=0)/\(2<j->O=0)) (λz _=>3-(intOf z).toNat)
 case atStart=>exact⟨0,by omega,rfl,W.out.1,W.out.2,by omega,by omega,by omega⟩
 case round=>
  obtain⟨j,hj,rfl,c,o,P,X,h2⟩:=hrel;have l:Hid _:=o;clear o
  match j,hj with
  |0,_=>
   have q:=f wr c;have F:Hid _:=c;by_cases a:N=0
   ·rw[a]at q
    clear f g i c;have m:=λA B C k=>fJ (fs:=fs) A B C k;rw[show((0:Nat):Int)=0 from rfl];go_wp2_with (first|(go_at_call 55;refine q.mono ?_;clear q;rintro e w2 ⟨rfl,b⟩))
    exact⟨⟨1,by omega,by go_num,ae.trans F.out (ae.below b),l.out.trans (b.mono l.out.size),λ_=>a,by omega,by omega⟩,by simp[intOf]⟩
   ·have Y:(N !=0)=true:=by simpa using a
    clear f g i c;have m:=λA B C k=>fJ (fs:=fs) A B C k;rw[show((0:Nat):Int)=0 from rfl];go_wp2_with (first|(go_at_call 55;refine q.mono ?_;clear q;rintro e w2 ⟨rfl,b⟩))
    go_ret;exact⟨by rw[E.out,Rn a];rfl,l.out.trans (b.mono l.out.size)⟩
  |1,_=>
   have q:=g wr c;have a:=P (by omega);have F:Hid _:=c;by_cases d:fb=0
   ·rw[d]at q
    clear f g i c;have m:=λA B C k=>fJ (fs:=fs) A B C k;rw[show((1:Nat):Int)=1 from rfl];go_wp2_with (first|(go_at_call 56;refine q.mono ?_;clear q;rintro e w2 ⟨rfl,b⟩))
    exact⟨⟨2,by omega,by go_num,ae.trans F.out (ae.below b),l.out.trans (b.mono l.out.size),λ_=>a,λ_=>d,by omega⟩,by simp[intOf]⟩
   ·have Y:(fb !=0)=true:=by simpa using d
    clear f g i c;have m:=λA B C k=>fJ (fs:=fs) A B C k;rw[show((1:Nat):Int)=1 from rfl];go_wp2_with (first|(go_at_call 56;refine q.mono ?_;clear q;rintro e w2 ⟨rfl,b⟩))
    go_ret;exact⟨by rw[E.out,Rm (λh=>h a),Rn d];rfl,l.out.trans (b.mono l.out.size)⟩
  |2,_=>
   have q:=i wr c;have a:=P (by omega);have d:=X (by omega);have F:Hid _:=c;by_cases n:O=0
   ·rw[n]at q
    clear f g i c;have m:=λA B C k=>fJ (fs:=fs) A B C k;rw[show((2:Nat):Int)=2 from rfl];go_wp2_with (first|(go_at_call 57;refine q.mono ?_;clear q;rintro e w2 ⟨rfl,b⟩))
    exact⟨⟨3,by omega,by go_num,ae.trans F.out (ae.below b),l.out.trans (b.mono l.out.size),λ_=>a,λ_=>d,λ_=>n⟩,by simp[intOf]⟩
   ·have Y:(O !=0)=true:=by simpa using n
    clear f g i c;have m:=λA B C k=>fJ (fs:=fs) A B C k;rw[show((2:Nat):Int)=2 from rfl];go_wp2_with (first|(go_at_call 57;refine q.mono ?_;clear q;rintro e w2 ⟨rfl,b⟩))
    go_ret;exact⟨by rw[E.out,Rm (λh=>h a),Rm (λh=>h d)];rfl,l.out.trans (b.mono l.out.size)⟩
  |3,_=>have Q:=P (by omega);have R:=X (by omega);have S:=h2 (by omega);clear f g i c;go_wp2;go_ret;exact⟨by rw[E.out,Rm (λh=>h Q),Rm (λh=>h R),S];rfl,l.out⟩
def CF(k:Int)(w:World):Calls (Qs fs) 66 #[.int .i64 k] w λe w'=>e=.returned (.bool (au k 0 5))/\w'=w:=by
 have e63:=e63 L;have a:=b9 fs (n63 L) k 0 5 w;go_enter (n66 L),Tryz.ntmps66;go_wp2_with (first|(go_at_call 63;refine a.mono ?_;clear a;rintro e w2 ⟨rfl,rfl⟩))
 go_ret;exact⟨rfl,rfl⟩
def vO(a b):(if(if(!a)=true then(1:Int)else 0)≠0 then(if(!a)=true then(1:Int)else 0)else(if b=true then(7:Int)else 0))=if(!a)=true then 1 else if b=true then 7 else 0:=by cases a<;>cases b<;>rfl
def MH(l:List Int)(n):codeF (l.take 0) n=if(!au n 0 999)=true then 1 else if(false:Bool)=true then 7 else 0:=rfl
def GF(l:List Int)(k)(a:k<l.length)(n):codeF (l.take (k+1)) n=if(!au n 0 999)=true then 1 else if(decide (n<=l[k]))=true then 7 else 0:=by unfold codeF;rw[Tn a,VE];rfl
def Aw{K:Nat->Prop}{ao:Option Addr}{c:Nat}{l:List Int}(j:Nat)(N:j<l.length)(D:Nat)(w:World)(F:w.cell? ⟨D,2,none⟩=some (.slice ao l.length c))(i:aE K 1 dx w (.slice ao l.length c) l):
 Calls (Qs fs) 114 #[.int .i64 j,.int .i64 l[j],.pointer (some ⟨D,0,none⟩)] w λe w'=>e=.returned (.int .i64 (codeF (l.take j) l[j]))/\Below w.heap.size w w':=by
 have e52:=e52 L;have e63:=e63 L;have e51:=e51 L;obtain⟨O,c',G,H,I,u,a⟩:=id i;cases G;obtain⟨n,z⟩:=ex (l[j]);rw[<-z];have d:=b9 fs (n63 L) n 0 999 w;obtain⟨z1,g⟩:=ex (au n 0 999);have o:(decide (0<=n)&&decide (n<=999))=z1:=g.symm;rw[o]at d;have v:=λp=>du L (!z1) 1 p;obtain⟨r,h⟩:∃f:Int,f=if(!z1)=true then 1 else 0:=⟨_,rfl⟩
 rw[<-h]at v;cases j with
 |zero=>
  have x:Hid ((if r≠0 then r else(if(false:Bool)=true then 7 else 0))=codeF (l.take 0) n):=by rw[Hid,MH,<-g,h];exact vO z1 false
  have t:=λp=>du L false 7 p;have q:=λp=>dg L r (if(false:Bool)=true then 7 else 0) p;rw[x.out]at q;clear z g o h i u a;go_enter (n114 L),Tryz.ntmps114;go_wp2_with (first|(go_at_call 63;refine d.mono ?_;clear d;rintro e w2 ⟨rfl,rfl⟩)|(go_at_call 52;refine(v _).mono ?_;clear v;rintro e w2 ⟨rfl,rfl⟩)|(go_at_call 52;refine(t _).mono ?_;clear t;rintro e w2 ⟨rfl,rfl⟩)|(go_at_call 51;refine(q _).mono ?_;clear q;rintro e w3 ⟨rfl,rfl⟩))
  go_ret;exact⟨rfl,(Below.refl _ _).alloc (Ro _) _⟩
 |succ k=>
  have B:k<l.length:=by omega
  obtain⟨b,C,rfl,A⟩:=a k B;rw[SK]at A;have A:w.cell? ⟨b,C+k,none⟩=some (.int .i64 l[k]):=A;obtain⟨m,y⟩:=ex (l[k]);rw[<-y]at A;have J:(k:Int)<(l.length:Int):=by omega
  have M:(k:Int)+1>0:=by omega
  by_cases s:n<=m
  ·have x:Hid ((if r≠0 then r else 7)=codeF (l.take (k+1)) n):=by rw[Hid,GF l k B,<-g,h,<-y,Ry s];exact vO z1 true
   have t:=λp=>du L true 7 p;have q:=λp=>dg L r 7 p;rw[x.out]at q;clear z g o h i u a y x;go_enter (n114 L),Tryz.ntmps114;go_wp2_with (first|(go_at_call 63;refine d.mono ?_;clear d;rintro e w2 ⟨rfl,rfl⟩)|(go_at_call 52;refine(v _).mono ?_;clear v;rintro e w2 ⟨rfl,rfl⟩)|(go_at_call 52;refine(t _).mono ?_;clear t;rintro e w2 ⟨rfl,rfl⟩)|(go_at_call 51;refine(q _).mono ?_;clear q;rintro e w3 ⟨rfl,rfl⟩))
   go_ret;exact⟨rfl,(Below.refl _ _).alloc (Ro _) _⟩
  ·have x:Hid ((if r≠0 then r else 0)=codeF (l.take (k+1)) n):=by rw[Hid,GF l k B,<-g,h,<-y,Rr s];exact vO z1 false
   have E:decide (n<=m)=false:=Rr s;clear s;have t:=λp=>du L false 7 p;have q:=λp=>dg L r 0 p;rw[x.out]at q;clear z g o h i u a y x;go_enter (n114 L),Tryz.ntmps114;go_wp2_with (first|(go_at_call 63;refine d.mono ?_;clear d;rintro e w2 ⟨rfl,rfl⟩)|(go_at_call 52;refine(v _).mono ?_;clear v;rintro e w2 ⟨rfl,rfl⟩)|(go_at_call 52;refine(t _).mono ?_;clear t;rintro e w2 ⟨rfl,rfl⟩)|(go_at_call 51;refine(q _).mono ?_;clear q;rintro e w3 ⟨rfl,rfl⟩))
   go_ret;exact⟨rfl,(Below.refl _ _).alloc (Ro _) _⟩
def CG(a b c):(if(if(!a)=true then(4:Int)else 0)≠0 then(if(!a)=true then(4:Int)else 0)else(if(b&& !c)=true then(3:Int)else 0))=if(!a)=true then 4 else if(b&& !c)=true then 3 else 0:=by cases a<;>cases b<;>cases c<;>rfl
def Kd(m):eY m=if(if(!gX m.name)=true then(4:Int)else if(!m.word.data.toList.isEmpty&& !dz m.word 16)=true then 3 else 0)≠0 then(if(!gX m.name)=true then(4:Int)else if(!m.word.data.toList.isEmpty&& !dz m.word 16)=true then 3 else 0)else
 if bq 0 5 codeF m.aX≠0 then bq 0 5 codeF m.aX else if(!au m.day 0 99999)=true then 1 else 0:=by
 unfold eY;cases gX m.name with
 |false=>rfl
 |true=>
  cases(!m.word.data.toList.isEmpty&& !dz m.word 16)with
  |true=>rfl
  |false=>rfl
def CH(s:ByteArray):s.toList.isEmpty=s.data.toList.isEmpty:=by rw[Lib.toList_data]
def Ol{K:Nat->Prop}{ao:Option Addr}{c:Nat}{l:List Int}(b:Nat)(w:World)(d:w.cell? ⟨b,2,none⟩=some (.slice ao l.length c))(a:aE K 1 dx w (.slice ao l.length c) l):
 Calls (Qs fs) 82 #[.slice ao l.length c,.int .i64 0,.int .i64 5,.func (.func 114) #[] #[.pointer (some ⟨b,0,none⟩)]] w λe w'=>e=.returned (.int .i64 (bq 0 5 codeF l))/\Below w.heap.size w w':=by
 have f:=(iX L 114 #[.pointer (some ⟨b,0,none⟩)] 0 5 w (λ_ wr=>Below w.heap.size w wr) (nK codeF l) (QU L) (Below.refl _ _) (λj wr h=>ae.below h) (λj wr o h=>h.alloc h.size _)).2.2.2.2.1 _ a
  (λj g wr h=>(Aw L j g b wr ((ae.below h).cell d) (a.ints (ae.below h))).mono λe w' i=>⟨by rw[fI _ _ _ g];exact i.1,h.trans (i.2.mono h.size)⟩)
 have f:=f.p;exact f.mono λe w' h=>by obtain⟨k,j,m⟩:=h;exact⟨k,m⟩
def kQ{K:Nat->Prop}{mc:Array Value}{m:Mark}(w:World)(hm:di K w mc m):
 Calls (Qs fs) 67 #[.agg mc] w λe w'=>e=.returned (.int .i64 (eY m))/\Below w.heap.size w w':=by
 obtain⟨vf,rfl,r⟩:=hm;obtain⟨ao,c,rfl,_⟩:=id r;have Mh:=Mh L;have e99:=e99 L;have e52:=e52 L;have e51:=e51 L;have e82:=e82 L;have e63:=e63 L;have ag:∀(fn:Fn) (first cap:Array Value) (w:World),(Instr.makeFunc fn first cap).run (Qs fs) w=.ok (.func fn first cap) w:=λ_ _ _ _=>rfl;obtain⟨w1,n⟩:=ex (w.alloc (.cells #[.string m.name,.string m.word,.slice ao m.aX.length c,.int .i64 m.day,.bool m.known] 38));have S1:ae w w1:=by rw[n];exact ae.alloc _ _
 have B1:Below w.heap.size w w1:=by rw[n];exact aF _ _
 have ct:∀i v,(#[.string m.name,.string m.word,.slice ao m.aX.length c,.int .i64 m.day,.bool m.known]:Array Value)[i]? =some v->w1.cell? ⟨w.heap.size,i,none⟩=some v:=λi v h=>by rw[n];exact av w _ 38 i v h
 obtain⟨N,hN⟩:=ex (w.heap.size);have f0:=ct 0 _ rfl;have f1:=ct 1 _ rfl;have Q:=ct 2 _ rfl;have S:=ct 3 _ rfl;rw[<-hN]at f0 f1 Q S;have ab:=λx:aj w1 w1=>x.cell f0;have ad:=λx:aj w1 w1=>x.cell f1;have o:=λa (h:ae w1 a)=>Ol L N a (h.cell Q) (r.ints (S1.trans h));have d:=λx:aj w1 w1=>aj.calls (GD L m.name x.val);have s:=λx:aj w1 w1=>aj.calls (vN L m.word 16 x.val (by decide));have t:=λa=>b9 fs (n63 L) m.day 0 99999 a;have G:Hid _:=Kd m;obtain⟨z1,H⟩:=ex (gX m.name);obtain⟨z2,I⟩:=ex (dz m.word 16);obtain⟨z3,J⟩:=ex (au m.day 0 99999);have R:(decide (0<=m.day)&&decide (m.day<=99999))=z3:=J.symm;rw[R]at t;rw[<-H]at d;rw[<-I]at s;obtain⟨y0,T⟩:=ex (bq 0 5 codeF m.aX);rw[<-T]at o;obtain⟨F,g⟩:=ex ((if(!gX m.name)=true then(4:Int)else if(!m.word.data.toList.isEmpty&& !dz m.word 16)=true then 3 else 0));rw[<-g,<-T,<-J]at G;rw[<-H,<-I]at g;have qa:=λx:aj w1 w1=>aj.same (du L (!z1) 4 x.val);obtain⟨p,u⟩:∃f:Int,f=if(!z1)=true then 4 else 0:=⟨_,rfl⟩
 rw[<-u]at qa;have HF:Hid True:=trivial;clear r ct T R;by_cases hw:m.word.toList.isEmpty=true
 ·have U:m.word.toList.isEmpty=true:=hw
  have hW:(!m.word.data.toList.isEmpty)=false:=by rw[<-CH,U];rfl
  rw[hW]at g;have V:=λx:aj w1 w1=>aj.same (du L false 3 x.val);have HB:Hid _:=B1;have HS:Hid _:=S1;have y:Hid ((if p≠0 then p else(if false=true then(3:Int)else 0))=F):=by rw[Hid,g,u];exact CG z1 false z2
  obtain⟨fb,hfb⟩:∃f:Int,f=if false=true then 3 else 0:=⟨_,rfl⟩
  rw[<-hfb]at V y;clear hw hW hfb g u H I J HF;go_enter (n67 L),Tryz.ntmps67;go_upto_region 1 with fail;rw[<-n,<-hN];clear n hN B1 S1;refine aV (w0:=w1) (w1:=w1) 15 (by kernel_rfl) (by kernel_rfl) (ae.refl _) (Below.refl _ _) ?_;simp only[R7,Sg,Sj,Si];haveI W:Nonempty (aj w1 w1):=⟨⟨w1,ae.refl _,Below.refl _ _⟩⟩
  repeat (go_big_quiet_step (first|(go_at_call 102;exact d _)|(go_at_call 99;exact s _)|(go_at_call 52;exact qa _)|(go_at_call 52;exact V _)))
  refine wpQuiet_nil ?_;rintro j ⟨⟨_,z,X⟩,rfl⟩;have A:=dg L p fb j;rw[y.out]at A;clear d s qa V W ab ad;have Y:=λa (h:ae j a)=>h.cell (z.cell Q);have M:=λa (h:ae j a)=>h.cell (z.cell S);have O:Hid (Below w.heap.size w j):=HB.out.trans (X.mono HB.out.size);by_cases q:F=0
  ·have Z:(F !=0)=false:=by rw[q];rfl
   have k:=λa (h:ae j a)=>o a (z.trans h);have b:Hid (eY m=if y0≠0 then y0 else if(!z3)=true then 1 else 0):=by rw[Hid,G.out,Rm (λh=>h q)]
   have af:=Y _ (ae.alloc j (.cells #[.int .i64 p,.int .i64 fb] 29));have aa:=M _ (ae.alloc j (.cells #[.int .i64 p,.int .i64 fb] 29));have l:=k _ (ae.alloc j (.cells #[.int .i64 p,.int .i64 fb] 29));have P:=λa=>dg L y0 (if(!z3)=true then 1 else 0) a;rw[<-b.out]at P;have qd:=λa=>du L (!z3) 1 a;obtain⟨fd,B⟩:∃f:Int,f=if(!z3)=true then 1 else 0:=⟨_,rfl⟩
   rw[<-B]at P qd;have HY:Hid _:=M;clear o k Y M z X Q S G q B b;go_wp2_with (first|(go_at_call 51;refine A.mono ?_;clear A;rintro e w3 ⟨rfl,rfl⟩)|(go_at_call 82;refine l.mono ?_;clear l;rintro e w4 ⟨rfl,C⟩;have z4:=(ae.below C).cell aa)|(go_at_call 63;refine(t _).mono ?_;clear t;rintro e w5 ⟨rfl,rfl⟩)|(go_at_call 52;refine(qd _).mono ?_;clear qd;rintro e w6 ⟨rfl,rfl⟩)|(go_at_call 51;refine(P _).mono ?_;clear P;rintro e w7 ⟨rfl,rfl⟩))
   go_ret;have D:=O.out.alloc O.out.size (.cells #[.int .i64 p,.int .i64 fb] 29);have E:=D.trans (C.mono D.size);exact⟨rfl,E.alloc E.size _⟩
  ·have Z:(F !=0)=true:=by simpa using q
   have b:Hid (eY m=F):=by rw[Hid,G.out,Rn q]
   clear o Y M z X Q S G q;go_wp2_with (first|(go_at_call 51;refine A.mono ?_;clear A;rintro e w3 ⟨rfl,rfl⟩))
   go_ret;exact⟨by rw[b.out];rfl,O.out.alloc O.out.size _⟩
 ·have U:m.word.toList.isEmpty=false:=by simpa using hw
  have hW:(!m.word.data.toList.isEmpty)=true:=by rw[<-CH,U];rfl
  rw[hW]at g;have V:=λx:aj w1 w1=>aj.same (du L (!z2) 3 x.val);have HB:Hid _:=B1;have HS:Hid _:=S1;have y:Hid ((if p≠0 then p else(if(!z2)=true then(3:Int)else 0))=F):=by rw[Hid,g,u];exact CG z1 true z2
  obtain⟨fb,hfb⟩:∃f:Int,f=if(!z2)=true then 3 else 0:=⟨_,rfl⟩
  rw[<-hfb]at V y;clear hw hW hfb g u H I J HF;go_enter (n67 L),Tryz.ntmps67;go_upto_region 1 with fail;rw[<-n,<-hN];clear n hN B1 S1;refine aV (w0:=w1) (w1:=w1) 15 (by kernel_rfl) (by kernel_rfl) (ae.refl _) (Below.refl _ _) ?_;simp only[R7,Sg,Sj,Si];haveI W:Nonempty (aj w1 w1):=⟨⟨w1,ae.refl _,Below.refl _ _⟩⟩
  repeat (go_big_quiet_step (first|(go_at_call 102;exact d _)|(go_at_call 99;exact s _)|(go_at_call 52;exact qa _)|(go_at_call 52;exact V _)))
  refine wpQuiet_nil ?_;rintro j ⟨⟨_,z,X⟩,rfl⟩;have A:=dg L p fb j;rw[y.out]at A;clear d s qa V W ab ad;have Y:=λa (h:ae j a)=>h.cell (z.cell Q);have M:=λa (h:ae j a)=>h.cell (z.cell S);have O:Hid (Below w.heap.size w j):=HB.out.trans (X.mono HB.out.size);by_cases q:F=0
  ·have Z:(F !=0)=false:=by rw[q];rfl
   have k:=λa (h:ae j a)=>o a (z.trans h);have b:Hid (eY m=if y0≠0 then y0 else if(!z3)=true then 1 else 0):=by rw[Hid,G.out,Rm (λh=>h q)]
   have af:=Y _ (ae.alloc j (.cells #[.int .i64 p,.int .i64 fb] 29));have aa:=M _ (ae.alloc j (.cells #[.int .i64 p,.int .i64 fb] 29));have l:=k _ (ae.alloc j (.cells #[.int .i64 p,.int .i64 fb] 29));have P:=λa=>dg L y0 (if(!z3)=true then 1 else 0) a;rw[<-b.out]at P;have qd:=λa=>du L (!z3) 1 a;obtain⟨fd,B⟩:∃f:Int,f=if(!z3)=true then 1 else 0:=⟨_,rfl⟩
   rw[<-B]at P qd;have HY:Hid _:=M;clear o k Y M z X Q S G q B b;go_wp2_with (first|(go_at_call 51;refine A.mono ?_;clear A;rintro e w3 ⟨rfl,rfl⟩)|(go_at_call 82;refine l.mono ?_;clear l;rintro e w4 ⟨rfl,C⟩;have z4:=(ae.below C).cell aa)|(go_at_call 63;refine(t _).mono ?_;clear t;rintro e w5 ⟨rfl,rfl⟩)|(go_at_call 52;refine(qd _).mono ?_;clear qd;rintro e w6 ⟨rfl,rfl⟩)|(go_at_call 51;refine(P _).mono ?_;clear P;rintro e w7 ⟨rfl,rfl⟩))
   go_ret;have D:=O.out.alloc O.out.size (.cells #[.int .i64 p,.int .i64 fb] 29);have E:=D.trans (C.mono D.size);exact⟨rfl,E.alloc E.size _⟩
  ·have Z:(F !=0)=true:=by simpa using q
   have b:Hid (eY m=F):=by rw[Hid,G.out,Rn q]
   clear o Y M z X Q S G q;go_wp2_with (first|(go_at_call 51;refine A.mono ?_;clear A;rintro e w3 ⟨rfl,rfl⟩))
   go_ret;exact⟨by rw[b.out];rfl,O.out.alloc O.out.size _⟩
end Go.Proofs

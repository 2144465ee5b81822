import Derived.Test.YtaglpcmhopjebaaGreatDoorQ29
set_option linter.all false
set_option maxRecDepth 100000
set_option maxHeartbeats 20000000
namespace Go.Proofs
open Go.Tm Go.RowKit
variable {fs:Array Func} (L:bU fs)
def IL{K:Nat->Prop}{v0 v1 v2:Value}{l:List jw}(w:World)(f:aE K 2 eT w v1 l):
 Calls (Qs fs) 56 #[.agg #[v0,v1,v2]] w λe w'=>e=.returned (.int .i64 (aP 0 3 da l))/\Below w.heap.size w w':=by
 have PX:=PX L;obtain⟨i,a⟩:=ex (w.alloc (.cells #[v0,v1,v2] 100));obtain⟨k,c⟩:=ex (i.alloc (.map #[] 0));obtain⟨w1,d⟩:=ex (k.alloc (.cells #[.map (some (w.heap.size+1))] 133));have g:i.heap.size=w.heap.size+1:=by rw[a];simp
 have hsb:k.heap.size=w.heap.size+1+1:=by rw[c,<-g];simp
 have A:ae k w1:=by rw[d];exact ae.alloc _ _
 have y:ae i w1:=(by rw[c];exact ae.alloc _ _:ae i k).trans A;have z:ae w w1:=(by rw[a];exact ae.alloc _ _:ae w i).trans y;have B:Below w.heap.size w w1:=by rw[d,c,a];exact(((Below.refl _ w).alloc (R2 _) _).alloc (by simp) _).alloc (by simp;omega) _
 have ct:w1.cell? ⟨w.heap.size,1,none⟩=some v1:=y.cell (by rw[a];exact aw w _ 100 1 _ rfl);have C:w1.cell? ⟨w.heap.size+1+1,0,none⟩=some (.map (some (w.heap.size+1))):=by rw[d,<-hsb];exact aw k _ 133 0 _ rfl
 have m:bL w1 (w.heap.size+1) (λ_=>false):=by have h:=bL.new i;rw[g,<-c]at h;exact h.keep (by rw[d];exact Below.heap_alloc k _ _ (by omega))
 have n:aE K 2 eT w1 v1 l:=f.stays z λb O o x e h=>by subst e;exact eT.carry (Carry.keep z) b b o x rfl h
 have r:=(jS L 101 #[.pointer (some ⟨w.heap.size+1+1,0,none⟩)] 0 3 w1 (λj wr=>ae w1 wr/\Below w.heap.size w wr/\bL wr (w.heap.size+1) (λt=>(l.take j).any (λq=>decide (q.name=t)))) (vL da l) (Rn L)
  ⟨ae.refl _,B,m⟩ (λj wr h=>h.1) (λj wr o h=>⟨h.1.trans (ae.alloc _ _),h.2.1.alloc h.2.1.size _,h.2.2.keep (Below.heap_alloc wr o _ h.2.2.lt)⟩)).2.2.2.2.2.2.2.1 _ n
  (λj D wr h F G=>(Fs L j l[j] F (w.heap.size+1+1) (w.heap.size+1) _ wr (h.1.cell C) h.2.2 G).mono λe w' u=>⟨by rw[iU _ _ _ D];exact u.1,h.1.trans u.2.2.2,h.2.1.trans (u.2.2.1 _ (by omega)),u.2.1.iff λt=>by rw[lG l _ j D,kV t]⟩)
 have r:=r.p;obtain⟨N,v⟩:=ex (w.heap.size);rw[<-v]at ct r;have s:Calls (Qs fs) 100 #[v1,.int .i64 0,.int .i64 3,.func (.func 101) #[] #[.pointer (some ⟨N+1+1,0,none⟩)]] w1 λe w'=>e=.returned (.int .i64 (aP 0 3 da l))/\Below w.heap.size w w':=r.mono λe w' h=>by obtain⟨H,j,E,I,_⟩:=h;exact⟨H,by rw[<-v];exact I⟩
 have J:∀(fn:Fn) (first cap:Array Value) (w:World),(Instr.makeFunc fn first cap).run (Qs fs) w=.ok (.func fn first cap) w:=λ_ _ _ _=>rfl;have M:∀(t:TypeId) (w:World),(Instr.makeMap t none).run (Qs fs) w=.ok (.map (some w.heap.size)) (w.alloc (.map #[] 0)):=λ_ _=>rfl;clear r m C n z B f;go_enter (n56 L),Tryz.ntmps56;go_upto_region 2 with fail;rw[<-a,<-c,<-d,<-v];clear a c d g hsb y A v;go_wp2_with (first|(go_at_call 100;refine s.mono ?_;clear s;rintro e w2 ⟨rfl,E⟩))
 go_ret;exact⟨rfl,E⟩
def NA{K:Nat->Prop}{v:Value}{l:List ByteArray}(s:ByteArray)(w:World)(k:aE K 1 kq w v l):
 Calls (Qs fs) 137 #[v,.string s] w λe w'=>(∃z:Int,e=.returned (.int .i64 z)/\decide (0<=z)=l.any (λt=>decide (t=s)))/\w'=w:=by
 obtain⟨G,c,rfl,A,H,B,d⟩:=k;have C:Hid _:=d;clear d;go_enter (n137 L),Tryz.ntmps137;go_wp2;go_loopw [8] (λz wr=>∃j:Nat,j<=l.length/\z=.int .i64 j/\wr=w/\∀i (m:i<l.length),i<j->l[i]≠s) (λz _=>l.length-(intOf z).toNat)
 case atStart=>exact⟨0,R9 _,rfl,rfl,λi m h=>by omega⟩
 case round=>
  obtain⟨j,I,rfl,rfl,n⟩:=hrel;have u:Hid _:=n;clear n;obtain o|hge:=R5 j l.length
  ·obtain⟨b,q,rfl,p⟩:=C.out j o
   rw[Tn]at p;have r:wr.cell? ⟨b,q+j,none⟩=some (.string l[j]):=p;have D:(j:Int)<(l.length:Int):=by omega
   obtain⟨x,f⟩:=ex (l[j]);rw[<-f]at r;have y:Hid _:=f;clear p f;by_cases a:s=x
   ·have E:(s.toList==x.toList)=true:=by rw[jN];exact Sd a
    have g:Hid _:=a;clear a;go_wp2;go_ret;refine⟨⟨(j:Int),rfl,?_⟩,rfl⟩;rw[Sd (by omega),TX,Tj];exact⟨l[j],Sg o,Sd (by rw[g.out,y.out])⟩
   ·have E:(s.toList==x.toList)=false:=by rw[jN];exact R8 a
    have g:Hid _:=a;clear a;go_wp2;refine⟨⟨j+1,by omega,by go_num,trivial,λi m F=>?_⟩,by simp[intOf];omega⟩;by_cases h:i<j
    ·exact u.out i m h
    ·obtain rfl:i=j:=by omega
     rw[<-y.out];exactλh=>g.out h.symm
  ·go_wp2
   go_ret;refine⟨⟨-1,rfl,?_⟩,rfl⟩;rw[R8 (by decide),TX,T5];intro x p;obtain⟨i,m,rfl⟩:=TO.1 p;simpa using u.out i m (by omega)
def pX{K:Nat->Prop}{v:Value}{l:List ByteArray}(s:ByteArray)(w:World)(a:aE K 1 kq w v l):
 Calls (Qs fs) 109 #[v,.string s] w λe w'=>e=.returned (.bool (l.any (λt=>decide (t=s))))/\w'=w:=by
 have Qf:=Qf L;have b:=NA L s w a;clear a;go_enter (n109 L),Tryz.ntmps109;go_wp2_with (first|(go_at_call 137;refine b.mono ?_;clear b;rintro e w2 ⟨⟨z,rfl,c⟩,rfl⟩;have d:Hid _:=c;clear c))
 go_ret;exact⟨by rw[<-d.out];rfl,rfl⟩
def K4(a b):(if(if(!a)=true then(3:Int)else 0)≠0 then(if(!a)=true then(3:Int)else 0)else(if b=true then(5:Int)else 0))=if(!a)=true then 3 else if b=true then 5 else 0:=by cases a<;>cases b<;>rfl
def aE.take{i K g E w d c}{l:List i}(h:aE K g E w (.slice d l.length c) l)(j)(m:j<=l.length):aE K g E w (.slice d j c) (l.take j):=by obtain⟨a,c',e,s,n,o,p⟩:=h;cases e;refine⟨d,c,by rw[Tp,Nat.min_eq_left m],by rw[Tp];omega,n,o,λk q=>?_⟩;rw[Tp]at q;obtain⟨b,f,e,r⟩:=p k (by omega);exact⟨b,f,e,by rw[List.getElem_take];exact r⟩
def Ft{K:Nat->Prop}{B:Option Addr}{c:Nat}{l:List ByteArray}(j:Nat)(G:j<l.length)(C:Nat)(w:World)(n:w.cell? ⟨C,0,none⟩=some (.slice B l.length c))(d:aE K 1 kq w (.slice B l.length c) l):
 Calls (Qs fs) 108 #[.int .i64 j,.string l[j],.pointer (some ⟨C,0,none⟩)] w λe w'=>e=.returned (.int .i64 (je (l.take j) l[j]))/\Below w.heap.size w w':=by
 have e52:=e52 L;have e72:=e72 L;have e51:=e51 L;have M8:=M8 L;obtain⟨S,c',H,I,J,p,g⟩:=id d;cases H;obtain⟨b,M,rfl,_⟩:=g j G;clear g;have o:Hid (je (l.take j) l[j]=if(!aX l[j] 1 48)=true then 3 else if((l.take j).any λt=>decide (t=l[j]))=true then 5 else 0):=rfl;have h:=λx:aj w w=>aj.calls (j6 L l[j] 1 48 x.val (by decide));have a:=λx:aj w w=>aj.same (pX L l[j] x.val ((d.strs x.st).take j (by omega)));obtain⟨s,D⟩:=ex (l[j]);rw[<-D]at o h a⊢;obtain⟨q,i⟩:=ex (aX s 1 48);obtain⟨r,k⟩:=ex ((l.take j).any (λt=>decide (t=s)));rw[<-i,<-k]at o;rw[<-i]at h;rw[<-k]at a;have u:=λx:aj w w=>aj.same (dz L (!q) 3 x.val);have v:=λx:aj w w=>aj.same (dz L r 5 x.val);obtain⟨y,m⟩:∃f:Int,f=if(!q)=true then 3 else 0:=⟨_,rfl⟩
 obtain⟨fb,hfb⟩:∃f:Int,f=if r=true then 5 else 0:=⟨_,rfl⟩
 rw[<-m]at u;rw[<-hfb]at v;have N:Hid ((if y≠0 then y else fb)=je (l.take j) s):=by rw[Hid,o.out,m,hfb];exact K4 q r
 have O:=λx:aj w w=>x.cell n;have P:(j:Int)<=(c:Int):=by omega
 clear D i k m hfb o d n p;go_enter (n108 L),Tryz.ntmps108;go_upto_region 1 with fail;refine aU (w0:=w) (w1:=w) 10 (by kernel_rfl) (by kernel_rfl) (ae.refl _) (Below.refl _ _) ?_;simp only[SN,SI,SZ,SP];haveI z:Nonempty (aj w w):=⟨⟨w,ae.refl _,Below.refl _ _⟩⟩
 repeat (go_big_quiet_step (first|(go_at_call 72;exact h _)|(go_at_call 109;exact a _)|(go_at_call 52;exact u _)|(go_at_call 52;exact v _)))
 refine wpQuiet_nil ?_;rintro Q ⟨⟨_,R,E⟩,rfl⟩;have A:=cJ L y fb Q;rw[N.out]at A;have F:Hid _:=E;clear h a u v O z R E;go_wp2_with (first|(go_at_call 51;refine A.mono ?_;clear A;rintro e w3 ⟨rfl,rfl⟩))
 go_ret;exact⟨rfl,F.out.alloc F.out.size _⟩
def IM{K:Nat->Prop}{v:Value}{l:List ByteArray}(j:Int)(w:World)(a:aE K 1 kq w v l):
 Calls (Qs fs) 106 #[.int .i64 j,v] w λe w'=>e=.returned (.int .i64 (aP 2 4 je l))/\Below w.heap.size w w':=by
 have P1:=P1 L;obtain⟨i,c,rfl,t,u,_⟩:=id a;obtain⟨w1,b⟩:=ex (w.alloc (.cells #[.slice i l.length c] 92));have n:ae w w1:=by rw[b];exact ae.alloc _ _
 have q:Below w.heap.size w w1:=by rw[b];exact aG _ _
 have ct:w1.cell? ⟨w.heap.size,0,none⟩=some (.slice i l.length c):=by rw[b];exact aw w _ 92 0 _ rfl
 obtain⟨N,k⟩:=ex (w.heap.size);rw[<-k]at ct;have d:=a.strs n;have g:=(jS L 108 #[.pointer (some ⟨N,0,none⟩)] 2 4 w1 (λj wr=>ae w1 wr/\Below w.heap.size w wr) (vL je l) (Rq L)
  ⟨ae.refl _,q⟩ (λj wr h=>h.1) (λj wr o h=>⟨h.1.trans (ae.alloc _ _),h.2.alloc h.2.size _⟩)).2.2.2.2.2.1 _ d
  (λj r wr h=>(Ft L j r N wr (h.1.cell ct) (d.strs h.1)).mono λe w' m=>⟨by rw[iU _ _ _ r];exact m.1,h.1.trans (ae.below m.2),h.2.trans (m.2.mono h.2.size)⟩)
 have g:=g.p;have f:Calls (Qs fs) 107 #[.slice i l.length c,.int .i64 2,.int .i64 4,.func (.func 108) #[] #[.pointer (some ⟨N,0,none⟩)]] w1 λe w'=>e=.returned (.int .i64 (aP 2 4 je l))/\Below w.heap.size w w':=g.mono λe w' h=>by obtain⟨x,j,s,y⟩:=h;exact⟨x,y⟩
 have z:∀(fn:Fn) (first cap:Array Value) (w:World),(Instr.makeFunc fn first cap).run (Qs fs) w=.ok (.func fn first cap) w:=λ_ _ _ _=>rfl;clear g d n q a;go_enter (n106 L),Tryz.ntmps106;go_upto_region 1 with fail;rw[<-b,<-k];clear b k;go_wp2_with (first|(go_at_call 107;refine f.mono ?_;clear f;rintro e w2 ⟨rfl,s⟩))
 go_ret;exact⟨rfl,s⟩
def K6{K:Nat->Prop}{v0 v1 v2:Value}{l:List (List ByteArray)}(w:World)(c:aE K 1 jx w v2 l):
 Calls (Qs fs) 57 #[.agg #[v0,v1,v2]] w λe w'=>e=.returned (.int .i64 (aP 0 4 fY l))/\Below w.heap.size w w':=by
 have P0:=P0 L;obtain⟨w1,a⟩:=ex (w.alloc (.cells #[v0,v1,v2] 100));have i:ae w w1:=by rw[a];exact ae.alloc _ _
 have n:Below w.heap.size w w1:=by rw[a];exact aG _ _
 have ct:w1.cell? ⟨w.heap.size,2,none⟩=some v2:=by rw[a];exact aw w _ 100 2 _ rfl
 obtain⟨N,k⟩:=ex (w.heap.size);rw[<-k]at ct;have d:aE K 1 jx w1 v2 l:=c.stays i λb v o x e h=>by subst e;exact jx.carry (Carry.keep i) b b o x rfl h
 have g:=(jS L 106 #[] 0 4 w1 (λj wr=>ae w1 wr/\Below w.heap.size w wr) (vL fY l) (Rp L)
  ⟨ae.refl _,n⟩ (λj wr h=>h.1) (λj wr o h=>⟨h.1.trans (ae.alloc _ _),h.2.alloc h.2.size _⟩)).2.2.2.2.2.2.2.2 _ d
  (λj r wr h y s=>(IM L j wr s).mono λe w' m=>⟨by rw[iU _ _ _ r];exact m.1,h.1.trans (ae.below m.2),h.2.trans (m.2.mono h.2.size)⟩)
 have g:=g.p;have f:Calls (Qs fs) 105 #[v2,.int .i64 0,.int .i64 4,.func (.func 106) #[] #[]] w1 λe w'=>e=.returned (.int .i64 (aP 0 4 fY l))/\Below w.heap.size w w':=g.mono λe w' h=>by obtain⟨t,j,q,u⟩:=h;exact⟨t,u⟩
 clear g d i n c;go_enter (n57 L),Tryz.ntmps57;go_upto_region 1 with fail;rw[<-a,<-k];clear a k;go_wp2_with (first|(go_at_call 105;refine f.mono ?_;clear f;rintro e w2 ⟨rfl,q⟩))
 go_ret;exact⟨rfl,q⟩
def IN:(Tryz.prog.info? 103).map (·.size)=some 1:=by kernel_rfl
def K7:(Tryz.prog.types[103]?).map (·.size)=some 1:=by kernel_rfl
def Fu(fs)(h:103<(Qs fs).types.size):((Qs fs).types[103]'h).size=1:=by have e:=K7;have a:103<Tryz.prog.types.size:=h;rw[Sv a]at e;exact SD e
def CK(w):(Go.sizeOf 103).run (Qs fs) w=.ok 1 w:=by
 rw[uT];have h:=IN;cases a:Tryz.prog.info? 103 with
 |none=>rw[a]at h;cases h
 |some i=>rw[a]at h;simp only[SQ,SV]at h;simp[Go.sizeOf,typeInfo,a,h]
def Av(w):(isAgg 103).run (Qs fs) w=.ok false w:=by rw[zV];simp[isAgg,run_underlying Tryz.underlying103]
def fD(A B C w):(Instr.index 104 (.agg #[A,B,C]) (.int .i64 0)).run (Qs fs) w=.ok A w/\(Instr.index 104 (.agg #[A,B,C]) (.int .i64 1)).run (Qs fs) w=.ok B w/\(Instr.index 104 (.agg #[A,B,C]) (.int .i64 2)).run (Qs fs) w=.ok C w:=by
 have a:(Qs fs).underlying 104=some (.array 3 103):=by rw[aI];exact Tryz.underlying104
 refine⟨?_,?_,?_⟩<;>simp[Instr.index,asIntOf,run_underlying a,CK,part,Av]
def IP(t):bH t=if aP 0 12 letterF t.au≠0 then aP 0 12 letterF t.au else if aP 0 3 da t.az≠0 then aP 0 3 da t.az else aP 0 4 fY t.bl:=rfl
def eD{K:Nat->Prop}{v0 v1 v2:Value}{t:Table}(w:World)(p:IsTable K w v0 v1 v2 t):
 Calls (Qs fs) 20 #[.agg #[v0,v1,v2]] w λe w'=>e=.returned (.int .i64 (bH t))/\Below w.heap.size w w':=by
 have e55:=e55 L;have e56:=e56 L;have e57:=e57 L;have Z:∀(fn:Fn) (first cap:Array Value) (w:World),(Instr.makeFunc fn first cap).run (Qs fs) w=.ok (.func fn first cap) w:=λ_ _ _ _=>rfl;obtain⟨G,H,rfl,_⟩:=id p.1;obtain⟨a1,I,rfl,_⟩:=id p.2.1;obtain⟨J,M,rfl,_⟩:=id p.2.2;have f:=λk (D:ae w k)=>CI L (v1:=.slice a1 t.az.length I) (v2:=.slice J t.bl.length M) k (p.1.yS D);have g:=λk (D:ae w k)=>IL L (v0:=.slice G t.au.length H) (v2:=.slice J t.bl.length M) k (p.stays D).2.1;have i:=λk (D:ae w k)=>K6 L (v0:=.slice G t.au.length H) (v1:=.slice a1 t.az.length I) k (p.stays D).2.2;have aa:=Fu fs;have E:Hid _:=IP t;obtain⟨N,r⟩:=ex (aP 0 12 letterF t.au);obtain⟨fb,hfb⟩:=ex (aP 0 3 da t.az);obtain⟨O,s⟩:=ex (aP 0 4 fY t.bl);rw[<-r,<-hfb,<-s]at E;rw[<-r]at f;rw[<-hfb]at g;rw[<-s]at i;clear r hfb s p;obtain⟨T,u⟩:=ex (t.au.length);obtain⟨U,v⟩:=ex (t.az.length);obtain⟨V,x⟩:=ex (t.bl.length);rw[<-u,<-v,<-x];rw[<-u,<-v,<-x]at f g i;obtain⟨w1,y⟩:=ex ((w.alloc (.cells #[.slice G T H,.slice a1 U I,.slice J V M] 26)).alloc (.cells #[.slice G T H,.slice a1 U I,.slice J V M] 100));have W:Hid (ae w w1/\Below w.heap.size w w1):=by rw[Hid,y];exact⟨(ae.alloc _ _).trans (ae.alloc _ _),((Below.refl _ w).alloc (R2 _) _).alloc (by simp) _⟩
 clear u v x;go_enter (n20 L),Tryz.ntmps20;go_upto_region 3 with fail;rw[<-y];clear y;go_loopw [16] (λz wr=>∃j:Nat,j<=3/\z=.int .i64 j/\ae w wr/\Below w.heap.size w wr/\(0<j->N=0)/\(1<j->fb=0)/\(2<j->O=0)) (λz _=>3-(intOf z).toNat)
 case atStart=>exact⟨0,by omega,rfl,W.out.1,W.out.2,by omega,by omega,by omega⟩
 case round=>
  obtain⟨j,hj,rfl,c,o,P,X,h2⟩:=hrel;have l:Hid _:=o;clear o
  match j,hj with
  |0,_=>
   have q:=f wr c;have F:Hid _:=c;by_cases a:N=0
   ·rw[a]at q
    clear f g i c;have m:=λA B C k=>fD (fs:=fs) A B C k;rw[show((0:Nat):Int)=0 from rfl];go_wp2_with (first|(go_at_call 55;refine q.mono ?_;clear q;rintro e w2 ⟨rfl,b⟩))
    exact⟨⟨1,by omega,by go_num,ae.trans F.out (ae.below b),l.out.trans (b.mono l.out.size),λ_=>a,by omega,by omega⟩,by simp[intOf]⟩
   ·have Y:(N !=0)=true:=by simpa using a
    clear f g i c;have m:=λA B C k=>fD (fs:=fs) A B C k;rw[show((0:Nat):Int)=0 from rfl];go_wp2_with (first|(go_at_call 55;refine q.mono ?_;clear q;rintro e w2 ⟨rfl,b⟩))
    go_ret;exact⟨by rw[E.out,RZ a];rfl,l.out.trans (b.mono l.out.size)⟩
  |1,_=>
   have q:=g wr c;have a:=P (by omega);have F:Hid _:=c;by_cases d:fb=0
   ·rw[d]at q
    clear f g i c;have m:=λA B C k=>fD (fs:=fs) A B C k;rw[show((1:Nat):Int)=1 from rfl];go_wp2_with (first|(go_at_call 56;refine q.mono ?_;clear q;rintro e w2 ⟨rfl,b⟩))
    exact⟨⟨2,by omega,by go_num,ae.trans F.out (ae.below b),l.out.trans (b.mono l.out.size),λ_=>a,λ_=>d,by omega⟩,by simp[intOf]⟩
   ·have Y:(fb !=0)=true:=by simpa using d
    clear f g i c;have m:=λA B C k=>fD (fs:=fs) A B C k;rw[show((1:Nat):Int)=1 from rfl];go_wp2_with (first|(go_at_call 56;refine q.mono ?_;clear q;rintro e w2 ⟨rfl,b⟩))
    go_ret;exact⟨by rw[E.out,RY (λh=>h a),RZ d];rfl,l.out.trans (b.mono l.out.size)⟩
  |2,_=>
   have q:=i wr c;have a:=P (by omega);have d:=X (by omega);have F:Hid _:=c;by_cases n:O=0
   ·rw[n]at q
    clear f g i c;have m:=λA B C k=>fD (fs:=fs) A B C k;rw[show((2:Nat):Int)=2 from rfl];go_wp2_with (first|(go_at_call 57;refine q.mono ?_;clear q;rintro e w2 ⟨rfl,b⟩))
    exact⟨⟨3,by omega,by go_num,ae.trans F.out (ae.below b),l.out.trans (b.mono l.out.size),λ_=>a,λ_=>d,λ_=>n⟩,by simp[intOf]⟩
   ·have Y:(O !=0)=true:=by simpa using n
    clear f g i c;have m:=λA B C k=>fD (fs:=fs) A B C k;rw[show((2:Nat):Int)=2 from rfl];go_wp2_with (first|(go_at_call 57;refine q.mono ?_;clear q;rintro e w2 ⟨rfl,b⟩))
    go_ret;exact⟨by rw[E.out,RY (λh=>h a),RY (λh=>h d)];rfl,l.out.trans (b.mono l.out.size)⟩
  |3,_=>have Q:=P (by omega);have R:=X (by omega);have S:=h2 (by omega);clear f g i c;go_wp2;go_ret;exact⟨by rw[E.out,RY (λh=>h Q),RY (λh=>h R),S];rfl,l.out⟩
def CL(k:Int)(w:World):Calls (Qs fs) 66 #[.int .i64 k] w λe w'=>e=.returned (.bool (aD k 0 5))/\w'=w:=by
 have e63:=e63 L;have a:=dv fs (n63 L) k 0 5 w;go_enter (n66 L),Tryz.ntmps66;go_wp2_with (first|(go_at_call 63;refine a.mono ?_;clear a;rintro e w2 ⟨rfl,rfl⟩))
 go_ret;exact⟨rfl,rfl⟩
def vM(a b):(if(if(!a)=true then(1:Int)else 0)≠0 then(if(!a)=true then(1:Int)else 0)else(if b=true then(7:Int)else 0))=if(!a)=true then 1 else if b=true then 7 else 0:=by cases a<;>cases b<;>rfl
def NB(l:List Int)(n):codeF (l.take 0) n=if(!aD n 0 999)=true then 1 else if(false:Bool)=true then 7 else 0:=rfl
def Hg(l:List Int)(k)(a:k<l.length)(n):codeF (l.take (k+1)) n=if(!aD n 0 999)=true then 1 else if(decide (n<=l[k]))=true then 7 else 0:=by unfold codeF;rw[Uu a,List.getLast?_append];rfl
def Aw{K:Nat->Prop}{D:Option Addr}{c:Nat}{l:List Int}(j:Nat)(O:j<l.length)(E:Nat)(w:World)(G:w.cell? ⟨E,2,none⟩=some (.slice D l.length c))(i:aE K 1 du w (.slice D l.length c) l):
 Calls (Qs fs) 114 #[.int .i64 j,.int .i64 l[j],.pointer (some ⟨E,0,none⟩)] w λe w'=>e=.returned (.int .i64 (codeF (l.take j) l[j]))/\Below w.heap.size w w':=by
 have e52:=e52 L;have e63:=e63 L;have e51:=e51 L;obtain⟨P,c',H,I,J,u,a⟩:=id i;cases H;obtain⟨n,z⟩:=ex (l[j]);rw[<-z];have d:=dv fs (n63 L) n 0 999 w;obtain⟨z1,g⟩:=ex (aD n 0 999);have o:(decide (0<=n)&&decide (n<=999))=z1:=g.symm;rw[o]at d;have v:=λp=>dz L (!z1) 1 p;obtain⟨r,h⟩:∃f:Int,f=if(!z1)=true then 1 else 0:=⟨_,rfl⟩
 rw[<-h]at v;cases j with
 |zero=>
  have x:Hid ((if r≠0 then r else(if(false:Bool)=true then 7 else 0))=codeF (l.take 0) n):=by rw[Hid,NB,<-g,h];exact vM z1 false
  have t:=λp=>dz L false 7 p;have q:=λp=>cJ L r (if(false:Bool)=true then 7 else 0) p;rw[x.out]at q;clear z g o h i u a;go_enter (n114 L),Tryz.ntmps114;go_wp2_with (first|(go_at_call 63;refine d.mono ?_;clear d;rintro e w2 ⟨rfl,rfl⟩)|(go_at_call 52;refine(v _).mono ?_;clear v;rintro e w2 ⟨rfl,rfl⟩)|(go_at_call 52;refine(t _).mono ?_;clear t;rintro e w2 ⟨rfl,rfl⟩)|(go_at_call 51;refine(q _).mono ?_;clear q;rintro e w3 ⟨rfl,rfl⟩))
  go_ret;exact⟨rfl,(Below.refl _ _).alloc (R2 _) _⟩
 |succ k=>
  have B:k<l.length:=by omega
  obtain⟨b,C,rfl,A⟩:=a k B;rw[Tn]at A;have A:w.cell? ⟨b,C+k,none⟩=some (.int .i64 l[k]):=A;obtain⟨m,y⟩:=ex (l[k]);rw[<-y]at A;have M:(k:Int)<(l.length:Int):=by omega
  have N:(k:Int)+1>0:=by omega
  by_cases s:n<=m
  ·have x:Hid ((if r≠0 then r else 7)=codeF (l.take (k+1)) n):=by rw[Hid,Hg l k B,<-g,h,<-y,Sd s];exact vM z1 true
   have t:=λp=>dz L true 7 p;have q:=λp=>cJ L r 7 p;rw[x.out]at q;clear z g o h i u a y x;go_enter (n114 L),Tryz.ntmps114;go_wp2_with (first|(go_at_call 63;refine d.mono ?_;clear d;rintro e w2 ⟨rfl,rfl⟩)|(go_at_call 52;refine(v _).mono ?_;clear v;rintro e w2 ⟨rfl,rfl⟩)|(go_at_call 52;refine(t _).mono ?_;clear t;rintro e w2 ⟨rfl,rfl⟩)|(go_at_call 51;refine(q _).mono ?_;clear q;rintro e w3 ⟨rfl,rfl⟩))
   go_ret;exact⟨rfl,(Below.refl _ _).alloc (R2 _) _⟩
  ·have x:Hid ((if r≠0 then r else 0)=codeF (l.take (k+1)) n):=by rw[Hid,Hg l k B,<-g,h,<-y,R8 s];exact vM z1 false
   have F:decide (n<=m)=false:=R8 s;clear s;have t:=λp=>dz L false 7 p;have q:=λp=>cJ L r 0 p;rw[x.out]at q;clear z g o h i u a y x;go_enter (n114 L),Tryz.ntmps114;go_wp2_with (first|(go_at_call 63;refine d.mono ?_;clear d;rintro e w2 ⟨rfl,rfl⟩)|(go_at_call 52;refine(v _).mono ?_;clear v;rintro e w2 ⟨rfl,rfl⟩)|(go_at_call 52;refine(t _).mono ?_;clear t;rintro e w2 ⟨rfl,rfl⟩)|(go_at_call 51;refine(q _).mono ?_;clear q;rintro e w3 ⟨rfl,rfl⟩))
   go_ret;exact⟨rfl,(Below.refl _ _).alloc (R2 _) _⟩
def CM(a b c):(if(if(!a)=true then(4:Int)else 0)≠0 then(if(!a)=true then(4:Int)else 0)else(if(b&& !c)=true then(3:Int)else 0))=if(!a)=true then 4 else if(b&& !c)=true then 3 else 0:=by cases a<;>cases b<;>cases c<;>rfl
def K8(m):eU m=if(if(!dP m.name)=true then(4:Int)else if(!m.word.data.toList.isEmpty&& !bD m.word 16)=true then 3 else 0)≠0 then(if(!dP m.name)=true then(4:Int)else if(!m.word.data.toList.isEmpty&& !bD m.word 16)=true then 3 else 0)else
 if aP 0 5 codeF m.aW≠0 then aP 0 5 codeF m.aW else if(!aD m.day 0 99999)=true then 1 else 0:=by
 unfold eU;cases dP m.name with
 |false=>rfl
 |true=>
  cases(!m.word.data.toList.isEmpty&& !bD m.word 16)with
  |true=>rfl
  |false=>rfl
def CN(s:ByteArray):s.toList.isEmpty=s.data.toList.isEmpty:=by rw[Lib.toList_data]
def O4{K:Nat->Prop}{d:Option Addr}{c:Nat}{l:List Int}(b:Nat)(w:World)(f:w.cell? ⟨b,2,none⟩=some (.slice d l.length c))(a:aE K 1 du w (.slice d l.length c) l):
 Calls (Qs fs) 82 #[.slice d l.length c,.int .i64 0,.int .i64 5,.func (.func 114) #[] #[.pointer (some ⟨b,0,none⟩)]] w λe w'=>e=.returned (.int .i64 (aP 0 5 codeF l))/\Below w.heap.size w w':=by
 have g:=(jS L 114 #[.pointer (some ⟨b,0,none⟩)] 0 5 w (λ_ wr=>Below w.heap.size w wr) (vL codeF l) (Rr L) (Below.refl _ _) (λj wr h=>ae.below h) (λj wr o h=>h.alloc h.size _)).2.2.2.2.1 _ a
  (λj i wr h=>(Aw L j i b wr ((ae.below h).cell f) (a.ints (ae.below h))).mono λe w' k=>⟨by rw[iU _ _ _ i];exact k.1,h.trans (k.2.mono h.size)⟩)
 have g:=g.p;exact g.mono λe w' h=>by obtain⟨m,j,n⟩:=h;exact⟨m,n⟩
def kW{K:Nat->Prop}{mc:Array Value}{m:Mark}(w:World)(hm:de K w mc m):
 Calls (Qs fs) 67 #[.agg mc] w λe w'=>e=.returned (.int .i64 (eU m))/\Below w.heap.size w w':=by
 obtain⟨vf,rfl,r⟩:=hm;obtain⟨ao,c,rfl,_⟩:=id r;have M7:=M7 L;have e99:=e99 L;have e52:=e52 L;have e51:=e51 L;have e82:=e82 L;have e63:=e63 L;have ag:∀(fn:Fn) (first cap:Array Value) (w:World),(Instr.makeFunc fn first cap).run (Qs fs) w=.ok (.func fn first cap) w:=λ_ _ _ _=>rfl;obtain⟨w1,n⟩:=ex (w.alloc (.cells #[.string m.name,.string m.word,.slice ao m.aW.length c,.int .i64 m.day,.bool m.known] 38));have S1:ae w w1:=by rw[n];exact ae.alloc _ _
 have B1:Below w.heap.size w w1:=by rw[n];exact aG _ _
 have ct:∀i v,(#[.string m.name,.string m.word,.slice ao m.aW.length c,.int .i64 m.day,.bool m.known]:Array Value)[i]? =some v->w1.cell? ⟨w.heap.size,i,none⟩=some v:=λi v h=>by rw[n];exact aw w _ 38 i v h
 obtain⟨N,hN⟩:=ex (w.heap.size);have f0:=ct 0 _ rfl;have f1:=ct 1 _ rfl;have Q:=ct 2 _ rfl;have S:=ct 3 _ rfl;rw[<-hN]at f0 f1 Q S;have ab:=λx:aj w1 w1=>x.cell f0;have ad:=λx:aj w1 w1=>x.cell f1;have o:=λa (h:ae w1 a)=>O4 L N a (h.cell Q) (r.ints (S1.trans h));have d:=λx:aj w1 w1=>aj.calls (Hf L m.name x.val);have s:=λx:aj w1 w1=>aj.calls (vI L m.word 16 x.val (by decide));have t:=λa=>dv fs (n63 L) m.day 0 99999 a;have G:Hid _:=K8 m;obtain⟨z1,H⟩:=ex (dP m.name);obtain⟨z2,I⟩:=ex (bD m.word 16);obtain⟨z3,J⟩:=ex (aD m.day 0 99999);have R:(decide (0<=m.day)&&decide (m.day<=99999))=z3:=J.symm;rw[R]at t;rw[<-H]at d;rw[<-I]at s;obtain⟨y0,T⟩:=ex (aP 0 5 codeF m.aW);rw[<-T]at o;obtain⟨F,g⟩:=ex ((if(!dP m.name)=true then(4:Int)else if(!m.word.data.toList.isEmpty&& !bD m.word 16)=true then 3 else 0));rw[<-g,<-T,<-J]at G;rw[<-H,<-I]at g;have qa:=λx:aj w1 w1=>aj.same (dz L (!z1) 4 x.val);obtain⟨p,u⟩:∃f:Int,f=if(!z1)=true then 4 else 0:=⟨_,rfl⟩
 rw[<-u]at qa;have HF:Hid True:=trivial;clear r ct T R;by_cases hw:m.word.toList.isEmpty=true
 ·have U:m.word.toList.isEmpty=true:=hw
  have hW:(!m.word.data.toList.isEmpty)=false:=by rw[<-CN,U];rfl
  rw[hW]at g;have V:=λx:aj w1 w1=>aj.same (dz L false 3 x.val);have HB:Hid _:=B1;have HS:Hid _:=S1;have y:Hid ((if p≠0 then p else(if false=true then(3:Int)else 0))=F):=by rw[Hid,g,u];exact CM z1 false z2
  obtain⟨fb,hfb⟩:∃f:Int,f=if false=true then 3 else 0:=⟨_,rfl⟩
  rw[<-hfb]at V y;clear hw hW hfb g u H I J HF;go_enter (n67 L),Tryz.ntmps67;go_upto_region 1 with fail;rw[<-n,<-hN];clear n hN B1 S1;refine aU (w0:=w1) (w1:=w1) 15 (by kernel_rfl) (by kernel_rfl) (ae.refl _) (Below.refl _ _) ?_;simp only[SN,SI,SZ,SP];haveI W:Nonempty (aj w1 w1):=⟨⟨w1,ae.refl _,Below.refl _ _⟩⟩
  repeat (go_big_quiet_step (first|(go_at_call 102;exact d _)|(go_at_call 99;exact s _)|(go_at_call 52;exact qa _)|(go_at_call 52;exact V _)))
  refine wpQuiet_nil ?_;rintro j ⟨⟨_,z,X⟩,rfl⟩;have A:=cJ L p fb j;rw[y.out]at A;clear d s qa V W ab ad;have Y:=λa (h:ae j a)=>h.cell (z.cell Q);have M:=λa (h:ae j a)=>h.cell (z.cell S);have O:Hid (Below w.heap.size w j):=HB.out.trans (X.mono HB.out.size);by_cases q:F=0
  ·have Z:(F !=0)=false:=by rw[q];rfl
   have k:=λa (h:ae j a)=>o a (z.trans h);have b:Hid (eU m=if y0≠0 then y0 else if(!z3)=true then 1 else 0):=by rw[Hid,G.out,RY (λh=>h q)]
   have af:=Y _ (ae.alloc j (.cells #[.int .i64 p,.int .i64 fb] 29));have aa:=M _ (ae.alloc j (.cells #[.int .i64 p,.int .i64 fb] 29));have l:=k _ (ae.alloc j (.cells #[.int .i64 p,.int .i64 fb] 29));have P:=λa=>cJ L y0 (if(!z3)=true then 1 else 0) a;rw[<-b.out]at P;have qd:=λa=>dz L (!z3) 1 a;obtain⟨fd,B⟩:∃f:Int,f=if(!z3)=true then 1 else 0:=⟨_,rfl⟩
   rw[<-B]at P qd;have HY:Hid _:=M;clear o k Y M z X Q S G q B b;go_wp2_with (first|(go_at_call 51;refine A.mono ?_;clear A;rintro e w3 ⟨rfl,rfl⟩)|(go_at_call 82;refine l.mono ?_;clear l;rintro e w4 ⟨rfl,C⟩;have z4:=(ae.below C).cell aa)|(go_at_call 63;refine(t _).mono ?_;clear t;rintro e w5 ⟨rfl,rfl⟩)|(go_at_call 52;refine(qd _).mono ?_;clear qd;rintro e w6 ⟨rfl,rfl⟩)|(go_at_call 51;refine(P _).mono ?_;clear P;rintro e w7 ⟨rfl,rfl⟩))
   go_ret;have D:=O.out.alloc O.out.size (.cells #[.int .i64 p,.int .i64 fb] 29);have E:=D.trans (C.mono D.size);exact⟨rfl,E.alloc E.size _⟩
  ·have Z:(F !=0)=true:=by simpa using q
   have b:Hid (eU m=F):=by rw[Hid,G.out,RZ q]
   clear o Y M z X Q S G q;go_wp2_with (first|(go_at_call 51;refine A.mono ?_;clear A;rintro e w3 ⟨rfl,rfl⟩))
   go_ret;exact⟨by rw[b.out];rfl,O.out.alloc O.out.size _⟩
 ·have U:m.word.toList.isEmpty=false:=by simpa using hw
  have hW:(!m.word.data.toList.isEmpty)=true:=by rw[<-CN,U];rfl
  rw[hW]at g;have V:=λx:aj w1 w1=>aj.same (dz L (!z2) 3 x.val);have HB:Hid _:=B1;have HS:Hid _:=S1;have y:Hid ((if p≠0 then p else(if(!z2)=true then(3:Int)else 0))=F):=by rw[Hid,g,u];exact CM z1 true z2
  obtain⟨fb,hfb⟩:∃f:Int,f=if(!z2)=true then 3 else 0:=⟨_,rfl⟩
  rw[<-hfb]at V y;clear hw hW hfb g u H I J HF;go_enter (n67 L),Tryz.ntmps67;go_upto_region 1 with fail;rw[<-n,<-hN];clear n hN B1 S1;refine aU (w0:=w1) (w1:=w1) 15 (by kernel_rfl) (by kernel_rfl) (ae.refl _) (Below.refl _ _) ?_;simp only[SN,SI,SZ,SP];haveI W:Nonempty (aj w1 w1):=⟨⟨w1,ae.refl _,Below.refl _ _⟩⟩
  repeat (go_big_quiet_step (first|(go_at_call 102;exact d _)|(go_at_call 99;exact s _)|(go_at_call 52;exact qa _)|(go_at_call 52;exact V _)))
  refine wpQuiet_nil ?_;rintro j ⟨⟨_,z,X⟩,rfl⟩;have A:=cJ L p fb j;rw[y.out]at A;clear d s qa V W ab ad;have Y:=λa (h:ae j a)=>h.cell (z.cell Q);have M:=λa (h:ae j a)=>h.cell (z.cell S);have O:Hid (Below w.heap.size w j):=HB.out.trans (X.mono HB.out.size);by_cases q:F=0
  ·have Z:(F !=0)=false:=by rw[q];rfl
   have k:=λa (h:ae j a)=>o a (z.trans h);have b:Hid (eU m=if y0≠0 then y0 else if(!z3)=true then 1 else 0):=by rw[Hid,G.out,RY (λh=>h q)]
   have af:=Y _ (ae.alloc j (.cells #[.int .i64 p,.int .i64 fb] 29));have aa:=M _ (ae.alloc j (.cells #[.int .i64 p,.int .i64 fb] 29));have l:=k _ (ae.alloc j (.cells #[.int .i64 p,.int .i64 fb] 29));have P:=λa=>cJ L y0 (if(!z3)=true then 1 else 0) a;rw[<-b.out]at P;have qd:=λa=>dz L (!z3) 1 a;obtain⟨fd,B⟩:∃f:Int,f=if(!z3)=true then 1 else 0:=⟨_,rfl⟩
   rw[<-B]at P qd;have HY:Hid _:=M;clear o k Y M z X Q S G q B b;go_wp2_with (first|(go_at_call 51;refine A.mono ?_;clear A;rintro e w3 ⟨rfl,rfl⟩)|(go_at_call 82;refine l.mono ?_;clear l;rintro e w4 ⟨rfl,C⟩;have z4:=(ae.below C).cell aa)|(go_at_call 63;refine(t _).mono ?_;clear t;rintro e w5 ⟨rfl,rfl⟩)|(go_at_call 52;refine(qd _).mono ?_;clear qd;rintro e w6 ⟨rfl,rfl⟩)|(go_at_call 51;refine(P _).mono ?_;clear P;rintro e w7 ⟨rfl,rfl⟩))
   go_ret;have D:=O.out.alloc O.out.size (.cells #[.int .i64 p,.int .i64 fb] 29);have E:=D.trans (C.mono D.size);exact⟨rfl,E.alloc E.size _⟩
  ·have Z:(F !=0)=true:=by simpa using q
   have b:Hid (eU m=F):=by rw[Hid,G.out,RZ q]
   clear o Y M z X Q S G q;go_wp2_with (first|(go_at_call 51;refine A.mono ?_;clear A;rintro e w3 ⟨rfl,rfl⟩))
   go_ret;exact⟨by rw[b.out];rfl,O.out.alloc O.out.size _⟩
def iI(w A B C g tb tc w1)(e:w1=((w.alloc (.cells A g)).alloc (.cells B tb)).alloc (.cells C tc)):ae w w1/\Below w.heap.size w w1/\
 (∀i v,A[i]? =some v->w1.cell? ⟨w.heap.size,i,none⟩=some v)/\(∀i v,B[i]? =some v->w1.cell? ⟨w.heap.size+1,i,none⟩=some v)/\(∀i v,C[i]? =some v->w1.cell? ⟨w.heap.size+1+1,i,none⟩=some v):=by
 obtain⟨c,a⟩:=ex (w.alloc (.cells A g));obtain⟨f,b⟩:=ex (c.alloc (.cells B tb));rw[<-a,<-b]at e;have j:ae f w1:=by rw[e];exact ae.alloc _ _
 have k:ae c w1:=(by rw[b];exact ae.alloc _ _:ae c f).trans j;have d:c.heap.size=w.heap.size+1:=by rw[a];simp
 have hsb:f.heap.size=w.heap.size+1+1:=by rw[b,<-d];simp
 refine⟨(by rw[a];exact ae.alloc _ _:ae w c).trans k,?_,λi v h=>k.cell (by rw[a];exact aw w _ g i v h),λi v h=>j.cell (by rw[b,<-d];exact aw c _ tb i v h),λi v h=>by rw[e,<-hsb];exact aw f _ tc i v h⟩;rw[e,b,a];exact(((Below.refl _ w).alloc (R2 _) _).alloc (by simp) _).alloc (by simp;omega) _
def NC{K:Nat->Prop}{v0 v1 v2:Value}{t:Table}{m1 m2:Array Value}{one two:Mark}(w:World)(M:IsTable K w v0 v1 v2 t)(j:OkT t)(d:de K w m1 one)(f:de K w m2 two)(N:OkM one)(O:OkM two):
 Calls (Qs fs) 230 #[.agg #[v0,v1,v2],.agg m1,.agg m2] w λe w'=>e=.returned (.int .i64 (dG (aQ t.au one.word.data.toList) (aQ t.au two.word.data.toList)))/\Below w.heap.size w w':=by
 have e53:=e53 L;have Il:=Il L;obtain⟨X,rfl,Y⟩:=d;obtain⟨Z,rfl,r2⟩:=f;obtain⟨w1,a⟩:=ex (((w.alloc (.cells #[v0,v1,v2] 100)).alloc (.cells #[.string one.name,.string one.word,X,.int .i64 one.day,.bool one.known] 38)).alloc (.cells #[.string two.name,.string two.word,Z,.int .i64 two.day,.bool two.known] 38));obtain⟨P,Q,ct,R,S⟩:=iI w _ _ _ _ _ _ w1 a;have k:=ct 0 _ rfl;have l:=ct 1 _ rfl;have m:=ct 2 _ rfl;have a1:=R 1 _ rfl;have n:=S 1 _ rfl;have T:=M.stays P;obtain⟨N0,o⟩:=ex (w.heap.size);obtain⟨N1,d⟩:=ex (w.heap.size+1);obtain⟨N2,f⟩:=ex (w.heap.size+1+1);rw[<-f]at n;rw[<-d]at a1;rw[<-o]at k l m;have U:Hid (Below w.heap.size w w1):=Q;have b:=dI j one.word.data.toList;have c:=dI j two.word.data.toList;rw[<-Lib.size_eq,<-db]at b c;have p:∀(s:ByteArray),s.size<=16->∀x:aj w w1,Calls (Qs fs) 53 #[.agg #[v0,v1,v2],.string s] x.val λe w'=>e=.returned (.string (bs (aQ t.au s.data.toList)))/\∃y:aj w w1,w'=y.val:=λs hs x=>aj.calls (sH L s x.val (T.stays x.st).1 j.lets (by omega))
 have q:=p one.word N.word;have r:=p two.word O.word;have u:=N.word;have v:=O.word;obtain⟨A,C⟩:=ex (bs (aQ t.au one.word.data.toList));obtain⟨B,D⟩:=ex (bs (aQ t.au two.word.data.toList));have g:A.data.toList=aQ t.au one.word.data.toList:=by rw[C,dH]
 have h:B.data.toList=aQ t.au two.word.data.toList:=by rw[D,dH]
 rw[<-C]at b q;rw[<-D]at c r;have i:∀x:aj w w1,Calls (Qs fs) 231 #[.string A,.string B] x.val λe w'=>e=.returned (.int .i64 (dG A.data.toList B.data.toList))/\∃y:aj w w1,w'=y.val:=λx=>aj.calls (Ac L A B x.val (by omega) (by omega));rw[g,h]at i;obtain⟨z,V⟩:=ex (dG (aQ t.au one.word.data.toList) (aQ t.au two.word.data.toList));rw[<-V]at i⊢;have E:=λx:aj w w1=>x.cell k;have F:=λx:aj w w1=>x.cell l;have G:=λx:aj w w1=>x.cell m;have H:=λx:aj w w1=>x.cell a1;have I:=λx:aj w w1=>x.cell n;clear C D g h V b c u v p T M Y r2 ct R S P Q;go_enter (n230 L),Tryz.ntmps230;go_upto_region 1 with fail;rw[<-a,<-f,<-d,<-o];clear a o d f;refine aY (w0:=w) (w1:=w1) (by kernel_rfl) (by kernel_rfl) (ae.refl _) U.out ?_;haveI J:Nonempty (aj w w1):=⟨⟨w1,ae.refl _,U.out⟩⟩
 repeat (go_big_quiet_step (first|(go_at_call 53;exact q _)|(go_at_call 53;exact r _)|(go_at_call 231;exact i _)))
 refine wpQuiet_nil ?_;rintro wx ⟨⟨_,Sx,W⟩,rfl⟩;have BX:Hid _:=W;clear q r i E F G H I J k l m a1 n W Sx;go_wp2;go_ret;exact⟨rfl,BX.out⟩
def ND{K:Nat->Prop}{v0 v1 v2:Value}{t:Table}{m1 m2:Array Value}{one two:Mark}(w:World)(G:IsTable K w v0 v1 v2 t)(c:OkT t)(m:de K w m1 one)(n:de K w m2 two)(o1:OkM one)(o2:OkM two)(hm:gJ w):
 Calls (Qs fs) 232 #[.agg #[v0,v1,v2],.agg m1,.agg m2] w λe w'=>e=.returned (.int .i64 (eP t one.word.data.toList two.word.data.toList t.az.length))/\Below w.heap.size w w':=by
 have e64:=e64 L;have Il:=Il L;obtain⟨f1,rfl,r1⟩:=m;obtain⟨f2,rfl,r2⟩:=n;obtain⟨H,I,rfl,J,M,_⟩:=id G.2.1;obtain⟨w1,d⟩:=ex (((w.alloc (.cells #[v0,.slice H t.az.length I,v2] 100)).alloc (.cells #[.string one.name,.string one.word,f1,.int .i64 one.day,.bool one.known] 38)).alloc (.cells #[.string two.name,.string two.word,f2,.int .i64 two.day,.bool two.known] 38));obtain⟨N,B1,ct,c1,c2⟩:=iI w _ _ _ _ _ _ w1 d;have u:=ct 0 _ rfl;have v:=ct 1 _ rfl;have C:=ct 2 _ rfl;have a1:=c1 1 _ rfl;have D:=c2 1 _ rfl;have hT:=G.stays N;have hM:=hm.stays N;obtain⟨N0,O⟩:=ex (w.heap.size);obtain⟨N1,m⟩:=ex (w.heap.size+1);obtain⟨N2,n⟩:=ex (w.heap.size+1+1);rw[<-n]at D;rw[<-m]at a1;rw[<-O]at u v C;have BW:Hid (Below w.heap.size w w1):=B1;have o:=o1.word;have p:=o2.word;have f:Hid (IsTable K w1 v0 (.slice H t.az.length I) v2 t/\gJ w1/\OkT t/\t.az.length<=3):=⟨hT,hM,c,c.uV⟩
 have ab:t.az.length<=3:=c.uV;clear hT hM G hm r1 r2 ct c1 c2 N B1 c J M o1 o2;go_enter (n232 L),Tryz.ntmps232;go_upto_region 1 with fail;rw[<-d,<-n,<-m,<-O];clear d O m n;go_wp2;go_loopw [7,13] (λs7 g wr=>∃j:Nat,j<=t.az.length/\g=.int .i64 j/\s7=.int .i64 (eP t one.word.data.toList two.word.data.toList j)/\ae w1 wr/\Below w.heap.size w wr) (λs7 g _=>t.az.length-(intOf g).toNat)
 case atStart=>exact⟨0,R9 _,rfl,rfl,ae.refl _,BW.out⟩
 case round=>
  obtain⟨j,hj,rfl,rfl,a,b⟩:=hrel;have E:Hid (ae w1 wr/\Below w.heap.size w wr):=⟨a,b⟩
  obtain h|hge:=R5 j t.az.length
  ·have ad:(j:Int)<(t.az.length:Int):=by omega
   have c:=f.out.2.2.1;have i:=lz c h one.word.data.toList;have k:=lz c h two.word.data.toList;rw[<-Lib.size_eq,<-db]at i k;have P:∀(s:ByteArray),s.size<=16->∀x:aj w wr,Calls (Qs fs) 64 #[.agg #[v0,.slice H t.az.length I,v2],.int .i64 j,.string s] x.val λe w'=>e=.returned (.string (bs (bt t j s.data.toList)))/\∃y:aj w wr,w'=y.val:=λs hs x=>aj.calls (He L j s x.val (f.out.1.stays (a.trans x.st)) c (by omega) h (f.out.2.1.stays (a.trans x.st)))
   have Q:=P one.word o;have R:=P two.word p;have l:Hid _:=kr t one.word.data.toList two.word.data.toList j;have hsb:=gV t one.word.data.toList two.word.data.toList j;have S:=jP (bt t j one.word.data.toList) (bt t j two.word.data.toList);obtain⟨A,T⟩:=ex (bs (bt t j one.word.data.toList));obtain⟨B,U⟩:=ex (bs (bt t j two.word.data.toList));have q:A.data.toList=bt t j one.word.data.toList:=by rw[T,dH]
   have r:B.data.toList=bt t j two.word.data.toList:=by rw[U,dH]
   rw[<-T]at i Q;rw[<-U]at k R;have F:∀x:aj w wr,Calls (Qs fs) 231 #[.string A,.string B] x.val λe w'=>e=.returned (.int .i64 (dG A.data.toList B.data.toList))/\∃y:aj w wr,w'=y.val:=λx=>aj.calls (Ac L A B x.val (by omega) (by omega));rw[q,r]at F;obtain⟨z,hz⟩:=ex (dG (bt t j one.word.data.toList) (bt t j two.word.data.toList));rw[<-hz]at F l S;obtain⟨y,hy⟩:=ex (eP t one.word.data.toList two.word.data.toList j);rw[<-hy]at l hsb⊢;have V:=λx:aj w wr=>x.cell (a.cell u);have W:=λx:aj w wr=>x.cell (a.cell v);have X:=λx:aj w wr=>x.cell (a.cell C);have Y:=λx:aj w wr=>x.cell (a.cell a1);have Z:=λx:aj w wr=>x.cell (a.cell D);clear T U q r hz i k o p P u v C a1 D a b c hy;go_upto_region 5 with fail;refine aY (w0:=w) (w1:=wr) (by kernel_rfl) (by kernel_rfl) (ae.refl _) E.out.2 ?_;haveI aa:Nonempty (aj w wr):=⟨⟨wr,ae.refl _,E.out.2⟩⟩
   repeat (go_big_quiet_step (first|(go_at_call 64;exact Q _)|(go_at_call 64;exact R _)|(go_at_call 231;exact F _)))
   refine wpQuiet_nil ?_;rintro wx ⟨⟨_,Sx,Bx⟩,rfl⟩;have BX:Hid _:=(⟨Sx,Bx⟩:ae wr wx/\Below w.heap.size w wx)
   clear Q R F V W X Y Z aa Bx Sx;go_wp2;refine⟨⟨j+1,by omega,by go_num,?_,E.out.1.trans BX.out.1,BX.out.2⟩,by simp[intOf];omega⟩;rw[l.out]
  ·clear u v C a1 D a b
   obtain rfl:j=t.az.length:=by omega
   go_wp2;go_ret;exact⟨rfl,E.out.2⟩
end Go.Proofs

import Derived.Test.YtaglpcmhopjebaaGreatDoorY44
import Derived.Test.YtaglpcmhopjebaaGreatDoorY45
import Derived.Test.YtaglpcmhopjebaaGreatDoorY46
set_option linter.all false
set_option maxRecDepth 100000
set_option maxHeartbeats 20000000
namespace Go.Proofs
open Go.Tm Go.RowKit
variable {fs:Array Func} (L:bQ fs)
def Md(a:ByteArray)(p c k:Int)(G:a.size<1000000)(b2 M N E g len cap i:Nat)(w:World)(h2:w.cell? ⟨b2,0,none⟩=some (.string a))(h3:w.cell? ⟨M,0,none⟩=some (.slice (some ⟨E,g,none⟩) len cap))(hg:w.cell? ⟨1,0,none⟩=some (.map (some N)))(O:dz w N)(hl:i<len)(an:len<=9223372036854775807)(s H c':Int)(x0:w.cell? ⟨E,g+i*3,none⟩=some (.int .i64 s))(x1:w.cell? ⟨E,g+i*3+1,none⟩=some (.int .i64 H))(x2:w.cell? ⟨E,g+i*3+2,none⟩=some (.int .u8 c'))(hp:decide (p<s)=false)(he:(p==s)=false):
 Calls (Qs fs) 90 #[.int .i64 ((i+1:Nat):Int),.agg #[.int .i64 p,.int .i64 k,.int .u8 c],.pointer (some ⟨b2,0,none⟩),.pointer (some ⟨M,0,none⟩)] w λe w'=>e=.returned (.int .i64 (if(!au k 0 2)=true then 1 else if(!au p 0 (kA a.size k))=true then 6 else if mW k c=true then 3 else if false=true then 7 else 0))/\Below w.heap.size w w':=by
 have ao:wrap64 (i:Int)=(i:Int):=(by unfold wrap64;omega)
 have P:IntKind.i64.wrap (i:Int)=(i:Int):=wrap_i64 _ (by omega);have ar:max 0 (i:Int)=(i:Int):=by omega
 have ax:(0:Int)<(i:Int)+1:=by omega
 have ay:(i:Int)<(len:Int):=by omega
 have aM:IntKind.i64.wrap ((a.size:Int)-1)=(a.size:Int)-1:=wrap_i64 _ (by omega);obtain⟨D,o,r,Q,R,S,T,U⟩:=oU k c p a.size false;rw[T];clear T;obtain⟨TV,j⟩:∃z:Int,z=if(!o)=true then 1 else if(!au p 0 r)=true then 6 else if Q=true then 3 else if false=true then 7 else 0:=⟨_,rfl⟩
 rw[<-j];have a1:=λob=>(ae.alloc w ob).cell hg;have a6:=λob=>(ae.alloc w ob).cell h2;have a7:=λob=>(ae.alloc w ob).cell h3;have a8:=λob=>(ae.alloc w ob).cell x0;have ba:=λob=>(ae.alloc w ob).cell x1;have bb:=λob=>(ae.alloc w ob).cell x2;have e51:=e51 L;have e52:=e52 L;have e63:=e63 L;have e91:=e91 L;obtain⟨w1,d⟩:=ex ((w.alloc (.cells #[.int .i64 p,.int .i64 k,.int .u8 c] 96)).alloc (.cells #[.int .i64 s,.int .i64 H,.int .u8 c'] 96));have S1:ae w w1:=by rw[d];exact(ae.alloc _ _).trans (ae.alloc _ _)
 have V:Below w.heap.size w w1:=by rw[d];exact(aF _ _).alloc (by simp) _
 have ct:∀i v,(#[.int .i64 p,.int .i64 k,.int .u8 c]:Array Value)[i]? =some v->w1.cell? ⟨w.heap.size,i,none⟩=some v:=λi v h=>by rw[d];exact(ae.alloc _ _).cell (aw w _ 96 i v h)
 have F:∀i v,(#[.int .i64 s,.int .i64 H,.int .u8 c']:Array Value)[i]? =some v->w1.cell? ⟨w.heap.size+1,i,none⟩=some v:=λi v h=>by rw[d];have W:=aw (w.alloc (.cells #[.int .i64 p,.int .i64 k,.int .u8 c] 96)) _ 96 i v h;rw[World.size_alloc]at W;exact W
 have t:=gz fs (O.below (aF w (.cells #[.int .i64 p,.int .i64 k,.int .u8 c] 96))) k true;rw[R,S]at t;obtain⟨N0,l⟩:=ex (w.heap.size);obtain⟨N1,m⟩:=ex (w.heap.size+1);rw[<-l]at ct;rw[<-m]at F;have X:Hid _:=V;obtain⟨B,I⟩:∃B:Bool->Int->Int,B=λb f=>if b=true then f else 0:=⟨_,rfl⟩
 have u:∀(b:Bool) (f:Int) (x:aj w w1),Calls (Qs fs) 52 #[.bool b,.int .i64 f] x.val λe w'=>e=.returned (.int .i64 (B b f))/\∃y:aj w w1,w'=y.val:=λb f x=>aj.same ((dm L b f x.val).mono λe w' h=>by rw[I];exact h);have n:∀x:aj w w1,Calls (Qs fs) 63 #[.int .i64 p,.int .i64 0,.int .i64 r] x.val λe w'=>e=.returned (.bool (au p 0 r))/\∃y:aj w w1,w'=y.val:=λx=>aj.same (cj fs (n63 L) p 0 r x.val);have q:∀x:aj w w1,Calls (Qs fs) 91 #[.int .u8 c] x.val λe w'=>e=.returned (.bool (decide (97<=c)&&decide (c<=122)))/\∃y:aj w w1,w'=y.val:=λx=>aj.same (eY fs (n91 L) c x.val);obtain⟨zl,A⟩:=ex ((decide (97<=c)&&decide (c<=122)));rw[<-A]at q U;have HV:Hid (dX [B (!o) 1,B (!au p 0 r) 6,B Q 3,B false 7]=TV):=by rw[Hid,I,j];exact oT _ _ _ _
 obtain⟨zb,C⟩:=ex (au p 0 r);rw[<-C]at n HV;have a0:=λx:aj w w1=>x.cell (ct 0 _ rfl);have a2:=λx:aj w w1=>x.cell (ct 2 _ rfl);have y0:=λx:aj w w1=>x.cell (F 0 _ rfl);have y1:=λx:aj w w1=>x.cell (F 1 _ rfl);have Y:bits .and .i64 0 1=0:=by decide
 have Z:bits .and .i64 0 2=0:=by decide
 have aa:bits .and .i64 1 1=1:=by decide
 have ad:bits .and .i64 1 2=0:=by decide
 have af:bits .and .i64 2 1=0:=by decide
 have ag:bits .and .i64 2 2=2:=by decide
 have ak:bits .and .i64 3 1=1:=by decide
 have al:bits .and .i64 3 2=2:=by decide
 clear j I C A S1 V ct F O G R S;obtain⟨rfl,rfl,rfl,⟨rfl,J⟩|⟨rfl,J⟩⟩|⟨rfl,rfl,rfl,rfl⟩|⟨rfl,rfl,rfl,⟨rfl,J⟩|⟨rfl,J⟩⟩|⟨rfl,rfl,rfl,rfl⟩:=U;all_goals
  go_enter (n90 L),Tryz.ntmps90;go_upto_region 6 with fail;rw[<-d,<-m,<-l];clear d l m t;refine aT (w0:=w) (w1:=w1) 51 (by kernel_rfl) (by kernel_rfl) (ae.refl _) X.out ?_;simp only[R7,Si,Sk,Sj];haveI K:Nonempty (aj w w1):=⟨⟨w1,ae.refl _,X.out⟩⟩
  repeat (go_big_quiet_step (first|(go_at_call 52;exact u _ _ _)|(go_at_call 63;exact n _)|(go_at_call 91;exact q _)))
  refine wpQuiet_nil ?_;rintro wy ⟨⟨_,Sy,By⟩,rfl⟩;have BY:Hid _:=By;clear u n a0 a2 y0 y1 K Sy By q;go_wp2_with (first|(go_at_call 51;refine(rW L _ _ _ _ _).mono ?_;rintro e w4 ⟨rfl,rfl⟩))
  all_goals
   go_ret;exact⟨R6 (λz=>Ending.returned (.int .i64 z)) HV.out,BY.out.alloc BY.out.size _⟩
def uQ{w:World}{B e v n}{y:Bs}(h:w.ownsRow B e 1 v n (Lib.byteCells y)):w.ownsRow B e 1 v y.length (Lib.byteCells y):=by
 have a:n=y.length:=by have:=h.1;simp[Lib.byteCells]at this;omega
 rw[<-a];exact h
def Me(fs){w B v x}(h:w.ownsRow B 5 1 v x.length (Lib.byteCells x)):(convert 120 9 v).run (Qs fs) w=.ok (.string (bs x)) w:=by
 have k:=h;obtain⟨rfl,c⟩|⟨g,cap,a,rfl,_,d,l,m,n,f⟩:=h.2
 ·obtain rfl:=Tb.1 c
  have e:=run_convert_bytes_string (P:=Qs fs) w 120 9 5 none 0 0 (by rw[aH];exact Tryz.underlying120) (by rw[aH];exact Tryz.underlying5) (by rw[aH];exact Tryz.underlying9);rw[e];rfl
 ·refine xg fs w g 0 cap x λj i=>?_
  rw[RB];refine cell_of_heap d j _ ?_;rw[<-Sv];have b:(a.toList.take (x.length*1))[j]? =(Lib.byteCells x)[j]? :=by rw[f]
  rw[UC,Rp (by omega)]at b;rw[b];simp[Lib.byteCells,i]
def Pa:((Tryz.prog).info? 5).map (λi=>(i.zero,i.size,i.bytes))=some (some (.int .u8 0),1,1):=by kernel_rfl
def Mf(fs):((Qs fs).info? 5).map (λi=>(i.zero,i.size,i.bytes))=some (some (.int .u8 0),1,1):=Pa
def QQ{K ao cp}{l:List (Int×Int×Int)}(a)(m:a.size<1000000)(j)(E:j<l.length)(b2 u w)(y:w.cell? ⟨b2,0,none⟩=some (.string a))(z:w.cell? ⟨u,0,none⟩=some (.slice ao l.length cp))(v:gi w)
 (n:l.length<=9223372036854775807) (f:∀k (h:k<l.length),∃b d,ao=some ⟨b,d,none⟩/\dI .u8 K w b (d+k*3) l[k]):
 Calls (Qs fs) 90 #[.int .i64 j,.agg #[.int .i64 l[j].1,.int .i64 l[j].2.1,.int .u8 l[j].2.2],.pointer (some ⟨b2,0,none⟩),.pointer (some ⟨u,0,none⟩)] w λe w'=>e=.returned (.int .i64 (np a.size (l.take j) l[j]))/\Below w.heap.size w w':=by
 obtain⟨A,B,v⟩:=v;obtain⟨⟨p,k,c⟩,H⟩:∃e,e=l[j]:=⟨_,rfl⟩
 have F:=Lo a.size (l.take j) p k c;rw[<-H,F];clear F;cases j with
 |zero=>obtain⟨b,d,rfl,r,s,t⟩:=f 0 E;rw[Nat.zero_mul,SM]at r s t;rw[I3];exact NL L a p c k m b2 u A b d l.length cp w y z B v E n _ _ _ r s t
 |succ i=>
  have x:i<l.length:=by omega
  obtain⟨b,d,rfl,r,s,t⟩:=f i x;have o:=I4 p l i x;obtain⟨⟨G,C,c'⟩,D⟩:∃e,e=l[i]:=⟨_,rfl⟩
  rw[<-D]at r s t o;simp only[]at r s t o;rw[o];clear o;have I:decide (C≠0)=(C !=0):=by by_cases h:C=0<;>simp[h]
  rw[I];by_cases g:p<G
  ·rw[RE g,Bool.true_or]
   exact Ma L a p c k m b2 u A b d l.length cp i w y z B v x n _ _ _ r s t (RE g)
  ·rw[Rz g,Ua]
   by_cases q:p=G
   ·rw[RE q,T4]
    exact Mb L a p c k m b2 u A b d l.length cp i w y z B v x n _ _ _ r s t (Rz g) (by simpa using q)
   ·rw[Rz q,Bool.false_and]
    exact Md L a p c k m b2 u A b d l.length cp i w y z B v x n _ _ _ r s t (Rz g) (by simpa using q)
structure ApW(w3:World)(N bd:Nat)(p k c:Int)(wx:World):Prop where
 be:Below w3.heap.size w3 wx
 g:wx.cell? ⟨1,0,none⟩=some (.map (some bd))
 d:dz wx bd
 blk:wx.heap[N]? =some (.cells #[.int .i64 p,.int .i64 k,.int .u8 c] 96 (0,0))
def ApW.b0{w3 a N b p k c}(h:ApW w3 N b p k c a):a.cell? ⟨N,0,none⟩=some (.int .i64 p):=cell_of_heap h.blk 0 _ rfl
def ApW.b1{w3 a N b p k c}(h:ApW w3 N b p k c a):a.cell? ⟨N,1,none⟩=some (.int .i64 k):=cell_of_heap h.blk 1 _ rfl
def ApW.b2{w3 a N b p k c}(h:ApW w3 N b p k c a):a.cell? ⟨N,2,none⟩=some (.int .u8 c):=cell_of_heap h.blk 2 _ rfl
def ApW.start{w3 wr b p k c}(d:Below w3.heap.size w3 wr)(e:w3.cell? ⟨1,0,none⟩=some (.map (some b)))(f:dz w3 b):ApW w3 wr.heap.size b p k c (wr.alloc (.cells #[.int .i64 p,.int .i64 k,.int .u8 c] 96)):=by have a:=d.alloc d.size (.cells #[.int .i64 p,.int .i64 k,.int .u8 c] 96);exact⟨a,(ae.below a).cell e,f.below a,Sd⟩
def ApW.alloc{w3 d N a p k c}(h:ApW w3 N a p k c d)(e:w3.cell? ⟨1,0,none⟩=some (.map (some a)))(f:dz w3 a)(o):ApW w3 N a p k c (d.alloc o):=by have b:=h.be.alloc h.be.size o;exact⟨b,(ae.below b).cell e,f.below b,(ae.alloc _ _) _ _ _ _ h.blk⟩
def ApW.grown{w3 wx wy N d p k c v n xs}(h:ApW w3 N d p k c wx)(a:wx.ownsRow w3.heap.size 5 1 v n xs)(b:wx.grownBy wy v.ownBlock)(q:w3.cell? ⟨1,0,none⟩=some (.map (some d)))(r:dz w3 d):ApW w3 N d p k c wy:=by
 have s:N<wx.heap.size:=(Rx.1 h.blk).1;have f:=dP a;have j:some N≠v.ownBlock:=by
  intro e;obtain⟨rfl,_⟩|⟨g,cap,t,rfl,_,m,_⟩:=a.2
  ·cases e
  ·cases e
   rw[h.blk]at m;cases m
 have l:Below w3.heap.size w3 wy:=⟨b.os.trans h.be.os,b.tape.trans h.be.tape,b.output.trans h.be.output,Rr h.be.size b.size,λi o=>(b.block i (Ru o h.be.size) λe=>by have:=f i e.symm;omega).trans (h.be.block i o)⟩
 exact⟨l,(ae.below l).cell q,r.below l,(b.block N s j).trans h.blk⟩
def xw(y:Bs)(c)(a:0<=c)(b:c<256):Lib.byteCells y++[.int .u8 c]=Lib.byteCells (y++[byteOf c]):=by rw[Lib.byteCells_append];have e:((byteOf c).toNat:Int)=c:=fS c a b;simp[Lib.byteCells,e]
def NM{K:Nat->Prop}{v:Value}{l:List (Int×Int×Int)}(a:ByteArray)(w:World)(J:aB K 3 (dI .u8) w v l)(cl:a.size<1000000)(ak:gi w):
 Calls (Qs fs) 47 #[.string a,v] w λe w'=>e=.returned (.tuple #[.string (ov a l),.int .i64 (eW a l)])/\Below w.heap.size w w':=by
 have e72:=e72 L;have e89:=e89 L;have e90:=e90 L;obtain⟨ao,cp,rfl,cK,cL,a1,D⟩:=id J;obtain⟨w1,G⟩:=ex ((w.alloc (.cells #[.string a] 9)).alloc (.cells #[.slice ao l.length cp] 53));have S1:ae w w1:=by rw[G];exact(ae.alloc _ _).trans (ae.alloc _ _)
 have B1:Below w.heap.size w w1:=by rw[G];exact(aF _ _).alloc (by simp) _
 have a6:w1.cell? ⟨w.heap.size,0,none⟩=some (.string a):=by rw[G];exact(ae.alloc _ _).cell (aw w _ 9 0 _ rfl)
 have a7:w1.cell? ⟨w.heap.size+1,0,none⟩=some (.slice ao l.length cp):=by rw[G];have hh:=aw (w.alloc (.cells #[.string a] 9)) #[.slice ao l.length cp] 53 0 _ rfl;rw[World.size_alloc]at hh;exact hh
 obtain⟨N0,M⟩:=ex (w.heap.size);obtain⟨N1,N⟩:=ex (w.heap.size+1);rw[<-M]at a6;rw[<-N]at a7;have al:Hid _:=B1;have H:fT a ⟨#[]⟩=if 48<a.size then 2 else if a.data.toList.all aX then 0 else 3:=by
  unfold fT;by_cases h:48<a.size
  ·rw[Rp (.inl h),Rp h]
  ·rw[Ro (by rintro(h'|h');exact h h';cases h'),Ro h]
   simp
 by_cases Z:48<a.size
 ·have HF:Hid (eW a l=2/\ov a l=⟨#[]⟩):=by
   rw[Rp Z]at H;have h:eW a l=2:=by unfold eW;rw[H];rfl
   exact⟨h,Ro (by rw[h];decide)⟩
  have g1:(48:Int)<(a.size:Int):=by omega
  clear Z H D J ak a1;go_enter (n47 L),Tryz.ntmps47;go_upto_region 1 with fail;rw[<-G,<-N,<-M];clear G M N;go_wp2
  go_ret2
  exact⟨by rw[HF.out.1,HF.out.2];rfl,al.out⟩
 ·rw[Ro Z]at H
  have g1:decide ((48:Int)<(a.size:Int))=false:=Rz (by omega);have q1:=iJ L a 0 a.size w1 (by omega);rw[rP]at q1;cases an:a.data.toList.all aX with
  |false=>
   rw[an]at H q1;have HF:Hid (eW a l=3/\ov a l=⟨#[]⟩):=by
    have h:eW a l=3:=by unfold eW;rw[H];rfl
    exact⟨h,Ro (by rw[h];decide)⟩
   clear Z H D J ak a1 an;go_enter (n47 L),Tryz.ntmps47;go_upto_region 1 with fail;rw[<-G,<-N,<-M];clear G M N;go_wp2_with (first|(go_at_call 72;refine q1.mono ?_;clear q1;rintro e w2 ⟨rfl,r⟩))
   go_ret2
   exact⟨by rw[HF.out.1,HF.out.2];rfl,al.out.trans (r.mono al.out.size)⟩
  |true=>
   rw[an]at H q1;have bm:fT a ⟨#[]⟩=0:=H;have a8:Hid (eW a l=eR a.size l):=Rp bm;have ar:=ak.below B1;have aa:∀w2,Below w1.heap.size w1 w2->Calls (Qs fs) 89 #[.slice ao l.length cp,.int .i64 0,.int .i64 96,.func (.func 90) #[] #[.pointer (some ⟨N0,0,none⟩),.pointer (some ⟨N1,0,none⟩)]] w2 λe w'=>e=.returned (.int .i64 (eR a.size l))/\Below w2.heap.size w2 w':=λw2 r=>by
    have S2:=S1.trans (ae.below r);have bo:aB K 3 (dI .u8) w2 (.slice ao l.length cp) l:=J.stays S2 λb b' o x e h=>by subst e;exact h.keep S2
    have hE:=(iS L 90 #[.pointer (some ⟨N0,0,none⟩),.pointer (some ⟨N1,0,none⟩)] 0 96 w2 (λ_ wr=>Below w2.heap.size w2 wr) (uq (np a.size) l) e90 (Below.refl _ _) (λj wr h=>ae.below h) (λj wr o h=>h.alloc h.size _)).2.2.2.1 _ bo
     (λj hj wr h=>by
      have Sr:=(ae.below r).trans (ae.below h);have hc:=QQ (K:=K) (ao:=ao) (cp:=cp) L a cl j hj N0 N1 wr (Sr.cell a6) (Sr.cell a7) ((ar.below r).below h) (by omega) (λk hk=>by obtain⟨b,b7,e1,e2⟩:=D k hk;exact⟨b,b7,e1,e2.keep (S1.trans Sr)⟩)
      exact hc.mono λe w' hh=>⟨by rw[hZ _ _ _ hj];exact hh.1,h.trans (hh.2.mono h.size)⟩)
    have hE:=hE.p;exact hE.mono λe w' h=>by obtain⟨h1,j,h2⟩:=h;exact⟨h1,h2⟩
   by_cases hz:eR a.size l=0
   ·have HF:Hid (eW a l=0/\ov a l=bs (bP a.data.toList 0 l)):=⟨a8.out.trans hz,Rp (a8.out.trans hz)⟩
    have I:uH a.data.toList a.size l 0 0 []:=uH.start hz;rw[hz]at aa;have cM:a.size<=48:=by omega
    have cF:l.length<=96:=by
     unfold eR bp au at hz;split at hz
     ·rename_i h
      simp only[RD,RJ]at h;omega
     ·cases hz
    have br:=λi j=>(by rw[Lib.strCells_eq,ByteArray.data_extract,Vy,List.extract_eq_drop_take,List.drop_take]:Lib.strCells (a.extract i j)=Lib.byteCells ((a.data.toList.take j).drop i))
    have hA:=Lib.size_eq a;obtain⟨A,b8⟩:=ex (a.data.toList);rw[<-b8]at hA I HF br;have HA:Hid _:=hA;have HX:Hid _:=br;have HC:Hid _:=D;have cm:Hid _:=I;have cn:Hid _:=S1;obtain⟨bd,ca,cb⟩:=ar;have cq:Hid _:=cb;have cr:Hid _:=ca;obtain⟨i0,hi,U,V,W⟩:=info_parts (Mf fs);have cu:∀(fn:Fn) (first cap:Array Value) (w:World),(Instr.makeFunc fn first cap).run (Qs fs) w=.ok (.func fn first cap) w:=λ_ _ _ _=>rfl;clear bm hz hA b8 D I br J ak a1 an H S1 cb ca Z;go_enter (n47 L),Tryz.ntmps47;go_upto_region 1 with fail;rw[<-G,<-N,<-M];clear G M N;go_wp2_with (first|(go_at_call 72;refine q1.mono ?_;clear q1;rintro e w2 ⟨rfl,r⟩;have bx:=(ae.below r).cell a6;have ax:=(ae.below r).cell a7)|(go_at_call 89;refine(aa _ r).mono ?_;clear aa;rintro e w3 ⟨rfl,ab⟩;have cc:=(ae.below ab).cell bx;have cG:=(ae.below ab).cell ax))
    have Q:Hid (Below w1.heap.size w1 w3):=r.trans (ab.mono r.size);have ad:=(ae.below Q.out).cell cr.out;have cd:=dz.below cq.out Q.out;have af:Hid _:=cd;clear r ab bx ax cd;go_loopw [7,8,27] (λo t s wr=>∃(j q:Nat) (x:Bs) (vF:Value),j<=l.length/\s=.int .i64 j/\t=.int .i64 q/\vF=o/\wr.ownsRow w3.heap.size 5 1 vF x.length (Lib.byteCells x)/\uH A a.size l j q x/\Below w3.heap.size w3 wr) (λo t s _=>l.length-(intOf s).toNat)
    case atStart=>exact⟨0,0,[],_,RA _,rfl,rfl,rfl,World.ownsRow_nil _ _ _ _,cm.out,Below.refl _ _⟩
    case round=>
     obtain⟨j,q,x,vF,hj,rfl,rfl,rfl,R,I,hB⟩:=hrel;have HB:Hid _:=hB;have bb:=I.len;have cR:=I.le;obtain cf|hge:=Ry j l.length
     ·obtain⟨b,b7,rfl,x0,x1,x2⟩:=HC.out j cf
      have X:ae w wr:=ae.trans cn.out ((ae.below Q.out).trans (ae.below hB));have x0:=X.cell x0;have x1:=X.cell x1;have x2:=X.cell x2;have cS:(j:Int)<(l.length:Int):=by omega
      obtain⟨⟨p,k,c⟩,he⟩:∃e,e=l[j]:=⟨_,rfl⟩
      rw[<-he]at x0 x1 x2;simp only[]at x0 x1 x2;obtain⟨P,rfl,cU,cV,ay⟩:=I.step cf he;have cX:(q:Int)<=(P:Int):=by omega
      have cY:(P:Int)<=(a.size:Int):=by omega
      have ag:=ApW.start (p:=P) (k:=k) (c:=c) hB ad af.out;obtain⟨wb,ba⟩:=ex (wr.alloc (.cells #[.int .i64 P,.int .i64 k,.int .u8 c] 96));obtain⟨NB,bA⟩:=ex (wr.heap.size);rw[<-ba,<-bA]at ag;have T:wb.ownsRow w3.heap.size 5 1 vF x.length (Lib.byteCells x):=by rw[ba];exact R.alloc _
      have bk:=(ae.below ag.be).cell cc;have c0:=ag.b0;have bB:(a.extract q P).size=((A.take P).drop q).length:=by rw[TC,RI,R9,HA.out]
      have bC:(a.extract q P).size<=48:=by rw[TC];omega
      obtain⟨y,hy⟩:=ex (x++(A.take P).drop q);have cv:y.length=x.length+(a.extract q P).size:=by rw[hy,RM,bB]
      have aM:Lib.byteCells x++Lib.strCells (a.extract q P)=Lib.byteCells y:=by rw[hy,Lib.byteCells_append,HX.out]
      rw[<-hy]at ay;have cw:Hid _:=ag;have b3:Hid _:=aM;have HL:Hid (x.length<=200/\y.length<=300):=⟨by omega,by omega⟩
      have Y:w3.heap.size<=wb.heap.size:=ag.be.size;clear he I X hB ag hy aM R bb;go_upto_region 13 with fail;rw[<-ba,<-bA];clear ba bA;go_wp2_with (at_builtin;refine Lib.wpList_append_own_string _ rfl _ _ 120 9 rfl w3.heap.size 5 i0 Tryz.underlying120 Tryz.underlying9 hi U V W _ _ _ rfl T (a.extract q P) rfl ?c3 ?c4 ?c5 ?_)
      case c3=>have:=HL.out;unfold maxLen;omega
      case c4=>have:=HL.out;omega
      case c5=>exact Y
      intro v5 w5 f m _;rw[b3.out]at f;replace f:=uQ f;have E:=cw.out.grown T m ad af.out;have g5:=E.g;have d0:=E.b0;have d1:=E.b1;have d2:=E.b2;have O:=gz fs E.d k false;rw[Ro T3]at O;have b4:Hid _:=E;have cH:w3.heap.size<=w5.heap.size:=E.be.size;clear E m T c0 bk Y;obtain⟨rfl,cx,cy,F⟩|⟨rfl,cz,F⟩|⟨rfl,cz,cx,cy,F⟩:=ay
      ·have S:Hid _:=F
       have O:(Instr.lookup 146 (.map (some bd)) (.int .i64 0) false).run (Qs fs) w5=.ok (.int .i64 1) w5:=O;clear F;go_wp2_with (at_builtin;refine wpList_append_own _ rfl _ _ 120 rfl w3.heap.size 5 i0 (.int .u8 0) 1 1 Tryz.underlying120 hi U V W rfl (by decide) _ _ _ rfl (f.alloc _) ⟨_,0,none⟩ 1 1 [.int .u8 c] rfl rfl ?d1 ?d2 ?d3 ?d4 ?d5 ?_)
       case d1=>intro j u hu;rw[dD,RB];exact aw _ _ 5 j u (by simpa using hu)
       case d2=>intro u hu;simp at hu;subst hu;rfl
       case d3=>have:=HL.out;unfold maxLen;omega
       case d4=>have:=HL.out;omega
       case d5=>simp;omega
       intro v6 w6 n C _;rw[xw y c (by omega) (by omega)]at n;replace n:=uQ n;have B:=(b4.out.alloc ad af.out _).grown (f.alloc _) C ad af.out;have g6:=B.g;have f1:=B.b1;have cA:(Instr.lookup 146 (.map (some bd)) (.int .i64 0) false).run (Qs fs) w6=.ok (.int .i64 1) w6:=gz fs B.d 0 false;have b5:Hid _:=B;have b6:Hid _:=n;clear B C n f g5 d0 d1 d2 O;go_wp2;exact⟨⟨j+1,P,y++[byteOf c],_,by omega,by go_num,rfl,rfl,b6.out,S.out,b5.out.be⟩,by simp[intOf];omega⟩
      ·have S:Hid _:=F
       have O:(Instr.lookup 146 (.map (some bd)) (.int .i64 1) false).run (Qs fs) w5=.ok (.int .i64 2) w5:=O;have cB:Hid _:=f;clear F f;go_wp2;exact⟨⟨j+1,P+1,y,_,by omega,by go_num,by go_num,rfl,cB.out,S.out,b4.out.be⟩,by simp[intOf];omega⟩
      ·have S:Hid _:=F
       have O:(Instr.lookup 146 (.map (some bd)) (.int .i64 2) false).run (Qs fs) w5=.ok (.int .i64 3) w5:=O;clear F;go_wp2_with (at_builtin;refine wpList_append_own _ rfl _ _ 120 rfl w3.heap.size 5 i0 (.int .u8 0) 1 1 Tryz.underlying120 hi U V W rfl (by decide) _ _ _ rfl (f.alloc _) ⟨_,0,none⟩ 1 1 [.int .u8 c] rfl rfl ?d1 ?d2 ?d3 ?d4 ?d5 ?_)
       case d1=>intro j u hu;rw[dD,RB];exact aw _ _ 5 j u (by simpa using hu)
       case d2=>intro u hu;simp at hu;subst hu;rfl
       case d3=>have:=HL.out;unfold maxLen;omega
       case d4=>have:=HL.out;omega
       case d5=>simp;omega
       intro v6 w6 n C _;rw[xw y c (by omega) (by omega)]at n;replace n:=uQ n;have B:=(b4.out.alloc ad af.out _).grown (f.alloc _) C ad af.out;have g6:=B.g;have f1:=B.b1;have cA:(Instr.lookup 146 (.map (some bd)) (.int .i64 2) false).run (Qs fs) w6=.ok (.int .i64 3) w6:=gz fs B.d 2 false;have b5:Hid _:=B;have b6:Hid _:=n;clear B C n f g5 d0 d1 d2 O;go_wp2;exact⟨⟨j+1,P+1,y++[byteOf c],_,by omega,by go_num,by go_num,rfl,b6.out,S.out,b5.out.be⟩,by simp[intOf];omega⟩
     ·obtain rfl:j=l.length:=by omega
      have HD:Hid _:=I.done;have bk:=(ae.below hB).cell cc;have cI:(q:Int)<=(a.size:Int):=by omega
      have bB:(a.extract q a.size).size=(A.drop q).length:=by rw[TC,RI,HA.out];omega
      have aM:Lib.byteCells x++Lib.strCells (a.extract q a.size)=Lib.byteCells (x++A.drop q):=by rw[Lib.byteCells_append,HX.out,HA.out,Tp]
      have cv:(x++A.drop q).length=x.length+(a.extract q a.size).size:=by rw[RM,bB]
      have bC:(a.extract q a.size).size<=48:=by rw[TC];omega
      have HL:Hid (x.length<=200):=by show x.length<=200;omega
      have b3:Hid _:=aM;have Y:w3.heap.size<=wr.heap.size:=hB.size;have cC:Hid _:=R;clear I hB aM bb;go_wp2_with (at_builtin;refine Lib.wpList_append_own_string _ rfl _ _ 120 9 rfl w3.heap.size 5 i0 Tryz.underlying120 Tryz.underlying9 hi U V W _ _ _ rfl R (a.extract q a.size) rfl ?c3 ?c4 ?c5 ?_)
      case c3=>have:=HL.out;unfold maxLen;omega
      case c4=>have:=HL.out;omega
      case c5=>exact Y
      intro v5 w5 f m _;rw[b3.out]at f;replace f:=uQ f;have c1:=Me fs f;have cD:Hid (Below w3.heap.size w3 w5):=⟨m.os.trans HB.out.os,m.tape.trans HB.out.tape,m.output.trans HB.out.output,Rr HB.out.size m.size,λi hi=>(m.block i (Ru hi HB.out.size) λe=>by have:=dP cC.out i e.symm;omega).trans (HB.out.block i hi)⟩
      clear f m R;go_wp2
      go_ret2
      have b1:=al.out;exact⟨by rw[HF.out.1,HF.out.2,HD.out];rfl,(b1.trans (Q.out.mono b1.size)).trans (cD.out.mono (Rr b1.size Q.out.size))⟩
   ·have HF:Hid (eW a l=eR a.size l/\ov a l=⟨#[]⟩):=⟨a8.out,Ro (by rw[a8.out];exact hz)⟩
    obtain⟨z,ck⟩:=ex (eR a.size l);rw[<-ck]at aa hz HF;have c6:(z !=0)=true:=by simpa using hz
    have cu:∀(fn:Fn) (first cap:Array Value) (w:World),(Instr.makeFunc fn first cap).run (Qs fs) w=.ok (.func fn first cap) w:=λ_ _ _ _=>rfl;clear bm hz ck D J ak ar a1 an H S1 Z;go_enter (n47 L),Tryz.ntmps47;go_upto_region 1 with fail;rw[<-G,<-N,<-M];clear G M N;go_wp2_with (first|(go_at_call 72;refine q1.mono ?_;clear q1;rintro e w2 ⟨rfl,r⟩;have bx:=(ae.below r).cell a6;have ax:=(ae.below r).cell a7)|(go_at_call 89;refine(aa _ r).mono ?_;clear aa;rintro e w3 ⟨rfl,ab⟩))
    go_ret2
    have b1:=al.out;exact⟨by rw[HF.out.1,HF.out.2];rfl,(b1.trans (r.mono b1.size)).trans (ab.mono (Rr b1.size r.size))⟩
end Go.Proofs
namespace Go.Proofs
open Go.Tm Go.RowKit
section
variable {G:Nat} {S:Kn}
def mR{w:World}{b o v}(h:w.cell? ⟨b,o,none⟩=some v):∃c e F,w.heap[b]? =some (.cells c e F)/\c[o]? =some v:=by
 unfold World.cell? at h;simp only[]at h;cases a:w.heap[b]? with
 |none=>rw[a]at h;cases h
 |some x=>
  rw[a]at h;cases x with
  |cells c e F=>exact⟨c,e,F,rfl,h⟩
  |_=>cases h
def iY{w:World}{b o c e F v}(h:w.heap[b]? =some (.cells c e F))(a:c[o]? =some v):w.cell? ⟨b,o,none⟩=some v:=by unfold World.cell?;simp only[h];exact a
def CV.self{K B:Nat->Prop}{w:World}(d:∀b,K b->(∃c e F,w.heap[b]? =some (.cells c e F))->B b){v}(h:CV K w v):az (idR G B) v v:=by
 cases h with
 |bool=>exact .bool _
 |int=>exact .int _ _
 |string=>exact .string _
 | @slice ao l c f=>
  cases ao with
  |none=>exact .js _ _
  |some a=>obtain⟨b,o,p⟩:=a;obtain⟨j,g,i⟩:=f _ rfl;exact .slice _ _ (.mk ⟨rfl,d _ g i⟩)
def fu{B fz w}{b:Nat}{c e F}(h:w.heap[b]? =some (.cells c e F)):∃a,(bZ (idR G B) fz w).heap[b]? =some (.cells (c.map (mask (idR G B))) e a):=by rw[fG,h];exact⟨_,rfl⟩
def Carry.mask{K B fz:Nat->Prop}{w:World}(f:∀b,K b->(∃c e F,w.heap[b]? =some (.cells c e F))->B b):Carry (λa b=>a=b) K K w (bZ (idR G B) fz w) where
 fn _ _ _ h1 h2:=h1.symm.trans h2
 cell b b' o v hs hc hv:=by
  subst hs;obtain⟨c,e,F,h1,h2⟩:=mR hc;obtain⟨g,d⟩:=fu (G:=G) (B:=B) (fz:=fz) h1;refine⟨v,iY d (by rw[Sp,h2,Sl,tk (hv.self f)]),?_⟩;cases hv with
  |bool=>exact .bool _
  |int=>exact .int _ _
  |string=>exact .string _
  | @slice ao l c h=>
   cases ao with
   |none=>exact .js _ _
   |some a=>obtain⟨b,o,p⟩:=a;obtain⟨h1,h2,j,e,F,d⟩:=h _ rfl;simp only[]at h1;subst h1;obtain⟨g,i⟩:=fu (G:=G) (B:=B) (fz:=fz) d;exact .slice _ _ rfl h2 ⟨_,_,_,i⟩
def TV.mask{K B fz w v}(f:CV K w v):TV (λa b=>a=b) K (bZ (idR G B) fz w) v v:=by
 cases f with
 |bool=>exact .bool _
 |int=>exact .int _ _
 |string=>exact .string _
 | @slice ao l c g=>
  cases ao with
  |none=>exact .js _ _
  |some a=>obtain⟨b,o,p⟩:=a;obtain⟨d,h,k,e,F,i⟩:=g _ rfl;simp only[]at d;subst d;obtain⟨m,j⟩:=fu (G:=G) (B:=B) (fz:=fz) i;exact .slice _ _ rfl h ⟨_,_,_,j⟩
def bl.mask{K B fz:Nat->Prop}{w:World}(d:∀b,K b->(∃c e F,w.heap[b]? =some (.cells c e F))->B b){sc c}(h:bl K w sc c):bl K (bZ (idR G B) fz w) sc c:=h.carry (Carry.mask d) rfl λi v V f a g=>by rw[f]at a;cases a;exact TV.mask g
def bl.cvs{K w sc c}(h:bl K w sc c):∀v∈sc,CV K w v:=by
 obtain⟨v0,v1,v2,i,j,k,l,rfl,a,d,e,f,g⟩:=h;intro v b;simp only[SS,RX,Se,Sf]at b;obtain rfl|rfl|rfl|rfl|rfl|rfl|rfl|rfl|rfl|rfl|rfl:=b
 ·exact a.1.cv
 ·exact a.2.1.cv
 ·exact a.2.2.cv
 ·exact d.cv
 ·exact .string _
 ·exact .string _
 ·exact e.cv
 ·exact .int _ _
 ·exact .bool _
 ·exact f.cv
 ·exact g.cv
def bl.self{K B:Nat->Prop}{w:World}(a:∀b,K b->(∃c e F,w.heap[b]? =some (.cells c e F))->B b){sc c}(h:bl K w sc c):az (idR G B) (.agg sc) (.agg sc):=.Ej (aU.refl λv d=>(h.cvs v d).self a)
def named(π:Ren G)(R:Nat):Prop:=∃r,π r R
def TV.Ld{π:Ren G}{K w W Pr}(g:bj S Pr π w W){v V}(i:CV K w v)(h:az π v V):TV π.rel (named π) W v V:=by
 cases i with
 |bool=>cases h;exact .bool _
 |int=>cases h;exact .int _ _
 |string=>cases h;exact .string _
 | @slice ao l c j=>
  cases h with
  |js=>exact .js _ _
  | @slice a A _ _ k=>
   cases k with
   | @mk r s o p b=>obtain⟨d,t,u,e,F,m⟩:=j _ rfl;simp only[]at d;subst d;obtain⟨x,y,f,n,q⟩:=g.obj r s b;rw[m]at f;cases f;cases q;exact .slice _ _ b ⟨_,b⟩ ⟨_,_,_,n⟩
def Carry.rel{π:Ren G}{K:Nat->Prop}{w W:World}{Pr:Nat->Prop}(g:bj S Pr π w W):Carry π.rel K (named π) w W where
 fn:=π.fn
 cell b b' o v hs hc hv:=by
  obtain⟨c,e,F,i,j⟩:=mR hc;obtain⟨m,n,h,k,l⟩:=g.obj b b' hs;rw[i]at h;cases h;cases l with
  | @cells _ C _ _ _ d _=>
   have a:=d.get o;rw[j]at a;cases f:C[o]? with
   |none=>rw[f]at a;cases a
   |some V=>
    rw[f]at a;cases a with
    |some r=>exact⟨V,iY k f,TV.Ld g hv r⟩
def bl.rel{π:Ren G}{K w W Pr}(a:bj S Pr π w W){sc A c}(d:az π (.agg sc) A)(h:bl K w sc c):∃b,A=.agg b/\bl (named π) W b c:=by
 cases d with
 | @agg _ C e f=>exact⟨C,rfl,h.carry (Carry.rel a) e.symm λi v V g j k=>TV.Ld a k (f i v V g j)⟩
end
structure jD(w:World):Prop where
 kinds:ia w
 len:gZ w
 cells:∀g,g<5->∃c e F,w.heap[g]? =some (.cells c e F)
 size:Tryz.prog.globals.size<=w.heap.size
def jD.stays{w w'}(h:jD w)(a:ae w w')(b:w.heap.size<=w'.heap.size):jD w':=⟨h.kinds.stays a,h.len.stays a,λg d=>by obtain⟨c,e,F,f⟩:=h.cells g d;exact⟨c,e,F,a _ _ _ _ f⟩,Rr h.size b⟩
def zA(k):eC k≠74:=by
 unfold eC;repeat' split
 all_goals decide
section
variable {G:Nat} {S:Kn}
def zB(π:Ren G)(f:Nat)(a:f≠74):az π (.func (.func f) #[] #[]) (.func (.func f) #[] #[]):=.func (.func f a) rfl (λi x X h=>by simp at h) rfl (λi x X h=>by simp at h)
def fH{B fz w b o v}(h:w.cell? ⟨b,o,none⟩=some v)(a:az (idR G B) v v):(bZ (idR G B) fz w).cell? ⟨b,o,none⟩=some v:=by obtain⟨c,e,F,d,f⟩:=mR h;obtain⟨i,g⟩:=fu (G:=G) (B:=B) (fz:=fz) d;exact iY g (by rw[Sp,f,Sl,tk a])
def jD.mask{B fz:Nat->Prop}{w:World}(h:jD w):jD (bZ (idR G B) fz w) where
 kinds k hk:=fH (h.kinds k hk) (zB _ _ (zA k))
 len:=h.len.elim λm a=>⟨m,fH a (.int _ _)⟩
 cells g hg:=by obtain⟨c,e,F,b⟩:=h.cells g hg;obtain⟨f,d⟩:=fu (G:=G) (B:=B) (fz:=fz) b;exact⟨_,_,_,d⟩
 size:=by
  have:(bZ (idR G B) fz w).heap.size=w.heap.size:=by unfold bZ;simp
  rw[this];exact h.size
def DV{π:Ren G}{Pr w W}(j:bj S Pr π w W){b d o v}(k:π b d)(h:w.cell? ⟨b,o,none⟩=some v):∃V,W.cell? ⟨d,o,none⟩=some V/\az π v V:=by
 obtain⟨c,e,F,l,m⟩:=mR h;obtain⟨q,s,i,n,p⟩:=j.obj b d k;rw[l]at i;cases i;cases p with
 | @cells _ C _ _ _ f _=>
  have a:=f.get o;rw[m]at a;cases g:C[o]? with
  |none=>rw[g]at a;cases a
  |some V=>
   rw[g]at a;cases a with
   |some r=>exact⟨V,iY n g,r⟩
def Lm{π:Ren G}{f:Nat}{V}(h:az π (.func (.func f) #[] #[]) V):V=.func (.func f) #[] #[]:=by
 cases h with
 | @func fn i a A c C b d j e k=>
  cases b with
  |func=>have e1:A=#[]:=Wc d.symm;have g:C=#[]:=Wc e.symm;rw[e1,g]
def jD.rel{π:Ren Tryz.prog.globals.size}{Pr:Nat->Prop}{w W:World}(d:bj S Pr π w W)(f:∀g,g<5->π g g)(h:jD w):jD W where
 kinds k hk:=by obtain⟨V,a,b⟩:=DV d (f 0 (by decide)) (h.kinds k hk);rw[Lm b]at a;exact a
 len:=by obtain⟨m,i⟩:=h.len;obtain⟨V,a,b⟩:=DV d (f 2 (by decide)) i;cases b;exact⟨m,a⟩
 cells g hlt:=by obtain⟨c,e,F,j⟩:=h.cells g hlt;obtain⟨o,O,a,b,l⟩:=d.obj g g (f g hlt);rw[j]at a;cases a;cases l;exact⟨_,_,_,b⟩
 size:=d.gW
end
def dN(w:World)(v:Value)(L:List Value):Prop:=∃sc c,v=.agg sc/\bl (λ_=>True) w sc c/\OkC c/\(∀r∈c.rules,r.kind<=3)/\jD w/\L=gP (bX c)
def ql:oN dN:=λw w' v L ⟨sc,c,f,h,i,j,b,k⟩ a=>by
 refine⟨sc,c,f,h.stays a,i,j,?_,k⟩;refine⟨b.kinds.stays a,b.len.stays a,λg l=>?_,?_⟩
 ·obtain⟨c,e,F,d⟩:=b.cells g l
  exact⟨c,e,F,a _ _ _ _ d⟩
 ·rw[jT]
  obtain⟨c,e,F,d⟩:=b.cells 4 (by decide);exact(Rx.1 (a _ _ _ _ d)).1
end Go.Proofs

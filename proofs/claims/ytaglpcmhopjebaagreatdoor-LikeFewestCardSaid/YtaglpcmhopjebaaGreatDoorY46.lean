import Derived.Test.YtaglpcmhopjebaaGreatDoorY43
set_option linter.all false
set_option maxRecDepth 100000
set_option maxHeartbeats 20000000
namespace Go.Proofs
open Go.Tm Go.RowKit
variable {fs:Array Func} (L:bQ fs)
def Mb(a:ByteArray)(p c k:Int)(H:a.size<1000000)(b2 M N F g len cap i:Nat)(w:World)(h2:w.cell? ⟨b2,0,none⟩=some (.string a))(h3:w.cell? ⟨M,0,none⟩=some (.slice (some ⟨F,g,none⟩) len cap))(hg:w.cell? ⟨1,0,none⟩=some (.map (some N)))(O:dz w N)(hl:i<len)(an:len<=9223372036854775807)(t j c':Int)(x0:w.cell? ⟨F,g+i*3,none⟩=some (.int .i64 t))(x1:w.cell? ⟨F,g+i*3+1,none⟩=some (.int .i64 j))(x2:w.cell? ⟨F,g+i*3+2,none⟩=some (.int .u8 c'))(hp:decide (p<t)=false)(he:(p==t)=true):
 Calls (Qs fs) 90 #[.int .i64 ((i+1:Nat):Int),.agg #[.int .i64 p,.int .i64 k,.int .u8 c],.pointer (some ⟨b2,0,none⟩),.pointer (some ⟨M,0,none⟩)] w λe w'=>e=.returned (.int .i64 (if(!au k 0 2)=true then 1 else if(!au p 0 (kA a.size k))=true then 6 else if mW k c=true then 3 else if(j !=0)=true then 7 else 0))/\Below w.heap.size w w':=by
 have ao:wrap64 (i:Int)=(i:Int):=(by unfold wrap64;omega)
 have P:IntKind.i64.wrap (i:Int)=(i:Int):=wrap_i64 _ (by omega);have ar:max 0 (i:Int)=(i:Int):=by omega
 have ax:(0:Int)<(i:Int)+1:=by omega
 have ay:(i:Int)<(len:Int):=by omega
 have aM:IntKind.i64.wrap ((a.size:Int)-1)=(a.size:Int)-1:=wrap_i64 _ (by omega);obtain⟨D,o,s,Q,R,S,T,U⟩:=oU k c p a.size (j !=0);rw[T];clear T;obtain⟨TV,l⟩:∃z:Int,z=if(!o)=true then 1 else if(!au p 0 s)=true then 6 else if Q=true then 3 else if(j !=0)=true then 7 else 0:=⟨_,rfl⟩
 rw[<-l];have a1:=λob=>(ae.alloc w ob).cell hg;have a6:=λob=>(ae.alloc w ob).cell h2;have a7:=λob=>(ae.alloc w ob).cell h3;have a8:=λob=>(ae.alloc w ob).cell x0;have ba:=λob=>(ae.alloc w ob).cell x1;have bb:=λob=>(ae.alloc w ob).cell x2;have e51:=e51 L;have e52:=e52 L;have e63:=e63 L;have e91:=e91 L;obtain⟨w1,d⟩:=ex ((w.alloc (.cells #[.int .i64 p,.int .i64 k,.int .u8 c] 96)).alloc (.cells #[.int .i64 t,.int .i64 j,.int .u8 c'] 96));have S1:ae w w1:=by rw[d];exact(ae.alloc _ _).trans (ae.alloc _ _)
 have V:Below w.heap.size w w1:=by rw[d];exact(aF _ _).alloc (by simp) _
 have ct:∀i v,(#[.int .i64 p,.int .i64 k,.int .u8 c]:Array Value)[i]? =some v->w1.cell? ⟨w.heap.size,i,none⟩=some v:=λi v h=>by rw[d];exact(ae.alloc _ _).cell (aw w _ 96 i v h)
 have G:∀i v,(#[.int .i64 t,.int .i64 j,.int .u8 c']:Array Value)[i]? =some v->w1.cell? ⟨w.heap.size+1,i,none⟩=some v:=λi v h=>by rw[d];have W:=aw (w.alloc (.cells #[.int .i64 p,.int .i64 k,.int .u8 c] 96)) _ 96 i v h;rw[World.size_alloc]at W;exact W
 have u:=gz fs (O.below (aF w (.cells #[.int .i64 p,.int .i64 k,.int .u8 c] 96))) k true;rw[R,S]at u;obtain⟨N0,m⟩:=ex (w.heap.size);obtain⟨N1,n⟩:=ex (w.heap.size+1);rw[<-m]at ct;rw[<-n]at G;have X:Hid _:=V;obtain⟨B,I⟩:∃B:Bool->Int->Int,B=λb f=>if b=true then f else 0:=⟨_,rfl⟩
 have A:∀(b:Bool) (f:Int) (x:aj w w1),Calls (Qs fs) 52 #[.bool b,.int .i64 f] x.val λe w'=>e=.returned (.int .i64 (B b f))/\∃y:aj w w1,w'=y.val:=λb f x=>aj.same ((dm L b f x.val).mono λe w' h=>by rw[I];exact h);have q:∀x:aj w w1,Calls (Qs fs) 63 #[.int .i64 p,.int .i64 0,.int .i64 s] x.val λe w'=>e=.returned (.bool (au p 0 s))/\∃y:aj w w1,w'=y.val:=λx=>aj.same (cj fs (n63 L) p 0 s x.val);have r:∀x:aj w w1,Calls (Qs fs) 91 #[.int .u8 c] x.val λe w'=>e=.returned (.bool (decide (97<=c)&&decide (c<=122)))/\∃y:aj w w1,w'=y.val:=λx=>aj.same (eY fs (n91 L) c x.val);obtain⟨zl,C⟩:=ex ((decide (97<=c)&&decide (c<=122)));rw[<-C]at r U;have HV:Hid (dX [B (!o) 1,B (!au p 0 s) 6,B Q 3,B (j !=0) 7]=TV):=by rw[Hid,I,l];exact oT _ _ _ _
 obtain⟨zb,E⟩:=ex (au p 0 s);rw[<-E]at q HV;have a0:=λx:aj w w1=>x.cell (ct 0 _ rfl);have a2:=λx:aj w w1=>x.cell (ct 2 _ rfl);have y0:=λx:aj w w1=>x.cell (G 0 _ rfl);have y1:=λx:aj w w1=>x.cell (G 1 _ rfl);have Y:bits .and .i64 0 1=0:=by decide
 have Z:bits .and .i64 0 2=0:=by decide
 have aa:bits .and .i64 1 1=1:=by decide
 have ad:bits .and .i64 1 2=0:=by decide
 have af:bits .and .i64 2 1=0:=by decide
 have ag:bits .and .i64 2 2=2:=by decide
 have ak:bits .and .i64 3 1=1:=by decide
 have al:bits .and .i64 3 2=2:=by decide
 clear l I E C S1 V ct G O H R S;obtain⟨rfl,rfl,rfl,⟨rfl,J⟩|⟨rfl,J⟩⟩|⟨rfl,rfl,rfl,rfl⟩|⟨rfl,rfl,rfl,⟨rfl,J⟩|⟨rfl,J⟩⟩|⟨rfl,rfl,rfl,rfl⟩:=U;all_goals
  go_enter (n90 L),Tryz.ntmps90;go_upto_region 6 with fail;rw[<-d,<-n,<-m];clear d m n u;refine aT (w0:=w) (w1:=w1) 51 (by kernel_rfl) (by kernel_rfl) (ae.refl _) X.out ?_;simp only[R7,Si,Sk,Sj];haveI K:Nonempty (aj w w1):=⟨⟨w1,ae.refl _,X.out⟩⟩
  repeat (go_big_quiet_step (first|(go_at_call 52;exact A _ _ _)|(go_at_call 63;exact q _)|(go_at_call 91;exact r _)))
  refine wpQuiet_nil ?_;rintro wy ⟨⟨_,Sy,By⟩,rfl⟩;have BY:Hid _:=By;clear A q a0 a2 y0 y1 K Sy By r;go_wp2_with (first|(go_at_call 51;refine(rW L _ _ _ _ _).mono ?_;rintro e w4 ⟨rfl,rfl⟩))
  all_goals
   go_ret;exact⟨R6 (λz=>Ending.returned (.int .i64 z)) HV.out,BY.out.alloc BY.out.size _⟩
end Go.Proofs

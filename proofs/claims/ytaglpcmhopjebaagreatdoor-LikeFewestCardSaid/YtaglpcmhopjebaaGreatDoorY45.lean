import Derived.Test.YtaglpcmhopjebaaGreatDoorY43
set_option linter.all false
set_option maxRecDepth 100000
set_option maxHeartbeats 20000000
namespace Go.Proofs
open Go.Tm Go.RowKit
variable {fs:Array Func} (L:bQ fs)
def Ma(a:ByteArray)(p c k:Int)(G:a.size<1000000)(b2 M N C g len cap i:Nat)(w:World)(h2:w.cell? ⟨b2,0,none⟩=some (.string a))(h3:w.cell? ⟨M,0,none⟩=some (.slice (some ⟨C,g,none⟩) len cap))(hg:w.cell? ⟨1,0,none⟩=some (.map (some N)))(O:dz w N)(hl:i<len)(an:len<=9223372036854775807)(E H c':Int)(x0:w.cell? ⟨C,g+i*3,none⟩=some (.int .i64 E))(x1:w.cell? ⟨C,g+i*3+1,none⟩=some (.int .i64 H))(x2:w.cell? ⟨C,g+i*3+2,none⟩=some (.int .u8 c'))(hp:decide (p<E)=true):
 Calls (Qs fs) 90 #[.int .i64 ((i+1:Nat):Int),.agg #[.int .i64 p,.int .i64 k,.int .u8 c],.pointer (some ⟨b2,0,none⟩),.pointer (some ⟨M,0,none⟩)] w λe w'=>e=.returned (.int .i64 (if(!au k 0 2)=true then 1 else if(!au p 0 (kA a.size k))=true then 6 else if mW k c=true then 3 else if true=true then 7 else 0))/\Below w.heap.size w w':=by
 have ao:wrap64 (i:Int)=(i:Int):=(by unfold wrap64;omega)
 have P:IntKind.i64.wrap (i:Int)=(i:Int):=wrap_i64 _ (by omega);have ar:max 0 (i:Int)=(i:Int):=by omega
 have ax:(0:Int)<(i:Int)+1:=by omega
 have ay:(i:Int)<(len:Int):=by omega
 have aM:IntKind.i64.wrap ((a.size:Int)-1)=(a.size:Int)-1:=wrap_i64 _ (by omega);obtain⟨D,o,r,Q,R,S,T,U⟩:=oU k c p a.size true;rw[T];clear T;obtain⟨TV,j⟩:∃z:Int,z=if(!o)=true then 1 else if(!au p 0 r)=true then 6 else if Q=true then 3 else if true=true then 7 else 0:=⟨_,rfl⟩
 rw[<-j];have a1:=λob=>(ae.alloc w ob).cell hg;have a6:=λob=>(ae.alloc w ob).cell h2;have a7:=λob=>(ae.alloc w ob).cell h3;have a8:=λob=>(ae.alloc w ob).cell x0;have ba:=λob=>(ae.alloc w ob).cell x1;have bb:=λob=>(ae.alloc w ob).cell x2;have e51:=e51 L;have e52:=e52 L;have e63:=e63 L;have e91:=e91 L;obtain⟨w1,d⟩:=ex ((w.alloc (.cells #[.int .i64 p,.int .i64 k,.int .u8 c] 96)).alloc (.cells #[.int .i64 E,.int .i64 H,.int .u8 c'] 96));have S1:ae w w1:=by rw[d];exact(ae.alloc _ _).trans (ae.alloc _ _)
 have V:Below w.heap.size w w1:=by rw[d];exact(aF _ _).alloc (by simp) _
 have ct:∀i v,(#[.int .i64 p,.int .i64 k,.int .u8 c]:Array Value)[i]? =some v->w1.cell? ⟨w.heap.size,i,none⟩=some v:=λi v h=>by rw[d];exact(ae.alloc _ _).cell (aw w _ 96 i v h)
 have F:∀i v,(#[.int .i64 E,.int .i64 H,.int .u8 c']:Array Value)[i]? =some v->w1.cell? ⟨w.heap.size+1,i,none⟩=some v:=λi v h=>by rw[d];have W:=aw (w.alloc (.cells #[.int .i64 p,.int .i64 k,.int .u8 c] 96)) _ 96 i v h;rw[World.size_alloc]at W;exact W
 have s:=gz fs (O.below (aF w (.cells #[.int .i64 p,.int .i64 k,.int .u8 c] 96))) k true;rw[R,S]at s;obtain⟨N0,l⟩:=ex (w.heap.size);obtain⟨N1,m⟩:=ex (w.heap.size+1);rw[<-l]at ct;rw[<-m]at F;have X:Hid _:=V;obtain⟨B,I⟩:∃B:Bool->Int->Int,B=λb f=>if b=true then f else 0:=⟨_,rfl⟩
 have t:∀(b:Bool) (f:Int) (x:aj w w1),Calls (Qs fs) 52 #[.bool b,.int .i64 f] x.val λe w'=>e=.returned (.int .i64 (B b f))/\∃y:aj w w1,w'=y.val:=λb f x=>aj.same ((dm L b f x.val).mono λe w' h=>by rw[I];exact h);have n:∀x:aj w w1,Calls (Qs fs) 63 #[.int .i64 p,.int .i64 0,.int .i64 r] x.val λe w'=>e=.returned (.bool (au p 0 r))/\∃y:aj w w1,w'=y.val:=λx=>aj.same (cj fs (n63 L) p 0 r x.val);have q:∀x:aj w w1,Calls (Qs fs) 91 #[.int .u8 c] x.val λe w'=>e=.returned (.bool (decide (97<=c)&&decide (c<=122)))/\∃y:aj w w1,w'=y.val:=λx=>aj.same (eY fs (n91 L) c x.val);obtain⟨zl,u⟩:=ex ((decide (97<=c)&&decide (c<=122)));rw[<-u]at q U;have HV:Hid (dX [B (!o) 1,B (!au p 0 r) 6,B Q 3,B true 7]=TV):=by rw[Hid,I,j];exact oT _ _ _ _
 obtain⟨zb,A⟩:=ex (au p 0 r);rw[<-A]at n HV;have a0:=λx:aj w w1=>x.cell (ct 0 _ rfl);have a2:=λx:aj w w1=>x.cell (ct 2 _ rfl);have y0:=λx:aj w w1=>x.cell (F 0 _ rfl);have y1:=λx:aj w w1=>x.cell (F 1 _ rfl);have Y:bits .and .i64 0 1=0:=by decide
 have Z:bits .and .i64 0 2=0:=by decide
 have aa:bits .and .i64 1 1=1:=by decide
 have ad:bits .and .i64 1 2=0:=by decide
 have af:bits .and .i64 2 1=0:=by decide
 have ag:bits .and .i64 2 2=2:=by decide
 have ak:bits .and .i64 3 1=1:=by decide
 have al:bits .and .i64 3 2=2:=by decide
 clear j I A u S1 V ct F O G R S;obtain⟨rfl,rfl,rfl,⟨rfl,J⟩|⟨rfl,J⟩⟩|⟨rfl,rfl,rfl,rfl⟩|⟨rfl,rfl,rfl,⟨rfl,J⟩|⟨rfl,J⟩⟩|⟨rfl,rfl,rfl,rfl⟩:=U;all_goals
  go_enter (n90 L),Tryz.ntmps90;go_upto_region 6 with fail;rw[<-d,<-m,<-l];clear d l m s;refine aT (w0:=w) (w1:=w1) 51 (by kernel_rfl) (by kernel_rfl) (ae.refl _) X.out ?_;simp only[R7,Si,Sk,Sj];haveI K:Nonempty (aj w w1):=⟨⟨w1,ae.refl _,X.out⟩⟩
  repeat (go_big_quiet_step (first|(go_at_call 52;exact t _ _ _)|(go_at_call 63;exact n _)|(go_at_call 91;exact q _)))
  refine wpQuiet_nil ?_;rintro wy ⟨⟨_,Sy,By⟩,rfl⟩;have BY:Hid _:=By;clear t n a0 a2 y0 y1 K Sy By q;go_wp2_with (first|(go_at_call 51;refine(rW L _ _ _ _ _).mono ?_;rintro e w4 ⟨rfl,rfl⟩))
  all_goals
   go_ret;exact⟨R6 (λz=>Ending.returned (.int .i64 z)) HV.out,BY.out.alloc BY.out.size _⟩
end Go.Proofs

import Derived.Shelf.Strings.IndexAnyAll
import Derived.Laws.RangeAny
import Derived.Laws.Runes
import Derived.Lib.OthersKept
import Derived.Laws.IdiomStrings
import Derived.Test.YtaglpcmhopjebaaGreatDoorY32
set_option linter.all false
set_option maxRecDepth 100000
set_option maxHeartbeats 20000000
namespace Go.Proofs
open Go.Shelf Go.Tm Go.RowKit
variable {fs:Array Func} (L:bQ fs)
def MF:((Tryz.prog.info? 240).bind (·.zero))=some (.agg (Array.replicate 256 (.bool false))):=by kernel_rfl
def MG:(Tryz.prog.info? 240).map (·.size)=some 256:=by kernel_rfl
def Ce(fs w):(zeroValue 240).run (Qs fs) w=.ok (.agg (Array.replicate 256 (.bool false))) w:=by
 rw[gD];have h:=MF;cases a:Tryz.prog.info? 240 with
 |none=>rw[a]at h;cases h
 |some i=>rw[a]at h;simp only[TF]at h;simp[zeroValue,typeInfo,a,h]
def Cg(s:ByteArray)(c:Int)(w:World):Calls (Qs fs) 193 #[.string s,.int .u8 c] w λe w'=>e=.returned (.int .i64 (Lib.indexByte s.data.toList c.toNat.toUInt8))/\w'=w:=Any.strings_IndexByte {(pR L).1 with} s c w
def uo(s a:ByteArray)(w:World)(d:2<=a.size)(g:8<s.size)(h:s.size<4294967281)(f:a.size<4294967281)(c:∀(j:Nat) b,a.data.toList[j]? =some b->b.toNat<128):
 Calls (Qs fs) 165 #[.string s,.string a] w λe w'=>e=.returned (.int .i64 (Lib.indexAny s.data.toList a.data.toList))/\Below w.heap.size w w':=
 (Any.strings_IndexAny_long {(pR L).1 with} (Ce fs) MG s a w d g h f c).mono λe w' ⟨i,d⟩=>⟨i,by rw[d];exact((Below.refl _ _).alloc (Rq _) _).alloc (by simp) _⟩
def vB(w s pos):Below w.heap.size w (w.iter s pos):=(Below.refl _ _).alloc (Rq _) _
def indexByte_none(l c)(h:∀b∈l,b≠c):Lib.indexByte l c= -1:=by
 have a:=Lib.contains_iff_indexByte l c;have d:l.contains c=false:=by
  cases e:l.contains c with
  |false=>rfl
  |true=>exact absurd rfl (h c (by simpa using e))
 rw[d]at a;have f:=of_decide_eq_false a.symm;have g:=Lib.indexByte_ge l c;omega
def Ch(s:ByteArray)(k){b}(h:b∈(s.extract k s.size).data.toList):b∈s.data.toList:=by
 have e:(s.extract k s.size).data=s.data.extract k s.size:=by simp
 rw[e,Vy]at h;exact List.mem_of_mem_drop (List.mem_of_mem_take h)
def Ci(r:Int)(w:World):Calls (Qs fs) 194 #[.int .i32 r] w λe w'=>e=.returned (.bool (Utf8.valid r))/\w'=w:=by
 by_cases c:0<=r
 ·by_cases b:r<55296
  ·have a:Hid (Utf8.valid r=true):=by unfold Hid Utf8.valid;simp;omega
   go_enter (n194 L),Tryz.ntmps194;go_wp2;go_ret;exact⟨by rw[a.out];rfl,rfl⟩
  ·have d:decide (r<55296)=false:=Rz b
   by_cases f:57343<r
   ·by_cases g:r<=1114111
    ·have a:Hid (Utf8.valid r=true):=by unfold Hid Utf8.valid;simp;omega
     go_enter (n194 L),Tryz.ntmps194;go_wp2;go_ret;exact⟨by rw[a.out];rfl,rfl⟩
    ·have a:Hid (Utf8.valid r=false):=by unfold Hid Utf8.valid;simp;omega
     go_enter (n194 L),Tryz.ntmps194;go_wp2;go_ret;exact⟨by rw[a.out];rfl,rfl⟩
   ·have a:Hid (Utf8.valid r=false):=by unfold Hid Utf8.valid;simp;omega
    go_enter (n194 L),Tryz.ntmps194;go_wp2;go_ret;exact⟨by rw[a.out];rfl,rfl⟩
 ·have a:Hid (Utf8.valid r=false):=by unfold Hid Utf8.valid;simp;omega
  go_enter (n194 L),Tryz.ntmps194;go_wp2;go_ret;exact⟨by rw[a.out];rfl,rfl⟩
def sL(s:ByteArray)(r:Int)(w:World)(D:∀(j:Nat) b,s.data.toList[j]? =some b->b.toNat<128)(hz:s.size<=1000)(I:128<=r)(h2:r<=2147483647):
 Calls (Qs fs) 175 #[.string s,.int .i32 r] w λe w'=>e=.returned (.int .i64 (-1))/\Below w.heap.size w w':=by
 have PU:=PU L;have PV:=PV L;have c:=Ci L r w;have n:Hid _:=D;clear D;have J:decide (r<128)=false:=Rz (by omega);by_cases E:r=65533
 ·subst E
  clear c;go_enter (n175 L),Tryz.ntmps175;go_wp2
  go_loopg [5,6] s.size (λg _ _ wx=>∃i:Nat,i+g=s.size/\wx=w.iter s i)
  case atStart=>exact⟨0,by omega,rfl⟩
  case round=>
   obtain⟨i,K,rfl⟩:=hrel;cases gk with
   |zero=>
    obtain rfl:i=s.size:=by omega
    have l:=λty=>run_next_end (P:=Qs fs) w s s.size ty (by omega);go_wp2;go_ret;exact⟨rfl,vB w s _⟩
   |succ g=>
    have o:i<s.size:=by omega
    obtain⟨x,a⟩:∃x:UInt8,s[i]'o=x:=⟨_,rfl⟩
    have d:x.toNat<128:=n.out i x (by rw[<-a];exact Lib.data_getElem? s i o);have l:=λty=>run_next_ascii (P:=Qs fs) w s i ty o (by rw[a];exact d);rw[a]at l;have M:((x.toNat:Int)==65533)=false:=by rw[R2];omega
    clear a;go_wp2
    go_roundg g
    case measure=>omega
    case rel=>exact⟨i+1,by omega,rfl⟩
 ·have N:(r==65533)=false:=by rw[R2];exact E
  cases m:Utf8.valid r with
  |false=>
   rw[m]at c;clear m;go_enter (n175 L),Tryz.ntmps175;go_wp2_with (first|(go_at_call 194;refine c.mono ?_;clear c;rintro e w2 ⟨rfl,rfl⟩))
   go_ret;exact⟨rfl,Below.refl _ _⟩
  |true=>
   obtain⟨O,Q,p⟩:=encode_facts r m I;have q:=λw=>run_convert_int_string (P:=Qs fs) w 21 9 .i32 r (by rw[aH];rfl) (by rw[aH];exact Tryz.underlying9);obtain⟨t,v⟩:=ex (Utf8.encode r);rw[<-v]at O Q q;simp only[<-v]at p;obtain⟨k,F⟩:∃k,t.size=k+1:=⟨t.size-1,by omega⟩
   have f:k<t.size:=by omega
   have R:128<=(t[k]'f).toNat:=by have:=p (by omega);simpa[F]using this
   clear p v;rw[m]at c;clear m;have S:IntKind.i64.wrap ((t.size:Int)-1)=k:=by rw[F];exact(wrap_i64 _ (by omega)).trans (by omega)
   go_enter (n175 L),Tryz.ntmps175;go_wp2_with (first|(go_at_call 194;refine c.mono ?_;clear c;rintro e w2 ⟨rfl,rfl⟩))
   go_step3
   go_wp2;have A:=λu wx=>Cg L u ((t[k]'f).toNat:Int) wx;go_loopw [9] (λz wr=>z=.int .i64 k/\wr=w2) (λ_ _=>0)
   case atStart=>exact⟨rfl,rfl⟩
   case round=>
    obtain⟨rfl,rfl⟩:=hrel;obtain hks|hks:=Ry k s.size
    ·obtain⟨x,a⟩:=ex (s[k]'hks)
     obtain⟨y,B⟩:=ex (t[k]'f);have T:x.toNat<128:=n.out k x (by rw[a];exact Lib.data_getElem? s k hks);rw[<-B]at R A;have U:((x.toNat:Int)!=(y.toNat:Int))=true:=by rw[Tq];omega
     have G:(k:Int)<(s.size:Int):=by omega
     have H:(k:Int)<(t.size:Int):=by omega
     have V:IntKind.i64.wrap ((k:Int)+1)=(k:Int)+1:=wrap_i64 _ (by omega);have W:(k:Int)+1<=(s.size:Int):=by omega
     have X:(0:Int)<=(k:Int)+1:=by omega
     have Y:s[k]=x:=a.symm;have Z:t[k]=y:=B.symm;have C:∀wx,Calls (Qs fs) 193 #[.string (s.extract (k+1) s.size),.int .u8 y.toNat] wx λe w'=>e=.returned (.int .i64 (-1))/\w'=wx:=λwx=>by
      have h:=A (s.extract (k+1) s.size) wx;rw[show((y.toNat:Int)).toNat.toUInt8=y by simp,indexByte_none _ y (λb hb e=>by subst e;obtain⟨j,hj⟩:=SZ.1 (Ch s (k+1) hb);have:=n.out j b hj;omega)]at h
      exact h
     clear a B A;go_wp2
     go_step3
     go_wp2;go_quiet (fail);go_wp2;go_quiet (first|(go_at_call 193;exact(C _).mono λe w' h=>⟨h.1,_,h.2⟩));go_wp2;simp(config:={zetaDelta:=true}) only [Exit.noGoto_ret,Exit.inBlock,Exit.then];go_ret;exact⟨rfl,(Below.refl _ _).fL _⟩
    ·go_wp2
     rw[Exit.noGoto_ret];go_ret;exact⟨rfl,Below.refl _ _⟩
def qW(s:ByteArray)(r:Int)(w:World)(a:0<=r)(b:r<128):Calls (Qs fs) 175 #[.string s,.int .i32 r] w λe w'=>e=.returned (.int .i64 (Lib.indexByte s.data.toList r.toNat.toUInt8))/\w'=w:=Any.strings_IndexRune_ascii {(pR L).1 with} s r w a b
def oV(L:bQ fs)(n w):Calls (Qs fs) 176 #[.int .i64 n] w λe w'=>e=.returned (.bool (decide (8<n)))/\w'=w:=Any.strings_shouldUseASCIISet {(pR L).1 with} n w
def jM{w w' B k pos s}(h:Below B w w')(b:B<=k):Below B w (w'.iterAt k s pos):=
 ⟨h.os,h.tape,h.output,by simp[World.iterAt,h.size],λi a=>by
  have:k≠i:=by omega
  simp[World.iterAt,RH this,h.block i a]⟩
def Aa(s pos)(h:pos<s.size)(d:128<=(s[pos]'h).toNat):pos+(Utf8.decode s pos).2<=s.size/\∀j,j<(Utf8.decode s pos).2->128<=(s.get! (pos+j)).toNat:=by
 have c:128<=(s.get! (pos+0)).toNat:=by rw[get_at s pos h];exact d
 have e:¬(s.get! (pos+0)).toNat<128:=by omega
 have one:∀j,j<1->128<=(s.get! (pos+j)).toNat:=λj a=>by
  obtain rfl:j=0:=by omega
  exact c
 simp only[Utf8.decode,e,RP];split
 ·rename_i b
  simp only[RD,Sq,RJ]at b;split
  ·refine⟨by omega,λj a=>?_⟩
   match j,a with
   |0,_=>exact c
   |1,_=>omega
  ·exact⟨by omega,one⟩
 ·split
  ·rename_i b
   simp only[RD,Sq,RJ]at b;split
   ·refine⟨by omega,λj a=>?_⟩
    match j,a with
    |0,_=>exact c
    |1,_=>omega
    |2,_=>omega
   ·exact⟨by omega,one⟩
  ·split
   ·rename_i b
    simp only[RD,Sq,RJ]at b;split
    ·refine⟨by omega,λj a=>?_⟩
     match j,a with
     |0,_=>exact c
     |1,_=>omega
     |2,_=>omega
     |3,_=>omega
    ·exact⟨by omega,one⟩
   ·exact⟨by omega,one⟩
def EM{s a i n}(h:Lib.NoAny s a i)(f:∀c∈a,c.toNat<128)(g:∀j b,j<n->s[i+j]? =some b->128<=b.toNat):Lib.NoAny s a (i+n):=by
 intro j b k e;obtain h1|h1:=Ry j i
 ·exact h j b h1 e
 ·have:=g (j-i) b (by omega) (by rw[show i+(j-i)=j by omega];exact e)
  cases d:a.contains b with
  |false=>rfl
  |true=>have:=f b (by simpa using d);omega
def sM(s a:ByteArray)(w:World)(h2:2<=a.size)(h8:s.size<=8)(B:a.size<=1000)(V:∀(j:Nat) b,a.data.toList[j]? =some b->b.toNat<128):
 Calls (Qs fs) 165 #[.string s,.string a] w λe w'=>e=.returned (.int .i64 (Lib.indexAny s.data.toList a.data.toList))/\Below w.heap.size w w':=by
 have PQ:=PQ L;have PR:=PR L;have W:a.toList.isEmpty=false:=by
  rw[Lib.toList_data];cases h:a.data.toList with
  |nil=>have:=Lib.size_eq a;rw[h,RF]at this;omega
  |cons _ _=>rfl
 have aa:((a.size:Int)==1)=false:=R2.2 (by omega);have R:=oV L (s.size:Int) w;rw[Rz (by omega)]at R;have X:Hid _:=V;clear V;go_enter (n165 L),Tryz.ntmps165;go_wp2_with (first|(go_at_call 176;refine R.mono ?_;clear R;rintro e w2 ⟨rfl,rfl⟩))
 obtain⟨N,Q⟩:=ex (w2.heap.size);have S:Hid ((w2.iter s 0).heap[N]? =some (.stringIter s 0)):=by rw[Q];exact World.iter_heap w2 s 0
 rw[<-Q];have p:Hid _:=Q;clear Q
 go_loopg [9,10] s.size (λg _ _ G=>∃i:Nat,s.size<=i+g/\i<=s.size/\G.heap[N]? =some (.stringIter s i)/\Lib.NoAny s.data.toList a.data.toList i/\Below N w2 G)
 case atStart=>exact⟨0,by omega,RA _,S.out,Lib.NoAny.zero _ _,by rw[p.out];exact vB w2 s 0⟩
 case round=>
  obtain⟨i,ab,ad,f,J,A⟩:=hrel;have K:Hid _:=J;have H:Hid _:=A;have M:N<wr.heap.size:=(Rx.1 f).1;clear J A;cases gk with
  |zero=>
   obtain rfl:i=s.size:=by omega
   have m:=λty=>Lib.run_next_end_at (P:=Qs fs) wr N s s.size ty f (by omega);go_wp2;go_ret;exact⟨by rw[Lib.indexAny_none (by rw[<-Lib.size_eq];exact K.out)];rfl,by have:=H.out;rwa[p.out]at this⟩
  |succ g=>
   have v:i<s.size\/i=s.size:=by omega
   obtain v|rfl:=v
   ·obtain⟨x,I⟩:∃x:UInt8,s[i]'v=x:=⟨_,rfl⟩
    have C:s.data.toList[i]? =some x:=by rw[<-I];exact Lib.data_getElem? s i v
    have Y:Hid _:=C;by_cases D:x.toNat<128
    ·have m:=λty=>Lib.run_next_ascii_at (P:=Qs fs) wr N s i ty f v (by rw[I];exact D)
     rw[I]at m;have d:=Lib.contains_iff_indexByte a.data.toList x;have u:=λG=>qW L a (x.toNat:Int) G (by omega) (by omega);rw[show((x.toNat:Int)).toNat.toUInt8=x by simp]at u;have l:=Lib.iterAt_heap wr N s i (i+1) f;have E:Hid _:=l;clear f l C I;cases o:a.data.toList.contains x with
     |false=>
      rw[o]at d;have y:¬((0:Int)<=Lib.indexByte a.data.toList x):=of_decide_eq_false d.symm;have F:Hid _:=o;clear d o;obtain⟨z,B⟩:=ex (Lib.indexByte a.data.toList x);rw[<-B]at y u;clear B;go_wp2_with (first|(go_at_call 175;refine(u _).mono ?_;clear u;rintro e w3 ⟨rfl,rfl⟩))
      go_roundg g
      case measure=>omega
      case rel=>exact⟨i+1,by omega,by omega,E.out,Lib.NoAny.succ K.out Y.out F.out,jM H.out (Rq _)⟩
     |true=>
      rw[o]at d;have q:(0:Int)<=Lib.indexByte a.data.toList x:=Su d.symm;have F:Hid _:=o;clear d o;obtain⟨z,B⟩:=ex (Lib.indexByte a.data.toList x);rw[<-B]at q u;clear B;go_wp2_with (first|(go_at_call 175;refine(u _).mono ?_;clear u;rintro e w3 ⟨rfl,rfl⟩))
      go_ret;exact⟨by rw[Lib.indexAny_hit K.out Y.out F.out];rfl,by have:=jM (k:=N) (pos:=i+1) (s:=s) H.out (Rq _);rwa[show Below N w2=Below w2.heap.size w2 by rw[p.out]]at this⟩
    ·have q:128<=(s[i]'v).toNat:=by rw[I];omega
     have m:=λty=>Lib.run_next_any_at (P:=Qs fs) wr N s i ty f v;obtain⟨d1,d2⟩:=decode_high s i v q;obtain⟨d3,d4⟩:=Aa s i v q;have d5:=decode_le s i;obtain⟨r,Z⟩:=ex ((Utf8.decode s i).1);obtain⟨n,hn⟩:=ex ((Utf8.decode s i).2);rw[<-Z]at m d1 d5;rw[<-hn]at m d2 d3 d4;have t:Lib.NoAny s.data.toList a.data.toList (i+n):=EM K.out (λc hc=>by
      obtain⟨j,T⟩:=SZ.1 hc;exact X.out j c T) (λj b T hb=>by
       have:=d4 j T;have y:i+j<s.size:=by omega
       have e:=get_at s (i+j) y;rw[SM]at e;rw[e]at this;rw[Lib.data_getElem? s (i+j) y]at hb;cases hb;exact this)
     have U:Hid _:=t;have u:=λG=>sL L a (r:Int) G X.out B (by omega) (by omega);have l:=Lib.iterAt_heap wr N s i (i+n) f;have E:Hid _:=l;clear f l C I q Z hn d4 t;go_wp2_with (first|(go_at_call 175;refine(u _).mono ?_;clear u;rintro e w3 ⟨rfl,O⟩))
     go_roundg g
     case measure=>omega
     case rel=>exact⟨i+n,by omega,by omega,(O.block N (by simpa[World.iterAt]using M)).trans E.out,U.out,(jM H.out (Rq _)).trans (O.mono (by have:=(jM (k:=N) (pos:=i+n) (s:=s) H.out (Rq _)).size;have:=p.out;omega))⟩
   ·have m:=λty=>Lib.run_next_end_at (P:=Qs fs) wr N s s.size ty f (by omega)
    go_wp2;go_ret;exact⟨by rw[Lib.indexAny_none (by rw[<-Lib.size_eq];exact K.out)];rfl,by have:=H.out;rwa[p.out]at this⟩
end Go.Proofs
namespace Go.Proofs
open Go.Tm Go.RowKit
variable {fs:Array Func} (L:bQ fs)
def cs4:ByteArray:=⟨#[10,58,59,44]⟩
def yK:∀(j:Nat) b,cs4.data.toList[j]? =some b->b.toNat<128:=by intro j b h;have a:b∈cs4.data.toList:=SN h;have:cs4.data.toList=[10,58,59,44]:=rfl;rw[this]at a;simp only[RX,Se,Sf]at a;rcases a with rfl|rfl|rfl|rfl<;>decide
def Ab(l):decide (0<=Lib.indexAny l cs4.data.toList)=l.any qq:=by
 induction l with
 |nil=>rfl
 |cons b l a=>
  have c:cs4.data.toList.contains b=qq b:=by have:cs4.data.toList=[10,58,59,44]:=rfl;rw[this];unfold qq;simp only[List.contains_cons,List.contains_nil,Bool.or_false,Bool.or_assoc]
  rw[Lib.indexAny,c,List.any_cons,<-a];have:=Lib.indexAny_ge cs4.data.toList l;cases qq b with
  |true=>simp
  |false=>
   simp only[RQ,RP,Ua];by_cases h:Lib.indexAny l cs4.data.toList= -1
   ·rw[h];rfl
   ·rw[Ro (by simpa using h)]
    rw[RE (by omega),RE (by omega)]
def ER(s:ByteArray)(w:World)(a:s.size<4294967281):Calls (Qs fs) 165 #[.string s,.string cs4] w λe w'=>e=.returned (.int .i64 (Lib.indexAny s.data.toList cs4.data.toList))/\Below w.heap.size w w':=by
 obtain h|h:=Ry 8 s.size
 ·exact uo L s cs4 w (by decide) h a (by decide) yK
 ·exact sM L s cs4 w (by decide) h (by decide) yK
def xO(s:ByteArray)(w:World)(d:s.size<4294967281):Calls (Qs fs) 135 #[.string s,.string cs4] w λe w'=>e=.returned (.bool (s.data.toList.any qq))/\Below w.heap.size w w':=by
 have PM:=PM L;have c:=ER L s w d;have a:Hid _:=Ab s.data.toList;obtain⟨z,b⟩:=ex (Lib.indexAny s.data.toList cs4.data.toList);rw[<-b]at c a;clear b;obtain⟨ch,hch⟩:=ex cs4;rw[<-hch]at c⊢;clear hch;go_enter (n135 L),Tryz.ntmps135;go_wp2_with (first|(go_at_call 165;refine c.mono ?_;clear c;rintro e w2 ⟨rfl,f⟩))
 go_ret;exact⟨by rw[<-a.out];rfl,f⟩
def vG(s:ByteArray)(a:Int)(w:World)(k:a<=1000):Calls (Qs fs) 99 #[.string s,.int .i64 a] w λe w'=>e=.returned (.bool (dq s a))/\Below w.heap.size w w':=by
 have PC:=PC L;have e63:=e63 L;have c:=cj fs (n63 L) (s.size:Int) 1 a w;have i:Hid (dq s a=(au s.size 1 a&& !s.data.toList.any qq)):=rfl;cases b:au s.size 1 a with
 |false=>
  have d:Hid (dq s a=false):=by rw[i.out,b];rfl
  unfold au at b;rw[b]at c;clear b;go_enter (n99 L),Tryz.ntmps99;go_wp2_with (first|(go_at_call 63;refine c.mono ?_;clear c;rintro e w2 ⟨rfl,rfl⟩))
  go_ret;exact⟨by rw[d.out];rfl,Below.refl _ _⟩
 |true=>
  have d:Hid (dq s a= !s.data.toList.any qq):=by rw[i.out,b];rfl
  unfold au at b;rw[b]at c;have g:s.size<4294967281:=by rw[RD,RJ,RJ]at b;omega
  clear b;have f:=xO L s w g;rw[show cs4=(⟨#[10,58,59,44]⟩:ByteArray)from rfl]at f;obtain⟨z,j⟩:=ex (s.data.toList.any qq);rw[<-j]at f d;clear j;go_enter (n99 L),Tryz.ntmps99;go_wp2_with (first|(go_at_call 63;refine c.mono ?_;clear c;rintro e w2 ⟨rfl,rfl⟩)|(go_at_call 135;refine f.mono ?_;clear f;rintro e w3 ⟨rfl,h⟩))
  go_ret;exact⟨by rw[d.out];rfl,h⟩
def Ac(w:World)(v:Value)(s:ByteArray):Prop:=∃g cap,v=.slice (some ⟨g,0,none⟩) s.size cap/\s.size<=cap/\∀j (h:j<s.size),w.cell? ⟨g,j,none⟩=some (.int .u8 (s[j]'h).toNat)
def yL(fs s w):∃v w',(convert 9 120 (.string s)).run (Qs fs) w=.ok v w'/\Ac w' v s/\Below w.heap.size w w':=by have h:=run_bytes_of_string (P:=Qs fs) w 9 120 5 s (by rw[aH];exact Tryz.underlying9) (by rw[aH];exact Tryz.underlying120) (by rw[aH];exact Tryz.underlying5);refine⟨_,_,h,⟨w.heap.size,_,rfl,grownCap_ge _ _ _ _,λj a=>?_⟩,((Below.refl _ _).drew.alloc (Rq _) _)⟩;exact cell_of_heap (w:=(w.drew.alloc _)) (b:=w.heap.size) Sd j _ (bytesRow_at s _ j a)
def Cl(f p v s w)(G:∀a w,(callFunc f a).run (Qs fs) w=.ok (.enter f a) w)(B:Ac w v s)(H:s.size<=1000000)
 (t:∀(c) wx,Calls (Qs fs) f (#[.int .u8 c.toNat]++#[]) wx λe w'=>e=.returned (.bool (p c))/\w'=wx):
 Calls (Qs fs) 143 #[v,.func (.func f) #[] #[]] w λe w'=>(∃z,e=.returned (.int .i64 z)/\decide (0<=z)=s.data.toList.any p)/\w'=w:=by
 obtain⟨g,cap,rfl,u,r⟩:=B;have C:Hid _:=r;have m:∀(c:UInt8) wx,Calls (Qs fs) f #[.int .u8 c.toNat] wx λe w'=>e=.returned (.bool (p c))/\w'=wx:=t;have D:Hid _:=m;clear r t m;go_enter (n143 L),Tryz.ntmps143;go_wp2;go_loopw [8] (λz wr=>∃j:Nat,j<=s.size/\z=.int .i64 j/\wr=w/\∀i (k:i<s.size),i<j->p s[i]=false) (λz _=>s.size-(intOf z).toNat)
 case atStart=>exact⟨0,RA _,rfl,rfl,λi k h=>by omega⟩
 case round=>
  obtain⟨j,I,rfl,rfl,n⟩:=hrel;have y:Hid _:=n;clear n;obtain d|hge:=Ry j s.size
  ·have r:=C.out j d
   have cp:=D.out (s[j]'d) wr;have E:(j:Int)<(s.size:Int):=by omega
   obtain⟨x,o⟩:=ex (s[j]'d);rw[<-o]at r cp;have A:Hid _:=o;clear o;cases b:p x with
   |true=>
    rw[b]at cp;have l:Hid _:=b;clear b;go_wp2_with (first|(go_at_fn f;refine cp.mono ?_;rintro e w3 ⟨rfl,rfl⟩))
    go_ret;refine⟨⟨(j:Int),rfl,?_⟩,rfl⟩;rw[RE (by omega),Tw,Ta];exact⟨x,by rw[A.out];exact SN (Lib.data_getElem? s j d),l.out⟩
   |false=>
    rw[b]at cp;have l:Hid _:=b;clear b;go_wp2_with (first|(go_at_fn f;refine cp.mono ?_;rintro e w3 ⟨rfl,rfl⟩))
    refine⟨⟨j+1,by omega,by go_num,trivial,λi k F=>?_⟩,by simp[intOf];omega⟩;by_cases h:i<j
    ·exact y.out i k h
    ·obtain rfl:i=j:=by omega
     exact A.out▸l.out
  ·go_wp2
   go_ret;refine⟨⟨-1,rfl,?_⟩,rfl⟩;rw[Rz (by decide),Tw,T2];intro x o;obtain⟨i,k⟩:=SZ.1 o;have q:i<s.size:=by have:=(Ts.1 k).1;rw[<-Lib.size_eq]at this;exact this
   rw[Lib.data_getElem? s i q]at k;cases k;rw[y.out i q (by omega)];exact T3
def nH(f p v s w)(i:∀a w,(callFunc f a).run (Qs fs) w=.ok (.enter f a) w)(j:Ac w v s)(b:s.size<=1000000)
 (d:∀(c) g,Calls (Qs fs) f (#[.int .u8 c.toNat]++#[]) g λe w'=>e=.returned (.bool (p c))/\w'=g):
 Calls (Qs fs) 120 #[v,.func (.func f) #[] #[]] w λe w'=>e=.returned (.bool (s.data.toList.any p))/\w'=w:=by
 have PK:=PK L;have h:=Cl L f p v s w i j b d;clear d;go_enter (n120 L),Tryz.ntmps120;go_wp2_with (first|(go_at_call 143;refine h.mono ?_;clear h;rintro e w2 ⟨⟨z,rfl,b⟩,rfl⟩;have k:Hid _:=b;clear b))
 go_ret;exact⟨by rw[<-k.out];rfl,rfl⟩
def ET(c:UInt8)(w:World):Calls (Qs fs) 121 #[.int .u8 c.toNat] w λe w'=>e=.returned (.bool (!aX c))/\w'=w:=by
 have e91:=e91 L;have a:=eY fs (n91 L) (c.toNat:Int) w;have d:Hid (aX c=(decide (97<=(c.toNat:Int))&&decide ((c.toNat:Int)<=122))):=rfl;rw[<-d]at a;obtain⟨b,f⟩:=ex (aX c);rw[<-f]at a⊢;clear f d;go_enter (n121 L),Tryz.ntmps121;go_wp2_with (first|(go_at_call 91;refine a.mono ?_;clear a;rintro e w2 ⟨rfl,rfl⟩))
 go_ret;exact⟨rfl,rfl⟩
def J7(c:UInt8)(w:World):Calls (Qs fs) 136 #[.int .u8 c.toNat] w λe w'=>e=.returned (.bool (!(aX c||nw c)))/\w'=w:=by
 have e91:=e91 L;have a:=eY fs (n91 L) (c.toNat:Int) w;have f:aX c=(decide (97<=(c.toNat:Int))&&decide ((c.toNat:Int)<=122)):=rfl;rw[<-f]at a;have g:nw c=(decide (48<=(c.toNat:Int))&&decide ((c.toNat:Int)<=57)):=rfl;cases d:aX c with
 |true=>
  rw[d]at a;clear d f g;go_enter (n136 L),Tryz.ntmps136;go_wp2_with (first|(go_at_call 91;refine a.mono ?_;clear a;rintro e w2 ⟨rfl,rfl⟩))
  go_ret;exact⟨rfl,rfl⟩
 |false=>
  rw[d]at a;have h:Hid _:=g;clear d f g;by_cases i:(c.toNat:Int)<48
  ·have b:Hid (nw c=false):=by rw[Hid,h.out];simp;omega
   go_enter (n136 L),Tryz.ntmps136;go_wp2_with (first|(go_at_call 91;refine a.mono ?_;clear a;rintro e w2 ⟨rfl,rfl⟩))
   go_ret;exact⟨by rw[b.out];rfl,rfl⟩
  ·have j:decide ((c.toNat:Int)<48)=false:=Rz i
   by_cases k:(57:Int)<(c.toNat:Int)
   ·have b:Hid (nw c=false):=by rw[Hid,h.out];simp;omega
    go_enter (n136 L),Tryz.ntmps136;go_wp2_with (first|(go_at_call 91;refine a.mono ?_;clear a;rintro e w2 ⟨rfl,rfl⟩))
    go_ret;exact⟨by rw[b.out];rfl,rfl⟩
   ·have l:decide ((57:Int)<(c.toNat:Int))=false:=Rz k
    have b:Hid (nw c=true):=by rw[Hid,h.out];simp;omega
    go_enter (n136 L),Tryz.ntmps136;go_wp2_with (first|(go_at_call 91;refine a.mono ?_;clear a;rintro e w2 ⟨rfl,rfl⟩))
    go_ret;exact⟨by rw[b.out];rfl,rfl⟩
def tH(l:List UInt8)(p):l.any (λc=> !p c)= !l.all p:=by
 induction l with
 |nil=>rfl
 |cons x l a=>rw[List.any_cons,Td,a,Bool.not_and]
def iJ(s:ByteArray)(d a:Int)(w:World)(o:a<=1000):Calls (Qs fs) 72 #[.string s,.int .i64 d,.int .i64 a] w λe w'=>e=.returned (.bool (bR s d a))/\Below w.heap.size w w':=by
 have Mm:=Mm L;have e63:=e63 L;have f:=cj fs (n63 L) (s.size:Int) d a w;have m:Hid (bR s d a=(au s.size d a&&s.data.toList.all aX)):=rfl;cases b:au s.size d a with
 |false=>
  have i:Hid (bR s d a=false):=by rw[Hid,m.out,b];rfl
  unfold au at b;rw[b]at f;clear b;go_enter (n72 L),Tryz.ntmps72;go_wp2_with (first|(go_at_call 63;refine f.mono ?_;clear f;rintro e w2 ⟨rfl,rfl⟩))
  go_ret;exact⟨by rw[i.out];rfl,Below.refl _ _⟩
 |true=>
  have i:Hid (bR s d a=s.data.toList.all aX):=by rw[Hid,m.out,b];rfl
  unfold au at b;rw[b]at f;have k:s.size<=1000000:=by rw[RD,RJ,RJ]at b;omega
  clear b;obtain⟨v,w1,p,g,h⟩:=yL fs s w;have l:Hid _:=h;have j:=nH L 121 (λc=> !aX c) v s w1 (QX L) g k (λc q=>ET L c q);rw[tH]at j;obtain⟨z,n⟩:=ex (s.data.toList.all aX);rw[<-n]at j i;clear n g h;go_enter (n72 L),Tryz.ntmps72;go_wp2_with (first|(go_at_call 63;refine f.mono ?_;clear f;rintro e w2 ⟨rfl,rfl⟩)|(go_at_call 120;refine j.mono ?_;clear j;rintro e w3 ⟨rfl,rfl⟩))
  go_ret;exact⟨by rw[i.out];simp,l.out⟩
def Gz(s:ByteArray)(w:World):Calls (Qs fs) 102 #[.string s] w λe w'=>e=.returned (.bool (gS s))/\Below w.heap.size w w':=by
 have Mm:=Mm L;have e63:=e63 L;have e91:=e91 L;have g:=cj fs (n63 L) (s.size:Int) 1 10 w;have r:Hid (gS s=(au s.size 1 10&&(s.data.toList.head?.any aX)&&s.data.toList.all λc=>aX c||nw c)):=rfl;cases b:au s.size 1 10 with
 |false=>
  have d:Hid (gS s=false):=by rw[Hid,r.out,b];rfl
  unfold au at b;rw[b]at g;clear b;go_enter (n102 L),Tryz.ntmps102;go_wp2_with (first|(go_at_call 63;refine g.mono ?_;clear g;rintro e w2 ⟨rfl,rfl⟩))
  go_ret;exact⟨by rw[d.out];rfl,Below.refl _ _⟩
 |true=>
  have d:(gS s=((s.data.toList.head?.any aX)&&s.data.toList.all λc=>aX c||nw c)):=by rw[r.out,b];rfl
  unfold au at b;rw[b]at g;have m:1<=s.size/\s.size<=1000000:=by rw[RD,RJ,RJ]at b;omega
  clear b;have n:0<s.size:=by omega
  obtain⟨x,o⟩:=ex (s[0]'n);have a:s.data.toList.head?.any aX=aX x:=by have u:=Lib.data_getElem? s 0 n;rw[List.head?_eq_getElem?,u,o];rfl
  rw[a]at d;have h:=λp=>eY fs (n91 L) (x.toNat:Int) p;have i:aX x=(decide (97<=(x.toNat:Int))&&decide ((x.toNat:Int)<=122)):=rfl;rw[<-i]at h;have y:s[0]'n=x:=o.symm;clear i a o;cases f:aX x with
  |false=>
   rw[f]at h d;have HV:Hid _:=d;clear d f;go_enter (n102 L),Tryz.ntmps102;go_wp2_with (first|(go_at_call 63;refine g.mono ?_;clear g;rintro e w2 ⟨rfl,rfl⟩)|(go_at_call 91;refine(h _).mono ?_;clear h;rintro e w3 ⟨rfl,rfl⟩))
   go_ret;exact⟨by rw[HV.out];rfl,Below.refl _ _⟩
  |true=>
   rw[f]at h d;have HV:Hid _:=d;clear d f;obtain⟨v,w1,A,j,k⟩:=yL fs s w;have q:Hid _:=k;have l:=nH L 136 (λc=> !(aX c||nw c)) v s w1 (QY L) j m.2 (λc p=>J7 L c p);rw[tH _ (λc=>aX c||nw c)]at l;obtain⟨z,t⟩:=ex (s.data.toList.all (λc=>aX c||nw c));rw[<-t]at l HV;clear t j k;go_enter (n102 L),Tryz.ntmps102;go_wp2_with (first|(go_at_call 63;refine g.mono ?_;clear g;rintro e w2 ⟨rfl,rfl⟩)|(go_at_call 91;refine(h _).mono ?_;clear h;rintro e w3 ⟨rfl,rfl⟩)|(go_at_call 120;refine l.mono ?_;clear l;rintro e w3 ⟨rfl,rfl⟩))
   go_ret;exact⟨by rw[HV.out];simp,q.out⟩
end Go.Proofs

import Derived.Shelf.Strings.IndexAnyAll
import Derived.Laws.RangeAny
import Derived.Laws.Runes
import Derived.Lib.OthersKept
import Derived.Laws.IdiomStrings
import Derived.MapKept
import Derived.WideKeyEntry
import Derived.DeepKeys4
import Derived.Maps.RangeRun
import Derived.Test.YtaglpcmhopjebaaGreatDoorS17
set_option linter.all false
set_option maxRecDepth 100000
set_option maxHeartbeats 20000000
namespace Go.Proofs
open Go.Shelf Go.Tm Go.RowKit
variable {fs:Array Func} (L:bM fs)
def OU:((Tryz.prog.info? 240).bind (·.zero))=some (.agg (Array.replicate 256 (.bool false))):=by kernel_rfl
def OV:(Tryz.prog.info? 240).map (·.size)=some 256:=by kernel_rfl
def DC(fs w):(zeroValue 240).run (Qs fs) w=.ok (.agg (Array.replicate 256 (.bool false))) w:=by rw[jr];have h:=OU;cases a:Tryz.prog.info? 240 with|none=>rw[a]at h;cases h|some i=>rw[a]at h;simp only[Vn]at h;simp[zeroValue,typeInfo,a,h]
def DI(s:ByteArray)(c:Int)(w:World):ap fs 193 #[.string s,.int .u8 c] w (.int .i64 (Lib.indexByte s.data.toList c.toNat.toUInt8)):=Any.strings_IndexByte {(jP L).1 with} s c w
def vu(s a:ByteArray)(w:World)(d:2<=a.size)(g:8<s.size)(h:s.size<4294967281)(f:a.size<4294967281)(c:∀(j:Nat) b,a.data.toList[j]? =some b->b.toNat<128):ac fs 165 #[.string s,.string a] w (.int .i64 (Lib.indexAny s.data.toList a.data.toList)):=
 (Any.strings_IndexAny_long {(jP L).1 with} (DC fs) OV s a w d g h f c).mono λe w' ⟨i,d⟩=>⟨i,by rw[d];exact((Below.refl _ _).alloc (Tw _) _).alloc (by simp) _⟩
def xa(w s pos):Below w.heap.size w (w.iter s pos):=(Below.refl _ _).alloc (Tw _) _
def indexByte_none(l c)(h:∀b∈l,b≠c):Lib.indexByte l c= -1:=by (have a:=Lib.contains_iff_indexByte l c;have d:l.contains c=false:=by cases e:l.contains c with|false=>rfl|true=>exact absurd rfl (h c (by simpa using e)));rw[d]at a;have f:=Wk a.symm;have g:=Lib.indexByte_ge l c;omega
def DJ(s:ByteArray)(k){b}(h:b∈(s.extract k s.size).data.toList):b∈s.data.toList:=by (have e:(s.extract k s.size).data=s.data.extract k s.size:=by simp);rw[e,Array.toList_extract]at h;exact List.mem_of_mem_drop (List.mem_of_mem_take h)
def DK(r:Int)(w:World):ap fs 194 #[.int .i32 r] w (.bool (Utf8.valid r)):=by
 by_cases c:0<=r
 .by_cases b:r<55296
  ·(have a:Hid (Utf8.valid r=true):=by unfold Hid Utf8.valid;simp;omega);go_enter (n194 L),Tryz.ntmps194;go_wp2;go_ret;exact⟨by rw[a.out];rfl,rfl⟩
  have d:decide (r<55296)=false:=Tz b;by_cases f:57343<r
  .by_cases g:r<=1114111
   ·(have a:Hid (Utf8.valid r=true):=by unfold Hid Utf8.valid;simp;omega);go_enter (n194 L),Tryz.ntmps194;go_wp2;go_ret;exact⟨by rw[a.out];rfl,rfl⟩
   (have a:Hid (Utf8.valid r=false):=by unfold Hid Utf8.valid;simp;omega);go_enter (n194 L),Tryz.ntmps194;go_wp2;go_ret;exact⟨by rw[a.out];rfl,rfl⟩
  have a:Hid (Utf8.valid r=false):=by unfold Hid Utf8.valid;simp;omega
  go_enter (n194 L),Tryz.ntmps194;go_wp2;go_ret;exact⟨by rw[a.out];rfl,rfl⟩
 have a:Hid (Utf8.valid r=false):=by unfold Hid Utf8.valid;simp;omega
 go_enter (n194 L),Tryz.ntmps194;go_wp2;go_ret;exact⟨by rw[a.out];rfl,rfl⟩
def tJ(s:ByteArray)(r:Int)(w:World)(C:∀(j:Nat) b,s.data.toList[j]? =some b->b.toNat<128)(hz:s.size<=1000)(H:128<=r)(h2:r<=2147483647):ac fs 175 #[.string s,.int .i32 r] w (.int .i64 (-1)):=by
 have RG:=RG L;have RH:=RH L;have c:=DK L r w;have HS:Hid _:=C;clear C;have I:decide (r<128)=false:=Tz (by omega);by_cases D:r=65533
 .subst D;clear c;go_enter (n175 L),Tryz.ntmps175;go_wp2
  go_loopg [5,6] s.size (λg _ _ wx=>∃i:Nat,i+g=s.size/\wx=w.iter s i)
  case atStart=>exact⟨0,by omega,rfl⟩
  case round=>
   obtain⟨i,J,rfl⟩:=hrel;cases gk with
   |zero=>(obtain rfl:i=s.size:=by omega);have l:=λty=>run_next_end (P:=Qs fs) w s s.size ty (by omega);go_wp2;go_ret;exact⟨rfl,xa w s _⟩
   |succ g=>(have n:i<s.size:=by omega);(obtain⟨x,a⟩:∃x:UInt8,s[i]'n=x:=⟨_,rfl⟩);(have d:x.toNat<128:=HS.out i x (by rw[<-a];exact Lib.data_getElem? s i n);have l:=λty=>run_next_ascii (P:=Qs fs) w s i ty n (by rw[a];exact d);rw[a]at l;have K:((x.toNat:Int)==65533)=false:=by rw[TX];omega);clear a;go_wp2;(go_roundg g);(case measure=>omega);case rel=>exact⟨i+1,by omega,rfl⟩
 have M:(r==65533)=false:=by rw[TX];exact D
 cases m:Utf8.valid r with
 |false=>rw[m]at c;clear m;go_enter (n175 L),Tryz.ntmps175;go_wp2_with (go_at_call 194;refine c.mono ?_;clear c;rintro e w2 ⟨rfl,rfl⟩);go_ret;exact⟨rfl,Below.refl _ _⟩
 |true=>
  obtain⟨N,O,o⟩:=encode_facts r m H;have p:=λw=>run_convert_int_string (P:=Qs fs) w 21 9 .i32 r (by rw[aK];rfl) (by rw[aK];exact Tryz.underlying9);obtain⟨t,q⟩:=ex (Utf8.encode r);rw[<-q]at N O p;simp only[<-q]at o;obtain⟨k,E⟩:∃k,t.size=k+1:=⟨t.size-1,by omega⟩
  have f:k<t.size:=by omega
  have Q:128<=(t[k]'f).toNat:=by have:=o (by omega);simpa[E]using this
  clear o q;rw[m]at c;clear m;have R:IntKind.i64.wrap ((t.size:Int)-1)=k:=by rw[E];exact(wrap_i64 _ (by omega)).trans (by omega)
  go_enter (n175 L),Tryz.ntmps175;go_wp2_with (go_at_call 194;refine c.mono ?_;clear c;rintro e w2 ⟨rfl,rfl⟩)
  go_step3
  go_wp2;have v:=λu wx=>DI L u ((t[k]'f).toNat:Int) wx;go_loopw [9] (λz wr=>z=.int .i64 k/\wr=w2) (λ_ _=>0);case atStart=>exact⟨rfl,rfl⟩
  case round=>
   obtain⟨rfl,rfl⟩:=hrel;obtain hks|hks:=Ty k s.size
   .obtain⟨x,a⟩:=ex (s[k]'hks);(obtain⟨y,A⟩:=ex (t[k]'f);have S:x.toNat<128:=HS.out k x (by rw[a];exact Lib.data_getElem? s k hks);rw[<-A]at Q v;have T:((x.toNat:Int)!=(y.toNat:Int))=true:=by rw[UN];omega);(have F:(k:Int)<(s.size:Int):=by omega);(have G:(k:Int)<(t.size:Int):=by omega);(have U:IntKind.i64.wrap ((k:Int)+1)=(k:Int)+1:=wrap_i64 _ (by omega);have V:(k:Int)+1<=(s.size:Int):=by omega);(have W:(0:Int)<=(k:Int)+1:=by omega);(have X:s[k]=x:=a.symm;have Y:t[k]=y:=A.symm;have B:∀wx,ap fs 193 #[.string (s.extract (k+1) s.size),.int .u8 y.toNat] wx (.int .i64 (-1)):=λwx=>by have h:=v (s.extract (k+1) s.size) wx;rw[show((y.toNat:Int)).toNat.toUInt8=y by simp,indexByte_none _ y (λb Z e=>by subst e;obtain⟨j,hj⟩:=UI.1 (DJ s (k+1) Z);have:=HS.out j b hj;omega)]at h;exact h);clear a A v;go_wp2
    (go_step3);go_wp2;go_quiet (fail);go_wp2;go_quiet ((go_at_call 193;exact(B _).mono λe w' h=>⟨h.1,_,h.2⟩));go_wp2;simp(config:={zetaDelta:=true}) only [Exit.noGoto_ret,Exit.inBlock,Exit.then];go_ret;exact⟨rfl,(Below.refl _ _).fv _⟩
   go_wp2;rw[Exit.noGoto_ret];go_ret;exact⟨rfl,Below.refl _ _⟩
def rV(s:ByteArray)(r:Int)(w:World)(a:0<=r)(b:r<128):ap fs 175 #[.string s,.int .i32 r] w (.int .i64 (Lib.indexByte s.data.toList r.toNat.toUInt8)):=Any.strings_IndexRune_ascii {(jP L).1 with} s r w a b
def pQ(L:bM fs)(n w):ap fs 176 #[.int .i64 n] w (.bool (decide (8<n))):=Any.strings_shouldUseASCIISet {(jP L).1 with} n w
def kg{w w' B k pos s}(h:Below B w w')(b:B<=k):Below B w (w'.iterAt k s pos):=
 ⟨h.os,h.tape,h.output,by simp[World.iterAt,h.size],λi a=>by
  have:k≠i:=by omega
  simp[World.iterAt,TJ this,h.block i a]⟩
def Br(s pos)(h:pos<s.size)(d:128<=(s[pos]'h).toNat):pos+(Utf8.decode s pos).2<=s.size/\∀j,j<(Utf8.decode s pos).2->128<=(s.get! (pos+j)).toNat:=by (have c:128<=(s.get! (pos+0)).toNat:=by rw[get_at s pos h];exact d);(have e:¬(s.get! (pos+0)).toNat<128:=by omega);(have one:∀j,j<1->128<=(s.get! (pos+j)).toNat:=λj a=>by (obtain rfl:j=0:=by omega);exact c);simp only[Utf8.decode,e,TP];split;rename_i b;simp only[TH,Uk,TQ]at b;split;refine⟨by omega,λj a=>?_⟩;(match j,a with|0,_=>exact c|1,_=>omega);exact⟨by omega,one⟩;split;rename_i b;simp only[TH,Uk,TQ]at b;split;refine⟨by omega,λj a=>?_⟩;(match j,a with|0,_=>exact c|1,_=>omega|2,_=>omega);exact⟨by omega,one⟩;split;rename_i b;simp only[TH,Uk,TQ]at b;split;refine⟨by omega,λj a=>?_⟩;(match j,a with|0,_=>exact c|1,_=>omega|2,_=>omega|3,_=>omega);exact⟨by omega,one⟩;exact⟨by omega,one⟩
def Gi{s a i n}(h:Lib.NoAny s a i)(f:∀c∈a,c.toNat<128)(g:∀j b,j<n->s[i+j]? =some b->128<=b.toNat):Lib.NoAny s a (i+n):=by intro j b k e;obtain h1|h1:=Ty j i;exact h j b h1 e;have:=g (j-i) b (by omega) (by rw[show i+(j-i)=j by omega];exact e);cases d:a.contains b with|false=>rfl|true=>have:=f b (by simpa using d);omega
def tK(s a:ByteArray)(w:World)(h2:2<=a.size)(h8:s.size<=8)(B:a.size<=1000)(V:∀(j:Nat) b,a.data.toList[j]? =some b->b.toNat<128):ac fs 165 #[.string s,.string a] w (.int .i64 (Lib.indexAny s.data.toList a.data.toList)):=by
 have RA:=RA L;have RB:=RB L;have W:a.toList.isEmpty=false:=by rw[Lib.toList_data];cases h:a.data.toList with|nil=>have:=Lib.size_eq a;rw[h,TN]at this;omega|cons _ _=>rfl
 have aa:((a.size:Int)==1)=false:=TX.2 (by omega);have R:=pQ L (s.size:Int) w;rw[Tz (by omega)]at R;have HS:Hid _:=V;clear V;go_enter (n165 L),Tryz.ntmps165;go_wp2_with (go_at_call 176;refine R.mono ?_;clear R;rintro e w2 ⟨rfl,rfl⟩);obtain⟨N,Q⟩:=ex (w2.heap.size);have S:Hid ((w2.iter s 0).heap[N]? =some (.stringIter s 0)):=by rw[Q];exact World.iter_heap w2 s 0
 rw[<-Q];have p:Hid _:=Q;clear Q
 go_loopg [9,10] s.size (λg _ _ G=>∃i:Nat,s.size<=i+g/\i<=s.size/\G.heap[N]? =some (.stringIter s i)/\Lib.NoAny s.data.toList a.data.toList i/\Below N w2 G)
 case atStart=>exact⟨0,by omega,TE _,S.out,Lib.NoAny.zero _ _,by rw[p.out];exact xa w2 s 0⟩
 case round=>
  obtain⟨i,ab,ad,f,J,A⟩:=hrel;have K:Hid _:=J;have H:Hid _:=A;have M:N<wr.heap.size:=(TC.1 f).1;clear J A;cases gk with
  |zero=>(obtain rfl:i=s.size:=by omega);have m:=λty=>Lib.run_next_end_at (P:=Qs fs) wr N s s.size ty f (by omega);go_wp2;go_ret;exact⟨by rw[Lib.indexAny_none (by rw[<-Lib.size_eq];exact K.out)];rfl,by have:=H.out;rwa[p.out]at this⟩
  |succ g=>
   (have v:i<s.size\/i=s.size:=by omega);obtain v|rfl:=v
   ·(obtain⟨x,I⟩:∃x:UInt8,s[i]'v=x:=⟨_,rfl⟩);(have C:s.data.toList[i]? =some x:=by rw[<-I];exact Lib.data_getElem? s i v);have X:Hid _:=C;by_cases D:x.toNat<128
    .have m:=λty=>Lib.run_next_ascii_at (P:=Qs fs) wr N s i ty f v (by rw[I];exact D)
     rw[I]at m;have d:=Lib.contains_iff_indexByte a.data.toList x;have u:=λG=>rV L a (x.toNat:Int) G (by omega) (by omega);rw[show((x.toNat:Int)).toNat.toUInt8=x by simp]at u;have l:=Lib.iterAt_heap wr N s i (i+1) f;have E:Hid _:=l;clear f l C I;cases o:a.data.toList.contains x with
     |false=>rw[o]at d;have y:¬((0:Int)<=Lib.indexByte a.data.toList x):=Wk d.symm;have F:Hid _:=o;clear d o;obtain⟨z,B⟩:=ex (Lib.indexByte a.data.toList x);rw[<-B]at y u;clear B;go_wp2_with (go_at_call 175;refine(u _).mono ?_;clear u;rintro e w3 ⟨rfl,rfl⟩);(go_roundg g);(case measure=>omega);case rel=>exact⟨i+1,by omega,by omega,E.out,Lib.NoAny.succ K.out X.out F.out,kg H.out (Tw _)⟩
     |true=>rw[o]at d;have q:(0:Int)<=Lib.indexByte a.data.toList x:=Ua d.symm;have F:Hid _:=o;clear d o;obtain⟨z,B⟩:=ex (Lib.indexByte a.data.toList x);rw[<-B]at q u;clear B;go_wp2_with (go_at_call 175;refine(u _).mono ?_;clear u;rintro e w3 ⟨rfl,rfl⟩);go_ret;exact⟨by rw[Lib.indexAny_hit K.out X.out F.out];rfl,by have:=kg (k:=N) (pos:=i+1) (s:=s) H.out (Tw _);rwa[show Below N w2=Below w2.heap.size w2 by rw[p.out]]at this⟩
    have q:128<=(s[i]'v).toNat:=by rw[I];omega
    have m:=λty=>Lib.run_next_any_at (P:=Qs fs) wr N s i ty f v;obtain⟨d1,d2⟩:=decode_high s i v q;obtain⟨d3,d4⟩:=Br s i v q;have d5:=decode_le s i;obtain⟨r,Y⟩:=ex ((Utf8.decode s i).1);obtain⟨n,Z⟩:=ex ((Utf8.decode s i).2);rw[<-Y]at m d1 d5;rw[<-Z]at m d2 d3 d4;have t:Lib.NoAny s.data.toList a.data.toList (i+n):=Gi K.out (λc hc=>by
     obtain⟨j,T⟩:=UI.1 hc;exact HS.out j c T) (λj b T hb=>by
      have:=d4 j T;have y:i+j<s.size:=by omega
      have e:=get_at s (i+j) y;rw[UB]at e;rw[e]at this;rw[Lib.data_getElem? s (i+j) y]at hb;cases hb;exact this)
    have U:Hid _:=t;have u:=λG=>tJ L a (r:Int) G HS.out B (by omega) (by omega);have l:=Lib.iterAt_heap wr N s i (i+n) f;have E:Hid _:=l;clear f l C I q Y Z d4 t;go_wp2_with (go_at_call 175;refine(u _).mono ?_;clear u;rintro e w3 ⟨rfl,O⟩)
    (go_roundg g);(case measure=>omega);case rel=>exact⟨i+n,by omega,by omega,(O.block N (by simpa[World.iterAt]using M)).trans E.out,U.out,(kg H.out (Tw _)).trans (O.mono (by have:=(kg (k:=N) (pos:=i+n) (s:=s) H.out (Tw _)).size;have:=p.out;omega))⟩
   have m:=λty=>Lib.run_next_end_at (P:=Qs fs) wr N s s.size ty f (by omega);go_wp2;go_ret;exact⟨by rw[Lib.indexAny_none (by rw[<-Lib.size_eq];exact K.out)];rfl,by have:=H.out;rwa[p.out]at this⟩
end Go.Proofs
namespace Go.Proofs
open Go.Tm Go.RowKit
variable {fs:Array Func} (L:bM fs)
def cs4:ByteArray:=⟨#[10,58,59,44]⟩
def zS:∀(j:Nat) b,cs4.data.toList[j]? =some b->b.toNat<128:=by intro j b h;have a:b∈cs4.data.toList:=UC h;have:cs4.data.toList=[10,58,59,44]:=rfl;rw[this]at a;simp only[TZ,Ue,Uf]at a;rcases a with rfl|rfl|rfl|rfl<;>decide
def BD(l):decide (0<=Lib.indexAny l cs4.data.toList)=l.any ju:=by induction l with|nil=>rfl|cons b l a=>(have c:cs4.data.toList.contains b=ju b:=by have:cs4.data.toList=[10,58,59,44]:=rfl;rw[this];unfold ju;simp only[List.contains_cons,List.contains_nil,Bool.or_false,WN]);rw[Lib.indexAny,c,List.any_cons,<-a];have:=Lib.indexAny_ge cs4.data.toList l;cases ju b with|true=>simp|false=>simp only[TS,TP,VR];by_cases h:Lib.indexAny l cs4.data.toList= -1;rw[h];rfl;rw[Tu (by simpa using h)];rw[TD (by omega),TD (by omega)]
def Gj(s:ByteArray)(w:World)(a:s.size<4294967281):ac fs 165 #[.string s,.string cs4] w (.int .i64 (Lib.indexAny s.data.toList cs4.data.toList)):=by obtain h|h:=Ty 8 s.size;exact vu L s cs4 w (by decide) h a (by decide) zS;exact tK L s cs4 w (by decide) h (by decide) zS
def yU(s:ByteArray)(w:World)(d:s.size<4294967281):Calls (Qs fs) 135 #[.string s,.string cs4] w λe w'=>e=.returned (.bool (s.data.toList.any ju))/\Below w.heap.size w w':=by have Rx:=Rx L;have c:=Gj L s w d;have a:Hid _:=BD s.data.toList;obtain⟨z,b⟩:=ex (Lib.indexAny s.data.toList cs4.data.toList);rw[<-b]at c a;clear b;obtain⟨ch,hch⟩:=ex cs4;rw[<-hch]at c⊢;clear hch;go_enter (n135 L),Tryz.ntmps135;go_wp2_with (go_at_call 165;refine c.mono ?_;clear c;rintro e w2 ⟨rfl,f⟩);go_ret;exact⟨by rw[<-a.out];rfl,f⟩
def xc(s:ByteArray)(a:Int)(w:World)(k:a<=1000):ac fs 99 #[.string s,.int .i64 a] w (.bool (bl s a)):=by
 have Rm:=Rm L;have e63:=e63 L;have c:=dC fs (n63 L) (s.size:Int) 1 a w;have i:Hid (bl s a=(au s.size 1 a&& !s.data.toList.any ju)):=rfl;cases b:au s.size 1 a with
 |false=>(have d:Hid (bl s a=false):=by rw[i.out,b];rfl);unfold au at b;rw[b]at c;clear b;go_enter (n99 L),Tryz.ntmps99;go_wp2_with (go_at_call 63;refine c.mono ?_;clear c;rintro e w2 ⟨rfl,rfl⟩);go_ret;exact⟨by rw[d.out];rfl,Below.refl _ _⟩
 |true=>(have d:Hid (bl s a= !s.data.toList.any ju):=by rw[i.out,b];rfl);(unfold au at b;rw[b]at c;have g:s.size<4294967281:=by rw[TH,TQ,TQ]at b;omega);clear b;have f:=yU L s w g;rw[show cs4=(⟨#[10,58,59,44]⟩:ByteArray)from rfl]at f;obtain⟨z,j⟩:=ex (s.data.toList.any ju);rw[<-j]at f d;clear j;go_enter (n99 L),Tryz.ntmps99;go_wp2_with (first|(go_at_call 63;refine c.mono ?_;clear c;rintro e w2 ⟨rfl,rfl⟩)|(go_at_call 135;refine f.mono ?_;clear f;rintro e w3 ⟨rfl,h⟩));go_ret;exact⟨by rw[d.out];rfl,h⟩
def BF(w:World)(v:Value)(s:ByteArray):Prop:=∃g cap,v=.slice (some ⟨g,0,none⟩) s.size cap/\s.size<=cap/\∀j (h:j<s.size),w.cell? ⟨g,j,none⟩=some (.int .u8 (s[j]'h).toNat)
def zT(fs s w):∃v w',(convert 9 120 (.string s)).run (Qs fs) w=.ok v w'/\BF w' v s/\Below w.heap.size w w':=by have h:=run_bytes_of_string (P:=Qs fs) w 9 120 5 s (by rw[aK];exact Tryz.underlying9) (by rw[aK];exact Tryz.underlying120) (by rw[aK];exact Tryz.underlying5);refine⟨_,_,h,⟨w.heap.size,_,rfl,grownCap_ge _ _ _ _,λj a=>?_⟩,((Below.refl _ _).drew.alloc (Tw _) _)⟩;exact cell_of_heap (w:=(w.drew.alloc _)) (b:=w.heap.size) Uc j _ (bytesRow_at s _ j a)
def DM(f p v s w)(H:∀a w,(callFunc f a).run (Qs fs) w=.ok (.enter f a) w)(C:BF w v s)(I:s.size<=1000000) (u:∀(c) wx,ap fs f (#[.int .u8 c.toNat]++#[]) wx (.bool (p c))):Calls (Qs fs) 143 #[v,.func (.func f) #[] #[]] w λe w'=>(∃z,e=.returned (.int .i64 z)/\decide (0<=z)=s.data.toList.any p)/\w'=w:=by
 obtain⟨g,cap,rfl,y,t⟩:=C;have D:Hid _:=t;have m:∀(c:UInt8) wx,ap fs f #[.int .u8 c.toNat] wx (.bool (p c)):=u;have E:Hid _:=m;clear t u m;go_enter (n143 L),Tryz.ntmps143;go_wp2;go_loopw [8] (λz wr=>∃j:Nat,j<=s.size/\z=.int .i64 j/\wr=w/\∀i (k:i<s.size),i<j->p s[i]=false) (λz _=>s.size-(intOf z).toNat);case atStart=>exact⟨0,TE _,rfl,rfl,λi k h=>by omega⟩
 case round=>
  obtain⟨j,J,rfl,rfl,n⟩:=hrel;have A:Hid _:=n;clear n;obtain d|hge:=Ty j s.size
  .have t:=D.out j d;(have o:=E.out (s[j]'d) wr;have F:(j:Int)<(s.size:Int):=by omega);obtain⟨x,q⟩:=ex (s[j]'d);rw[<-q]at t o;have B:Hid _:=q;clear q;cases b:p x with|true=>rw[b]at o;have l:Hid _:=b;clear b;go_wp2_with (go_at_fn f;refine o.mono ?_;rintro e w3 ⟨rfl,rfl⟩);go_ret;refine⟨⟨(j:Int),rfl,?_⟩,rfl⟩;rw[TD (by omega),U8,Uv];exact⟨x,by rw[B.out];exact UC (Lib.data_getElem? s j d),l.out⟩|false=>rw[b]at o;have l:Hid _:=b;clear b;go_wp2_with (go_at_fn f;refine o.mono ?_;rintro e w3 ⟨rfl,rfl⟩);refine⟨⟨j+1,by omega,by go_num,trivial,λi k G=>?_⟩,by simp[intOf];omega⟩;by_cases h:i<j;exact A.out i k h;(obtain rfl:i=j:=by omega);exact B.out▸l.out
  go_wp2;go_ret;refine⟨⟨-1,rfl,?_⟩,rfl⟩;rw[Tz (by decide),U8,Vh];intro x q;obtain⟨i,k⟩:=UI.1 q;have r:i<s.size:=by have:=(UO.1 k).1;rw[<-Lib.size_eq]at this;exact this
  rw[Lib.data_getElem? s i r]at k;cases k;rw[A.out i r (by omega)];exact VH
def oz(f p v s w)(i:∀a w,(callFunc f a).run (Qs fs) w=.ok (.enter f a) w)(j:BF w v s)(b:s.size<=1000000) (d:∀(c) g,ap fs f (#[.int .u8 c.toNat]++#[]) g (.bool (p c))):ap fs 120 #[v,.func (.func f) #[] #[]] w (.bool (s.data.toList.any p)):=by have Ru:=Ru L;have h:=DM L f p v s w i j b d;clear d;go_enter (n120 L),Tryz.ntmps120;go_wp2_with (go_at_call 143;refine h.mono ?_;clear h;rintro e w2 ⟨⟨z,rfl,b⟩,rfl⟩;have k:Hid _:=b;clear b);go_ret;exact⟨by rw[<-k.out];rfl,rfl⟩
def Gk(c:UInt8)(w:World):Calls (Qs fs) 121 #[.int .u8 c.toNat] w λe w'=>e=.returned (.bool (!bd c))/\w'=w:=by have e91:=e91 L;have a:=mX fs (n91 L) (c.toNat:Int) w;have d:Hid (bd c=(decide (97<=(c.toNat:Int))&&decide ((c.toNat:Int)<=122))):=rfl;rw[<-d]at a;obtain⟨b,f⟩:=ex (bd c);rw[<-f]at a⊢;clear f d;go_enter (n121 L),Tryz.ntmps121;go_wp2_with (go_at_call 91;refine a.mono ?_;clear a;rintro e w2 ⟨rfl,rfl⟩);go_ret;exact⟨rfl,rfl⟩
def Mf(c:UInt8)(w:World):ap fs 136 #[.int .u8 c.toNat] w (.bool (!(bd c||js c))):=by
 have e91:=e91 L;have a:=mX fs (n91 L) (c.toNat:Int) w;have f:bd c=(decide (97<=(c.toNat:Int))&&decide ((c.toNat:Int)<=122)):=rfl;rw[<-f]at a;have g:js c=(decide (48<=(c.toNat:Int))&&decide ((c.toNat:Int)<=57)):=rfl;cases d:bd c with
 |true=>rw[d]at a;clear d f g;go_enter (n136 L),Tryz.ntmps136;go_wp2_with (go_at_call 91;refine a.mono ?_;clear a;rintro e w2 ⟨rfl,rfl⟩);go_ret;exact⟨rfl,rfl⟩
 |false=>
  rw[d]at a;have h:Hid _:=g;clear d f g;by_cases i:(c.toNat:Int)<48
  ·(have b:Hid (js c=false):=by rw[Hid,h.out];simp;omega);go_enter (n136 L),Tryz.ntmps136;go_wp2_with (go_at_call 91;refine a.mono ?_;clear a;rintro e w2 ⟨rfl,rfl⟩);go_ret;exact⟨by rw[b.out];rfl,rfl⟩
  have j:decide ((c.toNat:Int)<48)=false:=Tz i;by_cases k:(57:Int)<(c.toNat:Int)
  ·(have b:Hid (js c=false):=by rw[Hid,h.out];simp;omega);go_enter (n136 L),Tryz.ntmps136;go_wp2_with (go_at_call 91;refine a.mono ?_;clear a;rintro e w2 ⟨rfl,rfl⟩);go_ret;exact⟨by rw[b.out];rfl,rfl⟩
  have l:decide ((57:Int)<(c.toNat:Int))=false:=Tz k;have b:Hid (js c=true):=by rw[Hid,h.out];simp;omega
  go_enter (n136 L),Tryz.ntmps136;go_wp2_with (go_at_call 91;refine a.mono ?_;clear a;rintro e w2 ⟨rfl,rfl⟩);go_ret;exact⟨by rw[b.out];rfl,rfl⟩
def uC(l:List UInt8)(p):l.any (λc=> !p c)= !l.all p:=by induction l with|nil=>rfl|cons x l a=>rw[List.any_cons,VA,a,Bool.not_and]
def kx(s:ByteArray)(d a:Int)(w:World)(o:a<=1000):ac fs 72 #[.string s,.int .i64 d,.int .i64 a] w (.bool (aZ s d a)):=by
 have Oz:=Oz L;have e63:=e63 L;have f:=dC fs (n63 L) (s.size:Int) d a w;have m:Hid (aZ s d a=(au s.size d a&&s.data.toList.all bd)):=rfl;cases b:au s.size d a with
 |false=>(have i:Hid (aZ s d a=false):=by rw[Hid,m.out,b];rfl);unfold au at b;rw[b]at f;clear b;go_enter (n72 L),Tryz.ntmps72;go_wp2_with (go_at_call 63;refine f.mono ?_;clear f;rintro e w2 ⟨rfl,rfl⟩);go_ret;exact⟨by rw[i.out];rfl,Below.refl _ _⟩
 |true=>(have i:Hid (aZ s d a=s.data.toList.all bd):=by rw[Hid,m.out,b];rfl);(unfold au at b;rw[b]at f;have k:s.size<=1000000:=by rw[TH,TQ,TQ]at b;omega);clear b;obtain⟨v,w1,p,g,h⟩:=zT fs s w;have l:Hid _:=h;have j:=oz L 121 (λc=> !bd c) v s w1 (SZ L) g k (λc q=>Gk L c q);rw[uC]at j;obtain⟨z,n⟩:=ex (s.data.toList.all bd);rw[<-n]at j i;clear n g h;go_enter (n72 L),Tryz.ntmps72;go_wp2_with (first|(go_at_call 63;refine f.mono ?_;clear f;rintro e w2 ⟨rfl,rfl⟩)|(go_at_call 120;refine j.mono ?_;clear j;rintro e w3 ⟨rfl,rfl⟩));go_ret;exact⟨by rw[i.out];simp,l.out⟩
def IM(s:ByteArray)(w:World):ac fs 102 #[.string s] w (.bool (dG s)):=by
 have Oz:=Oz L;have e63:=e63 L;have e91:=e91 L;have g:=dC fs (n63 L) (s.size:Int) 1 10 w;have r:Hid (dG s=(au s.size 1 10&&(s.data.toList.head?.any bd)&&s.data.toList.all λc=>bd c||js c)):=rfl;cases b:au s.size 1 10 with
 |false=>(have d:Hid (dG s=false):=by rw[Hid,r.out,b];rfl);unfold au at b;rw[b]at g;clear b;go_enter (n102 L),Tryz.ntmps102;go_wp2_with (go_at_call 63;refine g.mono ?_;clear g;rintro e w2 ⟨rfl,rfl⟩);go_ret;exact⟨by rw[d.out];rfl,Below.refl _ _⟩
 |true=>(have d:(dG s=((s.data.toList.head?.any bd)&&s.data.toList.all λc=>bd c||js c)):=by rw[r.out,b];rfl);(unfold au at b;rw[b]at g;have m:1<=s.size/\s.size<=1000000:=by rw[TH,TQ,TQ]at b;omega);(clear b;have n:0<s.size:=by omega);(obtain⟨x,o⟩:=ex (s[0]'n);have a:s.data.toList.head?.any bd=bd x:=by have u:=Lib.data_getElem? s 0 n;rw[List.head?_eq_getElem?,u,o];rfl);rw[a]at d;have h:=λp=>mX fs (n91 L) (x.toNat:Int) p;have i:bd x=(decide (97<=(x.toNat:Int))&&decide ((x.toNat:Int)<=122)):=rfl;rw[<-i]at h;have y:s[0]'n=x:=o.symm;clear i a o;cases f:bd x with|false=>rw[f]at h d;have HV:Hid _:=d;clear d f;go_enter (n102 L),Tryz.ntmps102;go_wp2_with (first|(go_at_call 63;refine g.mono ?_;clear g;rintro e w2 ⟨rfl,rfl⟩)|(go_at_call 91;refine(h _).mono ?_;clear h;rintro e w3 ⟨rfl,rfl⟩));go_ret;exact⟨by rw[HV.out];rfl,Below.refl _ _⟩|true=>rw[f]at h d;have HV:Hid _:=d;clear d f;obtain⟨v,w1,A,j,k⟩:=zT fs s w;have q:Hid _:=k;have l:=oz L 136 (λc=> !(bd c||js c)) v s w1 (S6 L) j m.2 (λc p=>Mf L c p);rw[uC _ (λc=>bd c||js c)]at l;obtain⟨z,t⟩:=ex (s.data.toList.all (λc=>bd c||js c));rw[<-t]at l HV;clear t j k;go_enter (n102 L),Tryz.ntmps102;go_wp2_with (first|(go_at_call 63;refine g.mono ?_;clear g;rintro e w2 ⟨rfl,rfl⟩)|(go_at_call 91;refine(h _).mono ?_;clear h;rintro e w3 ⟨rfl,rfl⟩)|(go_at_call 120;refine l.mono ?_;clear l;rintro e w3 ⟨rfl,rfl⟩));go_ret;exact⟨by rw[HV.out];simp,q.out⟩
def KF(i a y b)(h:aT a b+1=aT a (y::b)):bc i a (y::b)=((i:Int),0,codeOf y)::bc i a b:=by cases a with|nil=>rw[bc]|cons x a=>rw[bc,Tu (by omega),Tv h]
def Ia(i x)(a b:Bs)(d:∀y c,b=y::c->aT (x::a) c+1≠aT (x::a) b)(h:aT a b+1=aT (x::a) b):bc i (x::a) b=((i:Int),1,0)::bc (i+1) a b:=by cases b with|nil=>rw[bc]|cons y b=>rw[bc,Tu (by omega),Tu (d y b rfl),Tv h]
def Ib(a b)(c:aT a b≠0)(f:∀y d,b=y::d->aT a d+1≠aT a b)(g:∀x e,a=x::e->aT e b+1≠aT a b):a≠[]/\b≠[]:=by constructor;rintro rfl;(cases b with|nil=>exact c (eZ [])|cons y b=>exact f y b rfl (by rw[eZ,eZ];rfl));rintro rfl;cases a with|nil=>exact c (eZ [])|cons x a=>exact g x a rfl (by rw[gX,gX];rfl)
def Ic(i x y)(a b:Bs)(c:aT (x::a) (y::b)≠0)(d:aT (x::a) b+1≠aT (x::a) (y::b))(e:aT a (y::b)+1≠aT (x::a) (y::b)):bc i (x::a) (y::b)=if x=y then bc (i+1) a b else((i),2,codeOf y)::bc (i+1) a b:=by rw[bc,Tu c,Tu d,Tu e];by_cases h:x=y;rw[Tu (λg=>g h),Tv h];rw[Tv h,Tu h]
def qC(l:List Ed):List Value:=l.flatMap λe=>[.int .i64 e.1,.int .i64 e.2.1,.int .u8 e.2.2]
def Ie(l e):qC (l++[e])=qC l++[.int .i64 e.1,.int .i64 e.2.1,.int .u8 e.2.2]:=by unfold qC;rw[VM];rfl
def QL:((Tryz.prog).info? 96).map (λi=>(i.zero,i.size,i.bytes))=some (some (.agg #[.int .i64 0,.int .i64 0,.int .u8 0]),3,24):=by kernel_rfl
def Ny(fs):((Qs fs).info? 96).map (λi=>(i.zero,i.size,i.bytes))=some (some (.agg #[.int .i64 0,.int .i64 0,.int .u8 0]),3,24):=QL
def jx.keep{w wr w' a b q p}(h:jx w wr a b q p)(c:Below (w.heap.size+1) wr w'):jx w w' a b q p:=⟨h.row.of_block (c.block _ (by omega)),h.below.trans (c.mono (by omega))⟩
def nG{w:World}{B B' e k v n xs}(h:w.ownsRow B' e k v n xs)(i:B<=B'):w.ownsRow B e k v n xs:=by refine⟨h.1,?_⟩;obtain b|⟨g,cap,a,c,j,d,f⟩:=h.2;exact .inl b;exact .inr ⟨g,cap,a,c,by omega,d,f⟩
def mQ(a b:ByteArray):Int:=if 48<a.size\/48<b.size then 2 else if a.data.toList.all bd&&b.data.toList.all bd then 0 else 3
def jd(a b:ByteArray):List Ed:=if mQ a b=0 then jV a.data.toList b.data.toList else[]
def CH(s):aZ s 0 s.size=s.data.toList.all bd:=by unfold aZ au;simp
def I4(a b:ByteArray)(w:World)(b6:a.size<1000000)(b7:b.size<1000000):Calls (Qs fs) 29 #[.string a,.string b] w λe w'=>∃v,e=.returned (.tuple #[v,.int .i64 (mQ a b)])/\w'.ownsRow w.heap.size 96 3 v (jd a b).length (qC (jd a b))/\Below w.heap.size w w':=by
 have e72:=e72 L;have e73:=e73 L;by_cases W:48<a.size\/48<b.size
 .have hF:mQ a b=2:=Tv W;have hR:jd a b=[]:=by unfold jd;rw[hF];rfl
  have O:Hid (mQ a b=2/\jd a b=[]):=⟨hF,hR⟩
  clear hF hR;obtain h1|h1:=Ty 48 a.size
  ·(have g1:(48:Int)<(a.size:Int):=by omega);clear W h1;go_enter (n29 L),Tryz.ntmps29;go_wp2
   (go_ret2);exact⟨_,by rw[O.out.1];rfl,by rw[O.out.2];exact World.ownsRow_nil _ _ _ _,Below.refl _ _⟩
  have g1:decide ((48:Int)<(a.size:Int))=false:=Tz (by omega);have g2:(48:Int)<(b.size:Int):=by omega
  clear W h1;go_enter (n29 L),Tryz.ntmps29;go_wp2
  go_ret2
  exact⟨_,by rw[O.out.1];rfl,by rw[O.out.2];exact World.ownsRow_nil _ _ _ _,Below.refl _ _⟩
 have g1:decide ((48:Int)<(a.size:Int))=false:=Tz (by omega);have g2:decide ((48:Int)<(b.size:Int))=false:=Tz (by omega);have q1:=λwx=>kx L a 0 a.size wx (by omega);have q2:=λwx=>kx L b 0 b.size wx (by omega);rw[CH]at q1 q2;have HP:Hid (mQ a b=if a.data.toList.all bd&&b.data.toList.all bd then 0 else 3):=Tu W;have bb:a.size<=48:=by omega
 have bk:b.size<=48:=by omega
 clear W;cases E:a.data.toList.all bd with
 |false=>(rw[E]at q1;have O:Hid (mQ a b=3/\jd a b=[]):=by (have h:mQ a b=3:=by rw[HP.out,E];rfl);exact⟨h,by unfold jd;rw[h];rfl⟩);clear E;go_enter (n29 L),Tryz.ntmps29;go_wp2_with (go_at_call 72;refine(q1 _).mono ?_;clear q1;rintro e w2 ⟨rfl,F⟩);(go_ret2);exact⟨_,by rw[O.out.1];rfl,by rw[O.out.2];exact World.ownsRow_nil _ _ _ _,F⟩
 |true=>
  rw[E]at q1;cases M:b.data.toList.all bd with
  |false=>(rw[M]at q2;have O:Hid (mQ a b=3/\jd a b=[]):=by (have h:mQ a b=3:=by rw[HP.out,E,M];rfl);exact⟨h,by unfold jd;rw[h];rfl⟩);clear E M;go_enter (n29 L),Tryz.ntmps29;go_wp2_with (first|(go_at_call 72;refine(q1 _).mono ?_;clear q1;rintro e w2 ⟨rfl,F⟩)|(go_at_call 72;refine(q2 _).mono ?_;clear q2;rintro e w3 ⟨rfl,ad⟩));(go_ret2);exact⟨_,by rw[O.out.1];rfl,by rw[O.out.2];exact World.ownsRow_nil _ _ _ _,F.trans (ad.mono F.size)⟩
  |true=>
   (rw[M]at q2;have O:Hid (mQ a b=0/\jd a b=jV a.data.toList b.data.toList):=by (have h:mQ a b=0:=by rw[HP.out,E,M];rfl);exact⟨h,by unfold jd;rw[h];rfl⟩);(have ax:=λwx=>IH L a b wx bb bk;obtain⟨i0,hi,P,Q,R⟩:=info_parts (Ny fs);have hA:=Lib.size_eq a;have hB:=Lib.size_eq b;have ay:∀q (h:q<a.size),a.data.toList.drop q=a[q]::a.data.toList.drop (q+1):=λq h=>drop_cons a q h;have aM:∀q (h:q<b.size),b.data.toList.drop q=b[q]::b.data.toList.drop (q+1):=λq h=>drop_cons b q h;obtain⟨A,a1⟩:=ex (a.data.toList);obtain⟨B,af⟩:=ex (b.data.toList);rw[<-a1]at hA ay;rw[<-af]at hB aM;rw[<-a1,<-af]at ax O;have m:Hid (a.size=A.length/\b.size=B.length):=⟨hA,hB⟩);(have HG:Hid ((∀q (h:q<a.size),A.drop q=a[q]::A.drop (q+1))/\(∀q (h:q<b.size),B.drop q=b[q]::B.drop (q+1))):=⟨ay,aM⟩);(have f:Hid (A.length<=48/\B.length<=48):=⟨by omega,by omega⟩);(have HL:Hid ((jV A B).length<=48):=by rw[Hid,zl A B (by rw[af];exact M)];have:=uV A B;omega);clear hA hB a1 af ay aM E M HP;go_enter (n29 L),Tryz.ntmps29;go_wp2_with (first|(go_at_call 72;refine(q1 _).mono ?_;clear q1;rintro e w2 ⟨rfl,F⟩)|(go_at_call 72;refine(q2 _).mono ?_;clear q2;rintro e w3 ⟨rfl,ad⟩)|(go_at_call 73;refine(ax _).mono ?_;clear ax;rintro e w4 ⟨rfl,g⟩));have a6:Hid (Below w.heap.size w w3):=F.trans (ad.mono F.size);have br:Hid _:=g;clear F ad g;obtain⟨N,hN⟩:=ex (w3.heap.size);have HN:Hid _:=hN;rw[<-hN];clear hN;go_loopw [7,8,9] (λv s8 s9 wr=>∃(vF:Value) (i k:Nat) (K:List Ed),vF=v/\s8=.int .i64 i/\s9=.int .i64 k/\i<=A.length/\k<=B.length/\K++bc i (A.drop i) (B.drop k)=jV A B/\wr.ownsRow (w3.heap.size+1) 96 3 vF K.length (qC K)/\jx w3 wr A B 0 0) (λv s8 s9 _=>(A.length-(intOf s8).toNat)+(B.length-(intOf s9).toNat));case atStart=>exact⟨_,0,0,[],rfl,rfl,rfl,TE _,TE _,rfl,World.ownsRow_nil _ _ _ _,br.out⟩
   case round=>
    (obtain⟨vF,i,k,K,rfl,rfl,rfl,X,ag,p,l,g⟩:=hrel;have HT:Hid _:=p;have HO:Hid (wr.ownsRow (w3.heap.size+1) 96 3 vF K.length (qC K)/\jx w3 wr A B 0 0):=⟨l,g⟩);(have hd:=g.cell f.out.1 f.out.2 X ag (by omega);rw[<-HN.out]at hd;have b0:(i:Int)<49:=by have:=f.out;omega);(have b1:(k:Int)<49:=by have:=f.out;omega);have bs:aT (A.drop i) (B.drop k)<=2000:=Tx (nf _ _) (by rw[TM,TM];have:=f.out;omega);obtain⟨D,hD⟩:=ex (aT (A.drop i) (B.drop k));rw[<-hD]at hd bs;have HD:Hid _:=hD;by_cases ah:D=0
    .subst ah;clear p l g hD;go_wp2
     (go_ret2);(have he:K=jV A B:=by have:=HT.out;rw[ry _ _ HD.out.symm,KE,UH]at this;exact this);subst he;exact⟨_,by rw[O.out.1];rfl,by rw[O.out.2];exact nG HO.out.1 (by have:=a6.out.size;omega),a6.out.trans (HO.out.2.below.mono a6.out.size)⟩
    have bx:(0:Int)<(D:Int):=by omega
    have ao:=X;have S:=ag;have b2:w3.heap.size<wr.heap.size:=g.row.lt;have G:Hid (∀(W0:World),Below (w3.heap.size+1) wr W0->∀(o:Obj) (Y:Value) (U:World) (e:Ed) (i2 k2:Nat),i2<=A.length->k2<=B.length->bc i (A.drop i) (B.drop k)=e::bc i2 (A.drop i2) (B.drop k2)->U.ownsRow (w3.heap.size+1) 96 3 Y (K.length+1) (qC K++[.int .i64 e.1,.int .i64 e.2.1,.int .u8 e.2.2])->(W0.alloc o).grownBy U vF.ownBlock->
     ∃s:List Ed,s++bc i2 (A.drop i2) (B.drop k2)=jV A B/\U.ownsRow (w3.heap.size+1) 96 3 Y s.length (qC s)/\jx w3 U A B 0 0):=by
     intro W0 a7 o Y U e i2 k2 h1 h2 h3 h4 h5;refine⟨K++[e],?_,?_,?_⟩
     .rw[<-HT.out,h3,UG];rfl
     .rw[Ie,TR];exact h4
     .exact HO.out.2.keep ((a7.alloc (by have:=a7.size;omega) o).grown h5 (by have:=a7.size;simp;omega) (ey HO.out.1))
    (have H:Hid (K.length<=48):=by have h:=T7 List.length HT.out;rw[TR]at h;have:=HL.out;show K.length<=48;omega);by_cases T:k<b.size/\aT (A.drop i) (B.drop (k+1))+1=D
    .have I:=g.cell f.out.1 f.out.2 (r:=i) (k:=k+1) X (by have:=m.out;omega) (by omega);(rw[<-HN.out]at I;have hkb:(k:Int)<(b.size:Int):=by omega);(have b3:=T.1;have HE:Hid (bc i (A.drop i) (B.drop k)=((i:Int),0,codeOf b[k])::bc i (A.drop i) (B.drop (k+1))):=by rw[Hid,HG.out.2 k T.1];refine KF i _ _ _ ?_;rw[<-HG.out.2 k T.1,<-HD.out];exact T.2);(have bm:=T.2;obtain⟨d1,z⟩:=ex (aT (A.drop i) (B.drop (k+1)));rw[<-z]at I bm;have hq:((d1:Int)==(D:Int)-1)=true:=by rw[Uk];omega);(have Z:(k:Int)+1<49:=by have:=f.out;have:=m.out;omega);clear p g hD T z bm;go_wp2_with (at_builtin;refine wpList_append_own _ rfl _ _ 53 rfl (w3.heap.size+1) 96 i0 (.agg #[.int .i64 0,.int .i64 0,.int .u8 0]) 3 24 Tryz.underlying53 hi P Q R rfl (by decide) _ _ _ rfl (l.alloc _) ⟨_,0,none⟩ 1 1 [.int .i64 i,.int .i64 0,.int .u8 (b[k].toNat:Int)] rfl rfl ?c1 ?c2 ?c3 ?c4 ?c5 ?_);(case c1=>intro j u C;rw[fG,TF];exact aE wr _ 96 j u (by simpa using C));(case c2=>intro u C;simp at C;rcases C with rfl|rfl|rfl<;>rfl);(case c3=>have:=H.out;unfold maxLen;omega);(case c4=>have:=H.out;omega);(case c5=>simp;omega);intro Y U c d _;obtain⟨s,z1,z2,z3⟩:=G.out _ (Below.refl _ wr) _ Y U ((i:Int),0,codeOf b[k]) i (k+1) ao (by have:=m.out;omega) HE.out c d;clear G l c d;go_wp2;exact⟨⟨_,i,k+1,s,rfl,rfl,by go_num,ao,by have:=m.out;omega,z1,z2,z3⟩,by simp[intOf];have:=m.out;omega⟩
    by_cases n:i<a.size/\aT (A.drop (i+1)) (B.drop k)+1=D
    .have e10:=g.cell f.out.1 f.out.2 (r:=i+1) (k:=k) (by have:=m.out;omega) ag (by omega);(rw[<-HN.out]at e10;have a8:(i:Int)<(a.size:Int):=by omega);(have b4:=n.1;have HE:Hid (bc i (A.drop i) (B.drop k)=((i:Int),1,0)::bc (i+1) (A.drop (i+1)) (B.drop k)):=by rw[Hid,HG.out.1 i n.1];refine Ia i _ _ _ (λy b' hy he=>T ?_) ?_;(have hk:k<b.size:=by obtain h|h:=Ty k b.size;exact h;rw[T6 (by have:=m.out;omega)]at hy;cases hy);have ak:=hy;rw[HG.out.2 k hk]at ak;injection ak with _ ak;subst ak;rw[<-HG.out.1 i n.1,<-HD.out]at he;exact⟨hk,he⟩;rw[<-HG.out.1 i n.1,<-HD.out];exact n.2);(have aa:=n.2;obtain⟨d2,t⟩:=ex (aT (A.drop (i+1)) (B.drop k));rw[<-t]at e10 aa;have bA:((d2:Int)==(D:Int)-1)=true:=by rw[Uk];omega);(have ba:(i:Int)+1<49:=by have:=f.out;have:=m.out;omega);obtain hkb|hkb:=Ty k b.size
     .have I:=g.cell f.out.1 f.out.2 (r:=i) (k:=k+1) X (by have:=m.out;omega) (by omega);(rw[<-HN.out]at I;have J:aT (A.drop i) (B.drop (k+1))+1≠D:=λh=>T ⟨hkb,h⟩;obtain⟨d1,z⟩:=ex (aT (A.drop i) (B.drop (k+1)));rw[<-z]at I J;have hq:((d1:Int)==(D:Int)-1)=false:=by rw[TX];omega);(have ar:(k:Int)<(b.size:Int):=by omega);(have Z:(k:Int)+1<49:=by have:=f.out;have:=m.out;omega);clear p g hD T z J n t aa;go_wp2_with (at_builtin;refine wpList_append_own _ rfl _ _ 53 rfl (w3.heap.size+1) 96 i0 (.agg #[.int .i64 0,.int .i64 0,.int .u8 0]) 3 24 Tryz.underlying53 hi P Q R rfl (by decide) _ _ _ rfl (l.alloc _) ⟨_,0,none⟩ 1 1 [.int .i64 i,.int .i64 1,.int .u8 0] rfl rfl ?c1 ?c2 ?c3 ?c4 ?c5 ?_);(case c1=>intro j u C;rw[fG,TF];exact aE wr _ 96 j u (by simpa using C));(case c2=>intro u C;simp at C;rcases C with rfl|rfl|rfl<;>rfl);(case c3=>have:=H.out;unfold maxLen;omega);(case c4=>have:=H.out;omega);(case c5=>simp;omega);intro Y U c d _;obtain⟨s,z1,z2,z3⟩:=G.out _ (Below.refl _ wr) _ Y U ((i:Int),1,0) (i+1) k (by have:=m.out;omega) S HE.out c d;clear G l c d;go_wp2;exact⟨⟨_,i+1,k,s,rfl,by go_num,by go_num,(by have:=m.out;omega),S,z1,z2,z3⟩,by simp[intOf];have:=m.out;omega⟩
     have ar:decide ((k:Int)<(b.size:Int))=false:=Tz (by omega);clear p g hD T n t aa;go_wp2_with (at_builtin;refine wpList_append_own _ rfl _ _ 53 rfl (w3.heap.size+1) 96 i0 (.agg #[.int .i64 0,.int .i64 0,.int .u8 0]) 3 24 Tryz.underlying53 hi P Q R rfl (by decide) _ _ _ rfl (l.alloc _) ⟨_,0,none⟩ 1 1 [.int .i64 i,.int .i64 1,.int .u8 0] rfl rfl ?c1 ?c2 ?c3 ?c4 ?c5 ?_);(case c1=>intro j u C;rw[fG,TF];exact aE wr _ 96 j u (by simpa using C));(case c2=>intro u C;simp at C;rcases C with rfl|rfl|rfl<;>rfl);(case c3=>have:=H.out;unfold maxLen;omega);(case c4=>have:=H.out;omega);(case c5=>simp;omega);intro Y U c d _;obtain⟨s,z1,z2,z3⟩:=G.out _ (Below.refl _ wr) _ Y U ((i:Int),1,0) (i+1) k (by have:=m.out;omega) S HE.out c d;clear G l c d;go_wp2;exact⟨⟨_,i+1,k,s,rfl,by go_num,by go_num,(by have:=m.out;omega),S,z1,z2,z3⟩,by simp[intOf];have:=m.out;omega⟩
    have an:=Ib (A.drop i) (B.drop k) (by rw[<-HD.out];exact ah) (λy b' hy he=>T (by
     have hk:k<b.size:=by
      obtain h|h:=Ty k b.size
      .exact h
      .rw[T6 (by have:=m.out;omega)]at hy;cases hy
     rw[HG.out.2 k hk]at hy;injection hy with _ hy;subst hy;rw[<-HD.out]at he;exact⟨hk,he⟩)) (λx a' hx he=>n (by
     have hk:i<a.size:=by
      obtain h|h:=Ty i a.size
      .exact h
      .rw[T6 (by have:=m.out;omega)]at hx;cases hx
     rw[HG.out.1 i hk]at hx;injection hx with _ hx;subst hx;rw[<-HD.out]at he;exact⟨hk,he⟩))
    (have a8:i<a.size:=by obtain h|h:=Ty i a.size;exact h;exact absurd (T6 (by have:=m.out;omega)) an.1);(have hkb:k<b.size:=by obtain h|h:=Ty k b.size;exact h;exact absurd (T6 (by have:=m.out;omega)) an.2);(have J:aT (A.drop i) (B.drop (k+1))+1≠D:=λh=>T ⟨hkb,h⟩;have ab:aT (A.drop (i+1)) (B.drop k)+1≠D:=λh=>n ⟨a8,h⟩;have bo:Hid (bc i (A.drop i) (B.drop k)=if a[i]=b[k]then bc (i+1) (A.drop (i+1)) (B.drop (k+1))else((i:Int),2,codeOf b[k])::bc (i+1) (A.drop (i+1)) (B.drop (k+1))):=by have k1:=HG.out.1 i a8;have k2:=HG.out.2 k hkb;rw[HD.out,k1,k2]at J ab ah;rw[Hid,k1,k2];refine Ic i _ _ _ _ ah ?_ ?_;rw[<-k1];exact(by rw[k1];exact J);rw[<-k2];exact(by rw[k2];exact ab));(have I:=g.cell f.out.1 f.out.2 (r:=i) (k:=k+1) X (by have:=m.out;omega) (by omega);have e10:=g.cell f.out.1 f.out.2 (r:=i+1) (k:=k) (by have:=m.out;omega) ag (by omega);rw[<-HN.out]at I e10;obtain⟨d1,z⟩:=ex (aT (A.drop i) (B.drop (k+1)));rw[<-z]at I J;obtain⟨d2,t⟩:=ex (aT (A.drop (i+1)) (B.drop k));rw[<-t]at e10 ab;have hq:((d1:Int)==(D:Int)-1)=false:=by rw[TX];omega);(have bA:((d2:Int)==(D:Int)-1)=false:=by rw[TX];omega);(have b5:(i:Int)<(a.size:Int):=by omega);(have ar:(k:Int)<(b.size:Int):=by omega);(have ba:(i:Int)+1<49:=by have:=f.out;have:=m.out;omega);(have Z:(k:Int)+1<49:=by have:=f.out;have:=m.out;omega);by_cases V:a[i]=b[k]
    ·(have bB:((a[i].toNat:Int)!=(b[k].toNat:Int))=false:=by rw[V];simp);(have bC:Hid (K++bc (i+1) (A.drop (i+1)) (B.drop (k+1))=jV A B):=by have h:=bo.out;rw[Tv V]at h;rw[Hid,<-h];exact HT.out);clear p g l hD T z J ab n t an V;go_wp2;go_quiet (fail);go_wp2;exact⟨⟨_,i+1,k+1,K,rfl,by go_num,by go_num,by have:=m.out;omega,by have:=m.out;omega,bC.out,HO.out.1,HO.out.2.drewN _⟩,by simp[intOf];have:=m.out;omega⟩
    (have bB:((a[i].toNat:Int)!=(b[k].toNat:Int))=true:=by rw[UN];intro h;exact V (V7.1 (by omega)));(have HE:Hid (bc i (A.drop i) (B.drop k)=((i:Int),2,codeOf b[k])::bc (i+1) (A.drop (i+1)) (B.drop (k+1))):=by have h:=bo.out;rw[Tu V]at h;exact h);clear p g hD T z J ab n t an V;go_wp2;go_quiet (fail);go_wp2_with (at_builtin;refine wpList_append_own _ rfl _ _ 53 rfl (w3.heap.size+1) 96 i0 (.agg #[.int .i64 0,.int .i64 0,.int .u8 0]) 3 24 Tryz.underlying53 hi P Q R rfl (by decide) _ _ _ rfl ((show World.ownsRow (wr.drewN nq) (w3.heap.size+1) 96 3 vF K.length (qC K)from l).alloc _) ⟨_,0,none⟩ 1 1 [.int .i64 i,.int .i64 2,.int .u8 (b[k].toNat:Int)] rfl rfl ?c1 ?c2 ?c3 ?c4 ?c5 ?_);(case c1=>intro j u C;rw[fG,TF];exact aE (wr.drewN nq) _ 96 j u (by simpa using C));(case c2=>intro u C;simp at C;rcases C with rfl|rfl|rfl<;>rfl);(case c3=>have:=H.out;unfold maxLen;omega);(case c4=>have:=H.out;omega);(case c5=>simp;omega);intro Y U c d _;obtain⟨s,z1,z2,z3⟩:=G.out _ ((Below.refl _ wr).fv nq) _ Y U ((i:Int),2,codeOf b[k]) (i+1) (k+1) (by have:=m.out;omega) (by have:=m.out;omega) HE.out c d;clear G l c d;go_wp2;exact⟨⟨_,i+1,k+1,s,rfl,by go_num,by go_num,(by have:=m.out;omega),(by have:=m.out;omega),z1,z2,z3⟩,by simp[intOf];have:=m.out;omega⟩
end Go.Proofs
namespace Go.Proofs
open Go.Tm Go.RowKit Go.MapKept
def bP(w:World)(b:Nat)(p:ByteArray->Bool):Prop:=∃es a,w.heap[b]? =some (.map es a)/\(∀e∈es.toList,∃s,e.key=.string s/\e.val=.bool true)/\∀s,p s=true↔∃e∈es.toList,e.key=.string s
def bP.new(w:World):bP (w.alloc (.map #[] 0)) w.heap.size (λ_=>false):=⟨#[],0,Uc,λe a=>(by cases a),λs=>⟨λh=>(by cases h),λ⟨e,a,_⟩=>(by cases a)⟩⟩
def bP.keep{w w' b p}(h:bP w b p)(c:w'.heap[b]? =w.heap[b]?):bP w' b p:=by obtain⟨es,a,d,e,f⟩:=h;exact⟨es,a,c.trans d,e,f⟩
def bP.lt{w b p}(h:bP w b p):b<w.heap.size:=by obtain⟨es,a,c,_⟩:=h;exact(TC.1 c).1
def bP.iff{w b p q}(h:bP w b p)(c:∀s,p s=q s):bP w b q:=by obtain⟨es,a,d,e,f⟩:=h;exact⟨es,a,d,e,λs=>by rw[<-c];exact f s⟩
theorem oD(s):∀(es) (i),(∀e∈es,∃t,e.key=.string t/\e.val=.bool true)->(∃j,∃h,Instr.findNow .string (.string s) es i=some (some (i+j,.bool true))/\es[j].key=.string s)\/(Instr.findNow .string (.string s) es i=some none/\∀e∈es,e.key≠ .string s)
 | [],i,_=>.inr ⟨rfl,λe p=>(by cases p)⟩
 |e::es,i,h=>by
  obtain⟨t,k,q⟩:=h e (WB ..);obtain⟨r,l,g⟩:=sameNow_of_keys (d:=.string) (a:=.string s) (b:=.string t) (by simp[IsKey]) (by simp[IsKey]);by_cases c:s=t
  .subst c
   rw[g.2 rfl]at l;refine .inl ⟨0,by simp,?_,k⟩;rw[Instr.findNow,k,l,q];rfl
  .have m:r=false:=by
    cases r with
    |false=>rfl
    |true=>have:=g.1 rfl;cases this;exact absurd rfl c
   rw[m]at l;have f:Instr.findNow .string (.string s) (e::es) i=Instr.findNow .string (.string s) es (i+1):=by rw[Instr.findNow,k,l]
   rw[f];obtain⟨j,u,n,o⟩|⟨n,o⟩:=oD s es (i+1) (λx hx=>h x (Wh _ hx))
   .refine .inl ⟨j+1,by simpa using u,?_,by simpa using o⟩
    rw[n]
    congr 3
    omega
   .refine .inr ⟨n,λx hx=>?_⟩
    obtain rfl|hx:=TZ.1 hx
    .rw[k]
     intro e;cases e;exact c rfl
    .exact o x hx
section
variable (fs:Array Func)
def BG:(Qs fs).underlying 133=some (.map 9 4):=by rw[aK];exact Tryz.underlying133
def JE:(Qs fs).underlying 9=some .string:=by rw[aK];exact Tryz.underlying9
def R2(w):(zeroValue 4).run (Qs fs) w=.ok (.bool false) w:=by (rw[jr];have h:((Tryz.prog.info? 4).bind (·.zero))=some (.bool false):=by kernel_rfl);cases a:Tryz.prog.info? 4 with|none=>rw[a]at h;cases h|some i=>rw[a]at h;simp only[Vn]at h;simp[zeroValue,typeInfo,a,h]
def tL{w b p}(h:bP w b p)(s):(Instr.lookup 133 (.map (some b)) (.string s) false).run (Qs fs) w=.ok (.bool (p s)) w:=by obtain⟨es,c,m,o,n⟩:=h;have a:=λe=>MapKept.run_checkKey (P:=Qs fs) (w:=w) (kt:=9) (k:=.string s) (JE fs) (by simp[IsKey]) e 9999;obtain⟨j,q,d,f⟩|⟨d,f⟩:=oD s es.toList 0 o;have g:p s=true:=(n s).2 ⟨_,TG q,f⟩;rw[g];simp[Instr.lookup,run_underlying (BG fs),MapKept.run_getObj_map (P:=Qs fs) m,a,MapKept.run_findKey (P:=Qs fs) (w:=w) (JE fs) d,Result.andThen];(have g:p s=false:=by cases i:p s with|false=>rfl|true=>obtain⟨e,r,l⟩:=(n s).1 i;exact absurd l (f e r));rw[g];simp[Instr.lookup,run_underlying (BG fs),MapKept.run_getObj_map (P:=Qs fs) m,a,MapKept.run_findKey (P:=Qs fs) (w:=w) (JE fs) d,Result.andThen,R2]
def kO{w b p}(h:bP w b p)(s):∃w',(Instr.mapUpdate 133 (.map (some b)) (.string s) (.bool true)).run (Qs fs) w=.ok () w'/\bP w' b (λt=>p t||decide (t=s))/\(∀B,B<=b->Below B w w')/\ae w w':=by (obtain⟨es,m,n,E,C⟩:=h;have y:=λe=>MapKept.run_checkKey (P:=Qs fs) (w:=w) (kt:=9) (k:=.string s) (JE fs) (by simp[IsKey]) e 9999;have far:∀o:Obj,(∀B,B<=b->Below B w {w with heap:=w.heap.setIfInBounds b o})/\ae w {w with heap:=w.heap.setIfInBounds b o}:=λo=>by (refine⟨λB M=>⟨rfl,rfl,rfl,by simp,λk q=>(heap_set n).2 k (by omega)⟩,λk c e f q=>?_⟩;have F:k≠b:=by rintro rfl;rw[n]at q;cases q);exact((heap_set n).2 k F).trans q);obtain⟨j,K,D,q⟩|⟨D,q⟩:=oD s es.toList 0 E;(have u:j<es.size:=by simpa using K);(have v:es[j].key=.string s:=by simpa using q);(rw[TF]at D;have G:(Instr.keyThatStays (.string s) (.string s)).run (Qs fs) w=.ok (.string s) w:=by (have L:Instr.sameBits 10000 (.string s) (.string s)=true:=by obtain⟨r,J,H⟩:=sameNow_of_keys (d:=.string) (a:=.string s) (b:=.string s) (by simp[IsKey]) (by simp[IsKey]);rw[H.2 rfl]at J;simpa[Instr.sameNow,Instr.sameBits]using J);simp[Instr.keyThatStays,L]);refine⟨{w with heap:=w.heap.setIfInBounds b (.map (es.modify j λe=>{e with key:=.string s,val:=.bool true}) m)},?_,⟨_,_,(heap_set n).1,?_,?_⟩,far _⟩;simp[Instr.mapUpdate,run_underlying (BG fs),MapKept.run_getObj_map (P:=Qs fs) n,y,MapKept.run_findKey (P:=Qs fs) (w:=w) (JE fs) D,Result.andThen,u,v,G,MapKept.run_setObj_map (P:=Qs fs) _ n];intro e he;obtain⟨i,g⟩:=UI.1 he;rw[Ut,Uo]at g;split at g;(cases z:es[i]? with|none=>rw[z]at g;cases g|some x=>rw[z]at g;cases g;exact⟨s,rfl,rfl⟩);exact E e (by rw[<-Ut]at g;exact UC g);intro t;rw[US,TQ];constructor;rintro(I|rfl);obtain⟨e,he,l⟩:=(C t).1 I;obtain⟨i,g⟩:=UI.1 he;rw[Ut]at g;by_cases A:j=i;subst A;(have:es[j]=e:=by rw[TW u]at g;exact TY g);rw[this,l]at v;refine⟨{e with key:=.string s,val:=.bool true},UI.2 ⟨j,?_⟩,v.symm⟩;rw[Ut,Uo,Tv rfl,g];rfl;refine⟨e,UI.2 ⟨i,?_⟩,l⟩;rw[Ut,Uo,Tu A,g];refine⟨{es[j]with key:=.string t,val:=.bool true},UI.2 ⟨j,?_⟩,rfl⟩;rw[Ut,Uo,Tv rfl,TW u];rfl;rintro⟨e,he,l⟩;obtain⟨i,g⟩:=UI.1 he;rw[Ut,Uo]at g;split at g;(cases z:es[i]? with|none=>rw[z]at g;cases g|some x=>rw[z]at g;cases g;cases l;exact .inr rfl);exact .inl ((C t).2 ⟨e,by rw[<-Ut]at g;exact UC g,l⟩);refine⟨{w with heap:=w.heap.setIfInBounds b (.map (es.push {key:=.string s,val:=.bool true,born:=m}) (m+1))},?_,⟨_,_,(heap_set n).1,?_,?_⟩,far _⟩;simp[Instr.mapUpdate,run_underlying (BG fs),MapKept.run_getObj_map (P:=Qs fs) n,y,MapKept.run_findKey (P:=Qs fs) (w:=w) (JE fs) D,Result.andThen,MapKept.run_setObj_map (P:=Qs fs) _ n];intro e he;rw[WO]at he;obtain he|he:=UU.1 he;exact E e he;cases UX.1 he;exact⟨s,rfl,rfl⟩;intro t;rw[US,TQ,WO];constructor;rintro(I|rfl);obtain⟨e,he,l⟩:=(C t).1 I;exact⟨e,VT _ he,l⟩;exact⟨_,WQ _ (UX.2 rfl),rfl⟩;rintro⟨e,he,l⟩;obtain he|he:=UU.1 he;exact .inl ((C t).2 ⟨e,he,l⟩);cases UX.1 he;cases l;exact .inr rfl
end
def eD(p:Bool×Int):Value:=.agg #[.bool p.1,.int .i64 p.2]
def Fi{p q}(h:eD p=eD q):p=q:=by unfold eD at h;cases p;cases q;simp at h;simp[h.1,h.2]
section
variable (fs:Array Func)
def QS:(Qs fs).keyTypeAt 2 293=true:=by kernel_rfl
def NJ:(Qs fs).tiled 2 293=true:=by kernel_rfl
def Im:(Qs fs).keyType 293=true:=by kernel_rfl
def NK:∃F,(Qs fs).underlying 293=some (.struct F):=⟨_,(aK _ _ _).trans Tryz.underlying293⟩
def uq:WideMaps.KeyLaw (Qs fs) 293:=by refine deep_law (m:=2) (by omega) (QS fs) (NJ fs) ?_;obtain⟨F,h⟩:=NK fs;rw[h]
def Fj:(Qs fs).cellsOf 293=2:=by kernel_rfl
def QT:(Qs fs).cellsOf 4=1:=by kernel_rfl
def QU:(Qs fs).cellsOf 3=1:=by kernel_rfl
def QV:293<(Qs fs).types.size:=Ua (by kernel_rfl)
def PL(b n)(h:(Lit.int .i64 n).wf=true)(d):(Qs fs).keyLits (d+2) 293 [.bool b,.int .i64 n]=some [.bool b,.int .i64 n]:=by have e:(Qs fs).underlying 4=some .bool:=(aK _ _ _).trans Tryz.underlying4;have f:(Qs fs).underlying 3=some (.int .i64):=(aK _ _ _).trans Tryz.underlying3;obtain⟨S,c⟩:=ex (Tryz.prog.underlying 293);have a:(Qs fs).underlying 293=S:=(aK _ _ _).trans c.symm;rw[Tryz.underlying293]at c;subst c;simp[Program.keyLits,a,e,f,Fj,QT,QU,h]
def sX(p)(h:(Lit.int .i64 p.2).wf=true):∃l,keyOf (Qs fs) 293 (eD p)=some l:=by (obtain⟨F,a⟩:=NK fs;obtain⟨d,b⟩:∃d,(Qs fs).types.size+1=d+2:=⟨(Qs fs).types.size-1,by have:=QV fs;omega⟩);(have c:=PL fs p.1 p.2 h d;have e:(eD p).formed (Qs fs) 293=true:=by simp[eD,Value.formed,a,Fj]);have f:(eD p).cells.toList=[.bool p.1,.int .i64 p.2]:=rfl;unfold keyOf;rw[a];simp only[Im,e,Bool.and_self,TK,b,f,c,Ud];exact⟨_,rfl⟩
def ur:(Qs fs).underlying 291=some (.map 293 3):=by kernel_rfl
def Qd(w):(zeroValue 3).run (Qs fs) w=.ok (.int .i64 0) w:=by (rw[jr];have h:((Tryz.prog.info? 3).bind (·.zero))=some (.int .i64 0):=by kernel_rfl);cases a:Tryz.prog.info? 3 with|none=>rw[a]at h;cases h|some i=>rw[a]at h;simp only[Vn]at h;simp[zeroValue,typeInfo,a,h]
end
def wfE(p:Bool×Int):Prop:=(Lit.int .i64 p.2).wf=true
structure Cnt(es:List MapEntry)(clock:Nat)(f:Bool×Int->Nat):Prop where
 ent:∀e∈es,∃p,wfE p/\e.key=eD p/\e.val=.int .i64 (f p)/\e.born<clock
 born:(es.map (·.born)).Nodup
 keys:es.Pairwise λx y=>x.key≠y.key
 all:∀p,f p≠0->∃e∈es,e.key=eD p
def fh(w:World)(b:Nat)(f:Bool×Int->Nat):Prop:=∃es a,w.heap[b]? =some (.map es a)/\Cnt es.toList a f
def fh.new(w:World):fh (w.alloc (.map #[] 0)) w.heap.size (λ_=>0):=⟨#[],0,Uc,⟨λe a=>(by cases a),List.nodup_nil,List.Pairwise.nil,λp b=>absurd rfl b⟩⟩
def fh.keep{w w' b f}(h:fh w b f)(c:w'.heap[b]? =w.heap[b]?):fh w' b f:=by obtain⟨es,a,d,e⟩:=h;exact⟨es,a,c.trans d,e⟩
def fh.lt{w b f}(h:fh w b f):b<w.heap.size:=by obtain⟨es,a,c,_⟩:=h;exact(TC.1 c).1
section
variable (fs:Array Func)
def Cnt.find{es a f}(h:Cnt es a f)(p)(i:wfE p)(w):((Instr.findKey 293 (eD p) es).run (Qs fs) w=.ok none w/\(∀e∈es,e.key≠eD p)/\f p=0)\/∃j e,(Instr.findKey 293 (eD p) es).run (Qs fs) w=.ok (some (j,.int .i64 (f p))) w/\es[j]? =some e/\e.key=eD p/\e.val=.int .i64 (f p):=by (obtain⟨l,k⟩:=sX fs p i;rcases(uq fs).find w k es (λe c=>by obtain⟨q,d,b,_⟩:=h.ent e c;rw[b];exact sX fs q d)with⟨h1,h2⟩|⟨j,e,h1,h2,h3⟩);refine .inl ⟨h1,h2,Wb λm=>?_⟩;obtain⟨e,c,b⟩:=h.all p m;exact h2 e c b;obtain⟨q,d,b,g,_⟩:=h.ent e (UC h2);have:=Fi (b.symm.trans h3);subst this;exact .inr ⟨j,e,by rw[h1,g],h2,h3,g⟩
def sY{w b f}(h:fh w b f)(p)(g:wfE p):(Instr.lookup 291 (.map (some b)) (eD p) false).run (Qs fs) w=.ok (.int .i64 (f p)) w:=by obtain⟨es,c,i,k⟩:=h;obtain⟨l,m⟩:=sX fs p g;have a:=λn=>(uq fs).check w n m;obtain⟨d,_,o⟩|⟨j,e,d,_⟩:=k.find fs p g w;rw[o];simp[Instr.lookup,run_underlying (ur fs),MapKept.run_getObj_map (P:=Qs fs) i,a,d,Result.andThen,Qd];simp[Instr.lookup,run_underlying (ur fs),MapKept.run_getObj_map (P:=Qs fs) i,a,d,Result.andThen]
def dK(w:World)(b:Nat)(es:Array MapEntry)(a:Nat):World:={w with heap:=w.heap.setIfInBounds b (.map es a)}
def df{w b es d g a}(i:w.heap[b]? =some (.map es g)):(dK w b d a).heap[b]? =some (.map d a)/\(∀k,k≠b->(dK w b d a).heap[k]? =w.heap[k]?)/\(∀B,B<=b->Below B w (dK w b d a))/\ae w (dK w b d a)/\(dK w b d a).heap.size=w.heap.size:=by (refine⟨(heap_set i).1,λk h=>(heap_set i).2 k h,λB l=>⟨rfl,rfl,rfl,by simp[dK],λk h=>(heap_set i).2 k (by omega)⟩,λk c e f h=>?_,by simp[dK]⟩;have j:k≠b:=by rintro rfl;rw[i]at h;cases h);exact((heap_set i).2 k j).trans h
def iJ(w:World)(b:Nat)(p:Bool×Int)(st:Nat):Prop:=∃es a,w.heap[b]? =some (.map es a)/\∃(j:Nat) (e:MapEntry),es.toList[j]? =some e/\e.key=eD p/\e.born=st
def KN{w b f}(h:fh w b f)(p)(r:wfE p):∃es d,∃st:Nat,(Instr.mapEntry 291 (.map (some b)) (eD p)).run (Qs fs) w=.ok (.tuple #[.int .i64 (f p),.int .i64 st]) (dK w b es d)/\fh (dK w b es d) b f/\iJ (dK w b es d) b p st:=by obtain⟨es,d,g,i⟩:=h;obtain⟨l,z⟩:=sX fs p r;have m:=λB=>(uq fs).check w B z;have s:=(uq fs).stays w z;obtain⟨t,u,A⟩|⟨j,e,t,o,n,L⟩:=i.find fs p r w;refine⟨es.push ⟨eD p,.int .i64 0,d⟩,d+1,d,?_,⟨_,_,(df g).1,?_⟩,⟨_,_,(df g).1,es.size,⟨eD p,.int .i64 0,d⟩,by simp,rfl,rfl⟩⟩;rw[A];simp[Instr.mapEntry,run_underlying (ur fs),MapKept.run_getObj_map (P:=Qs fs) g,m,t,Result.andThen,Qd,MapKept.run_setObj_map (P:=Qs fs) _ g,dK,goInt];rw[WO];refine⟨λx hx=>?_,?_,?_,λq C=>?_⟩;obtain hx|hx:=UU.1 hx;obtain⟨q,D,E,F,G⟩:=i.ent x hx;exact⟨q,D,E,F,by omega⟩;cases UX.1 hx;exact⟨p,r,rfl,by rw[A];rfl,by simp⟩;rw[Vk];refine List.nodup_append.2 ⟨i.born,by simp,λa H c I e=>?_⟩;obtain⟨x,hx,rfl⟩:=UR.1 H;obtain⟨_,_,_,_,G⟩:=i.ent x hx;simp at I;omega;refine List.pairwise_append.2 ⟨i.keys,List.pairwise_singleton _ _,λx hx y J=>?_⟩;cases UX.1 J;exact u x hx;obtain⟨e,K,n⟩:=i.all q C;exact⟨e,VT _ K,n⟩;(have v:es[j]? =some e:=by simpa using o);(have k:es.modify j (λe=>{e with key:=eD p})=es:=by (apply V5;rw[Ww,ChangeMaps.modify_eq_set _ _ _ _ o];have:({e with key:=eD p}:MapEntry)=e:=by rw[<-n]);rw[this];exact WideElems.set_self _ _ _ o);refine⟨es,d,e.born,?_,⟨_,_,(df g).1,i⟩,⟨_,_,(df g).1,j,e,o,n,rfl⟩⟩;simp[Instr.mapEntry,run_underlying (ur fs),MapKept.run_getObj_map (P:=Qs fs) g,m,t,v,n,s,k,Result.andThen,MapKept.run_setObj_map (P:=Qs fs) _ g,dK,goInt]
def kb(e:MapEntry):Value×Nat:=(e.key,e.born)
def Cnt.shape{es a:List MapEntry}(h:a.map kb=es.map kb)(x)(c:x∈a):∃y∈es,y.key=x.key/\y.born=x.born:=by have b:kb x∈a.map kb:=UR.2 ⟨x,c,rfl⟩;rw[h]at b;obtain⟨y,d,e⟩:=UR.1 b;exact⟨y,d,T7 Prod.fst e,T7 Prod.snd e⟩
def uX{w b f p es}{a j:Nat}{e}(C:w.heap[b]? =some (.map es a))(m:Cnt es.toList a f)(c:es.toList[j]? =some e)(s:e.key=eD p)(I:wfE p)(v:Nat):∃h,(Instr.entryStore 291 (.map (some b)) (.int .i64 e.born) (.int .i64 v)).run (Qs fs) w=.ok () (dK w b h a)/\Cnt h.toList a (λq=>if q=p then v else f q)/\h.toList.map kb=es.toList.map kb:=by (have J:es[j]? =some e:=by simpa using c);(have o:es.findIdx? (λx=>((x.born:Nat):Int)==((e.born:Nat):Int))=some j:=by rw[WideElems.findIdx_arr];exact WideElems.findIdx_born m.born c);refine⟨es.modify j (λx=>{x with val:=.int .i64 v}),?_,?_,by rw[Ww,ChangeMaps.modify_eq_set _ _ _ _ c,List.map_set];refine WideElems.set_self _ _ _ ?_;rw[UY,c];rfl⟩;simp[Instr.entryStore,MapKept.run_getObj_map (P:=Qs fs) C,asInt,asIntOf,o,Result.andThen,MapKept.run_setObj_map (P:=Qs fs) _ C,dK];rw[Ww,ChangeMaps.modify_eq_set _ _ _ _ c];(have r:j<es.toList.length:=(UO.1 c).1;have mb:∀{K:Type} (g:MapEntry->K),g {e with val:=.int .i64 v}=g e->(es.toList.set j {e with val:=.int .i64 v}).map g=es.toList.map g:=λg L=>by rw[List.map_set,L];refine WideElems.set_self _ _ _ ?_;rw[UY,c];rfl);(have D:(es.toList.map (·.key)).Nodup:=by rw[List.Nodup,List.pairwise_map];exact m.keys);refine⟨λx t=>?_,by rw[mb (·.born) rfl];exact m.born,?_,λq E=>?_⟩;obtain⟨i,n⟩:=UI.1 t;rw[List.getElem?_set]at n;split at n;rename_i k;subst k;simp only[r,TK,Ug]at n;subst n;obtain⟨q,F,u,G,z⟩:=m.ent e (UC c);exact⟨p,I,s,by simp,z⟩;rename_i k;(obtain⟨q,F,u,G,z⟩:=m.ent x (UC n);have d:q≠p:=by rintro rfl;refine k ((List.getElem?_inj (l:=es.toList.map (·.key)) (by simpa using r) D).1 ?_);rw[UY,UY,c,n];show some e.key=some x.key;rw[s,u]);exact⟨q,F,u,by rw[Tu d];exact G,z⟩;have:=mb (·.key) rfl;(have H:((es.toList.set j {e with val:=.int .i64 v}).map (·.key)).Nodup:=by rw[this];exact D);rw[List.Nodup,List.pairwise_map]at H;exact H;(have M:∃x∈es.toList,x.key=eD q:=by by_cases d:q=p;subst d;exact⟨e,UC c,s⟩;rw[Tu d]at E;exact m.all q E);(obtain⟨x,t,A⟩:=M;have:x.key∈(es.toList.set j {e with val:=.int .i64 v}).map (·.key):=by rw[mb (·.key) rfl];exact UR.2 ⟨x,t,rfl⟩);obtain⟨y,N,B⟩:=UR.1 this;exact⟨y,N,B.trans A⟩
def KO{w b f p st}(h:fh w b f)(l:iJ w b p st)(m:wfE p)(v:Nat):∃es a,(Instr.entryStore 291 (.map (some b)) (.int .i64 st) (.int .i64 v)).run (Qs fs) w=.ok () (dK w b es a)/\fh (dK w b es a) b (λq=>if q=p then v else f q):=by obtain⟨es,a,g,n⟩:=h;obtain⟨o,d,c,j,e,r,s,i⟩:=l;rw[g]at c;cases c;subst i;obtain⟨k,a1,t,_⟩:=uX fs g n r s m v;exact⟨k,a,a1,_,_,(df g).1,t⟩
def Io{w b f p es a}(n:w.heap[b]? =some (.map es a))(r:Cnt es.toList a f)(o:wfE p)(s:f p≠0):∃(j:Nat) (e:MapEntry),(Instr.mapEntry 291 (.map (some b)) (eD p)).run (Qs fs) w=.ok (.tuple #[.int .i64 (f p),.int .i64 e.born]) (dK w b es a)/\es.toList[j]? =some e/\e.key=eD p:=by obtain⟨l,q⟩:=sX fs p o;have g:=λt=>(uq fs).check w t q;have h:=(uq fs).stays w q;obtain⟨_,_,i⟩|⟨j,e,u,d,k,v⟩:=r.find fs p o w;exact absurd i s;(have m:es[j]? =some e:=by simpa using d);(have c:es.modify j (λe=>{e with key:=eD p})=es:=by (apply V5;rw[Ww,ChangeMaps.modify_eq_set _ _ _ _ d];have:({e with key:=eD p}:MapEntry)=e:=by rw[<-k]);rw[this];exact WideElems.set_self _ _ _ d);refine⟨j,e,?_,d,k⟩;simp[Instr.mapEntry,run_underlying (ur fs),MapKept.run_getObj_map (P:=Qs fs) n,g,u,m,k,h,c,Result.andThen,MapKept.run_setObj_map (P:=Qs fs) _ n,dK,goInt]
end
end Go.Proofs

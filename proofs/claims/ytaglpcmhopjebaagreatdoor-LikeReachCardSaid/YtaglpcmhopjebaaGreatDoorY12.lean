import Derived.Shelf.Strings.IndexAnyAll
import Derived.Laws.RangeAny
import Derived.Laws.Runes
import Derived.Lib.OthersKept
import Derived.Laws.IdiomStrings
import Derived.MapKept
import Derived.WideKeyEntry
import Derived.DeepKeys4
import Derived.Maps.RangeRun
import Derived.Test.YtaglpcmhopjebaaGreatDoorY11
set_option linter.all false
set_option maxRecDepth 100000
set_option maxHeartbeats 20000000
namespace Go.Proofs
open Go.Tm Go.RowKit
variable {fs:Array Func} (L:bR fs)
def gY(kd:IntKind)(K:Nat->Prop)(w:x6)(b o:Nat)(x:Int×Int×Int):Prop:=w.cell? ⟨b,o,none⟩=some (.i x.1)/\w.cell? ⟨b,o+1,none⟩=some (.i x.2.1)/\w.cell? ⟨b,o+2,none⟩=some (.int kd x.2.2)
def gY.keep{kd K w w'}(a:ae w w'){b o x}(h:gY kd K w b o x):gY kd K w' b o x:=⟨a.cell h.1,a.cell h.2.1,a.cell h.2.2⟩
def Rj{a:Type}[DecidableEq a]{l m:List a}(b:l.length=m.length){j}(c:j<l.length)(h:l[j]≠m[j]'(b▸c)):decide (l=m)=false:=by refine UN λe=>?_;subst e;exact h rfl
def Rl{a:Type}[DecidableEq a]{l m:List a}(b:l.length=m.length)(h:∀j (c:j<l.length),l[j]=m[j]'(b▸c)):decide (l=m)=true:=UQ (Ym b λj d e=>h j d)
def M8{p:Prop}(h:p:=by
 obtain⟨O,c0,rfl,P,Q,_,g0⟩:=HA_;obtain⟨a1,c1,rfl,R,S,_,D⟩:=HB_;obtain hlen|hlen:=Decidable.em (l.length=m.length)
 .have f:((l.length:Int)!=(m.length:Int))=false:=by rw[hlen];simp
  have T:((m.length:Int)!=(m.length:Int))=false:=by simp
  have u:Hid (l.length=m.length):=hlen;have E:Hid ((∀j (F:j<l.length),∃b o,O=some ⟨b,o,none⟩/\gY _ K w b (o+j*3) l[j])/\(∀j (F:j<m.length),∃b o,a1=some ⟨b,o,none⟩/\gY _ K w b (o+j*3) m[j])):=⟨g0,D⟩
  clear g0 D;go_enter HN_,HT_;clear HN_ HT_;go_wp2;go_loopw [5] (λs wr=>∃j:Nat,j<=l.length/\s=.i j/\(∀q (d:q<l.length),q<j->l[q]=m[q]'(u.o▸d))/\Below w.heap.size w wr) (λs _=>l.length-(intOf s).toNat)
  case atStart=>exact⟨0,UP _,rfl,λq d h=>by omega,Below.refl _ _⟩
  case round=>
   obtain⟨j,F,rfl,f,a⟩:=hrel;have g:Hid ((∀q (d:q<l.length),q<j->l[q]=m[q]'(u.o▸d))/\Below w.heap.size w wr):=⟨f,a⟩
   obtain i|hge:=UK j l.length
   .have k:j<m.length:=by omega
    obtain⟨b,o,rfl,v,x,y⟩:=E.o.1 j i;obtain⟨b2,o2,rfl,z,A,B⟩:=E.o.2 j k;have c:=ae.below a;have v:=c.cell v;have x:=c.cell x;have y:=c.cell y;have z:=c.cell z;have A:=c.cell A;have B:=c.cell B;obtain⟨p,n⟩:=ex (l[j]);obtain⟨q,d⟩:=ex (m[j]);rw[<-n]at v x y;rw[<-d]at z A B;obtain⟨G,H,I⟩:=p;obtain⟨J,M,N⟩:=q;simp only[]at v x y z A B;have U:=jj n;have V:=jj d;have C:=HE_.o G H I J M N;have hG:=HG_.o;have W:(j:Int)<(l.length:Int):=by omega
    have X:(j:Int)<(m.length:Int):=by omega
    by_cases r:G=J/\H=M/\I=N
    .rw[UQ r]at C
     obtain⟨rfl,rfl,rfl⟩:=r;simp only[Wx]at C;clear f a c n d;go_wp2;go_quiet (fail);go_wp2;refine⟨⟨j+1,by omega,by go_num,λq d Y=>?_,g.o.2.gX _⟩,by simp[intOf];omega⟩;by_cases h:q<j
     .exact g.o.1 q d h
     .obtain rfl:q=j:=by omega
      exact U.o.symm.trans V.o
    .have t:l[j]≠m[j]:=λe=>by rw[<-n,<-d]at e;cases e;exact r ⟨rfl,rfl,rfl⟩
     have HN_:Hid _:=Rj u.o i t;rw[UN r]at C;simp only[XT]at C;clear f a c n d t r;go_wp2;go_quiet (fail);go_wp2;go_ret;exact⟨by rw[HN_.o];rfl,g.o.2.gX _⟩
   .clear f a
    have HT_:Hid _:=Rl u.o λq d=>g.o.1 q d (by omega);go_wp2;go_ret;exact⟨by rw[HT_.o];rfl,g.o.2⟩
 .have f:((l.length:Int)!=(m.length:Int))=true:=by rw[WO];omega
  have Z:Hid (decide (l=m)=false):=UN λe=>hlen (by rw[e]);clear g0 D;go_enter HN_,HT_;clear HN_ HT_;go_wp2;go_ret;exact⟨by rw[Z.o];rfl,Below.refl _ _⟩):p:=h
def Hb{K:Nat->Prop}{v0 v1:Zj}{l m:List (Int×Int×Int)}(w:x6)(HA_:az K 3 (gY .i64) w v0 l)(HB_:az K 3 (gY .i64) w v1 m):ac fs 36 #[v0,v1] w (.bool (decide (l=m))):=by have HN_:=n36 L;have HT_:=Tryz.ntmps36;have HE_:Hid _:=Kh fs;have HG_:Hid _:=jg fs PR .neq (.tmp 20) (.tmp 24);exact M8
def Eu{K:Nat->Prop}{v0 v1:Zj}{l m:List (Int×Int×Int)}(w:x6)(HA_:az K 3 (gY .i64) w v0 l)(HB_:az K 3 (gY .i64) w v1 m):ac fs 40 #[v0,v1] w (.bool (decide (l=m))):=by have HN_:=n40 L;have HT_:=Tryz.ntmps40;have HE_:Hid _:=Ao fs;have HG_:Hid _:=jg fs wO .neq (.tmp 20) (.tmp 24);exact M8
def Ev{K:Nat->Prop}{v0 v1:Zj}{l m:List (Int×Int×Int)}(w:x6)(HA_:az K 3 (gY .u8) w v0 l)(HB_:az K 3 (gY .u8) w v1 m):ac fs 46 #[v0,v1] w (.bool (decide (l=m))):=by have HN_:=n46 L;have HT_:=Tryz.ntmps46;have HE_:Hid _:=Ki fs;have HG_:Hid _:=jg fs PU .neq (.tmp 20) (.tmp 24);exact M8
def fv(a:Nat->Int):Nat->Nat->Int
 |0,_=>0
 |n+1,j=>if a j≠0 then a j else fv a n (j+1)
def xG(a b:Int)(c:Nat->Int)(n:Nat):Int:=if aq n a b then fv c n 0 else 2
def zu{a n j}(h:a j=0)(c:0<n):fv a n j=fv a (n-1) (j+1):=by (obtain⟨n,rfl⟩:∃k,n=k+1:=⟨n-1,by omega⟩);(conv=>lhs;unfold fv);rw[UG (λb=>b h)];rfl
def zv{a n j}(h:a j≠0)(b:0<n):fv a n j=a j:=by (obtain⟨n,rfl⟩:∃k,n=k+1:=⟨n-1,by omega⟩);unfold fv;rw[UH h]
def az.As{K v l w w'}(h:az K 2 dA w v l)(a:ae w w'):az K 2 dA w' v l:=h.stays a λb c o x e h=>by subst e;exact dA.carry (Carry.keep a) b b o x rfl h
def az.strs{K v l w w'}(h:az K 1 jZ w v l)(a:ae w w'):az K 1 jZ w' v l:=h.stays a λb c o x e h=>by subst e;exact jZ.carry (Carry.keep a) b b o x rfl h
def az.Q0{K v l w w'}(h:az K 1 cT w v l)(a:ae w w'):az K 1 cT w' v l:=h.ints a
abbrev qC(fs:Array Func)(f:FuncId)(a:Zq)(c:Nat->Int)(b:Nat->x6->Prop)(j:Nat)(x:Zj)(wr:x6):Prop:=Calls (Qs fs) f (#[.i j,x]++a) wr λe w'=>e=.returned (.i (c j))/\b (j+1) w'
abbrev oe(fs:Array Func)(f:FuncId)(a:Zq)(g:Nat->Int)(b:Nat->x6->Prop)(c d:Int)(n:FuncId)(v:Zj)(k:Nat)(w:x6):Prop:=Calls (Qs fs) n #[v,.i c,.i d,.func (.func f) #[] a] w λe w'=>e=.returned (.i (xG c d g k))/\∃j,b j w'
def kD{K:Nat->Prop}{v:Zj}(f:FuncId)(h:Zq)(t u:Int)(w:x6)(g:Nat->x6->Prop)(m:Nat->Int)(ef:∀a w,(callFunc f a).run (Qs fs) w=.ok (.enter f a) w)(X:g 0 w)(P:∀j wr,g j wr->ae w wr)(Q:∀j wr o,g j wr->g j (wr.alloc o)):(∀l:List Pr2,az K 2 dA w v l->(∀j (D:j<l.length) wr,g j wr->qC fs f h m g j (.agg #[.string l[j].1,.string l[j].2]) wr)->oe fs f h m g t u 97 v l.length w)/\(∀l:List Pr2,az K 2 dA w v l->(∀j (D:j<l.length) wr,g j wr->qC fs f h m g j (.agg #[.string l[j].1,.string l[j].2]) wr)->oe fs f h m g t u 103 v l.length w)/\(∀l:List ja,az K 4 iX w v l->(∀j (D:j<l.length) wr,g j wr->qC fs f h m g j (.agg #[.i l[j].kind,.i l[j].least,.i l[j].plain,.i l[j].known]) wr)->oe fs f h m g t u 78 v l.length w)/\(∀l:List (Int×Int×Int),az K 3 (gY .u8) w v l->(∀j (D:j<l.length) wr,g j wr->qC fs f h m g j (.agg #[.i l[j].1,.i l[j].2.1,.int .u8 l[j].2.2]) wr)->oe fs f h m g t u 89 v l.length w)/\(∀l:List Int,az K 1 cT w v l->(∀j (D:j<l.length) wr,g j wr->qC fs f h m g j (.i l[j]) wr)->oe fs f h m g t u 82 v l.length w)/\(∀l:List Zk,az K 1 jZ w v l->(∀j (D:j<l.length) wr,g j wr->qC fs f h m g j (.string l[j]) wr)->oe fs f h m g t u 107 v l.length w)/\(∀l:List Mark,az K 5 lQ w v l->(∀j (D:j<l.length) wr,g j wr->∀x,(az K 1 cT wr x l[j].aP)->qC fs f h m g j (.agg #[.string l[j].name,.string l[j].word,x,.i l[j].day,.bool l[j].known]) wr)->oe fs f h m g t u 80 v l.length w)/\(∀l:List jY,az K 2 fH w v l->(∀j (D:j<l.length) wr,g j wr->∀x,(az K 2 dA wr x l[j].aX)->qC fs f h m g j (.agg #[.string l[j].name,x]) wr)->oe fs f h m g t u 100 v l.length w)/\(∀l:List (List Zk),az K 1 j5 w v l->(∀j (D:j<l.length) wr,g j wr->∀x,(az K 1 jZ wr x l[j])->qC fs f h m g j (x) wr)->oe fs f h m g t u 105 v l.length w):=by
 have Y:=jj X;have J:Hid ((∀j wr,g j wr->ae w wr)/\(∀j wr o,g j wr->g j (wr.alloc o))):=⟨P,Q⟩
 clear P Q X;refine⟨?_,?_,?_,?_,?_,?_,?_,?_,?_⟩;all_goals
  intro l R y;unfold qC at y;unfold oe;have e63:=e63 L;have N:=dY fs (n63 L) (l.length:Int) t u w;obtain⟨ao,c,rfl,aa,hc,ab,z⟩:=R;have E:=jj y;have F:=jj z;clear y z;first
  |(go_enter (n97 L),Tryz.ntmps97;have C:Fin 1:=0)
  |(go_enter (n103 L),Tryz.ntmps103;have C:Fin 2:=0)
  |(go_enter (n78 L),Tryz.ntmps78;have C:Fin 3:=0)
  |(go_enter (n89 L),Tryz.ntmps89;have C:Fin 3:=0)
  |(go_enter (n82 L),Tryz.ntmps82;have C:Fin 3:=0)
  |(go_enter (n107 L),Tryz.ntmps107;have C:Fin 3:=0)
  |(go_enter (n80 L),Tryz.ntmps80;have C:Fin 3:=0)
  |(go_enter (n100 L),Tryz.ntmps100;have C:Fin 3:=0)
  |(go_enter (n105 L),Tryz.ntmps105;have C:Fin 3:=0)
  cases H:aq l.length t u with
  |false=>
   have U:Hid (xG t u m l.length=2):=by unfold Hid xG;rw[H];rfl
   unfold aq at H;rw[H]at N;clear H;go_wp2_with (go_at_call 63;refine N.mono ?_;clear N;rintro e w2 ⟨rfl,rfl⟩)
   go_ret;exact⟨by rw[U.o];rfl,0,Y.o⟩
  |true=>
   have U:Hid (xG t u m l.length=fv m l.length 0):=by unfold Hid xG;rw[H];rfl
   unfold aq at H;rw[H]at N;clear H;go_wp2_with (go_at_call 63;refine N.mono ?_;clear N;rintro e w2 ⟨rfl,rfl⟩)
   go_loopw [20] (λs wr=>∃j:Nat,j<=l.length/\s=.i j/\g j wr/\fv m l.length 0=fv m (l.length-j) j) (λs _=>l.length-(intOf s).toNat)
   case atStart=>exact⟨0,UP _,rfl,Y.o,rfl⟩
   case round=>
    obtain⟨j,D,rfl,r,O⟩:=hrel;have HF:=jj O;have HI:=jj r;obtain i|hge:=UK j l.length
    .have d:=J.o.1 j wr r
     first
     |(obtain⟨b,p,rfl,k,q,I,S⟩:=F.o j i;have k:=d.cell k;have q:=d.cell q;have I:=d.cell I;have S:=d.cell S;have n:=E.o j i _ (J.o.2 j wr (.cells #[.i l[j].kind,.i l[j].least,.i l[j].plain,.i l[j].known] 69) r))
     |(obtain⟨b,p,rfl,k,q,I⟩:=F.o j i;have k:=d.cell k;have q:=d.cell q;have I:=d.cell I;have n:=E.o j i _ (J.o.2 j wr (.cells #[.i l[j].1,.i l[j].2.1,.int .u8 l[j].2.2] 96) r))
     |(obtain⟨b,p,rfl,k⟩:=F.o j i;have k:=d.cell k;rw[Vs]at k;have n:=E.o j i _ r)
     |(obtain⟨b,p,rfl,k⟩:=F.o j i;have k:=d.cell k;rw[Vs]at k;have n:=E.o j i _ r)
     |(obtain⟨b,p,rfl,k,q,⟨x,I,A⟩,S,Z⟩:=F.o j i;have k:=d.cell k;have q:=d.cell q;have I:=d.cell I;have S:=d.cell S;have Z:=d.cell Z;obtain⟨G,V,rfl,xl,_⟩:=A.Q0 d;have n:=E.o j i _ (J.o.2 j wr (.cells #[.string l[j].name,.string l[j].word,.slice G l[j].aP.length V,.i l[j].day,.bool l[j].known] 38) r) _ (A.Q0 (d.trans (ae.alloc _ _)));clear A)
     |(obtain⟨b,p,rfl,k,x,q,A⟩:=F.o j i;have k:=d.cell k;have q:=d.cell q;obtain⟨G,V,rfl,xl,_⟩:=A.As d;have n:=E.o j i _ (J.o.2 j wr (.cells #[.string l[j].name,.slice G l[j].aX.length V] 50) r) _ (A.As (d.trans (ae.alloc _ _)));clear A)
     |(obtain⟨b,p,rfl,x,k,A⟩:=F.o j i;have k:=d.cell k;rw[Vs]at k;obtain⟨G,V,rfl,xl,_⟩:=A.strs d;have n:=E.o j i _ r _ (A.strs d);clear A)
     |(have _:Fin 1:=C;obtain⟨b,p,rfl,k,q⟩:=F.o j i;have k:=d.cell k;have q:=d.cell q;have n:=E.o j i _ (J.o.2 j wr (.cells #[.string l[j].1,.string l[j].2] 46) r))
     |(have _:Fin 2:=C;obtain⟨b,p,rfl,k,q⟩:=F.o j i;have k:=d.cell k;have q:=d.cell q;have n:=E.o j i _ (J.o.2 j wr (.cells #[.string l[j].1,.string l[j].2] 51) r))
     by_cases T:m j=0
     .have W:Hid _:=(O.trans (zu T (by omega)))
      rw[T]at n;clear O r d T;go_wp2_with (go_at_fn f;refine n.mono ?_;rintro e w3 ⟨rfl,B⟩;have M:=jj B;clear B)
      exact⟨⟨j+1,by omega,by go_num,M.o,W.o⟩,by simp[intOf];omega⟩
     .have W:Hid _:=(O.trans (zv T (by omega)))
      have ad:(m j !=0)=true:=by simpa using T
      clear O r d;go_wp2_with (go_at_fn f;refine n.mono ?_;rintro e w3 ⟨rfl,B⟩;have M:=jj B;clear B)
      go_ret;exact⟨by rw[U.o,W.o];rfl,_,M.o⟩
    .clear O r
     go_wp2;go_ret;have hx:=HF.o;rw[show l.length-j=0 by omega]at hx;exact⟨by rw[U.o,hx];rfl,_,HI.o⟩
end Go.Proofs
namespace Go.Proofs
open Go.Shelf Go.Tm Go.RowKit
variable {fs:Array Func} (L:bR fs)
def P0:((Tryz.prog.info? 240).bind (·.zero))=some (.agg (Array.replicate 256 (.bool false))):=by kernel_rfl
def P1:(Tryz.prog.info? 240).map (·.size)=some 256:=by kernel_rfl
def Ep(fs w):(zeroValue 240).run (Qs fs) w=.ok (.agg (Array.replicate 256 (.bool false))) w:=by rw[jF];have h:=P0;cases a:Tryz.prog.info? 240 with|none=>rw[a]at h;cases h|some i=>rw[a]at h;simp only[WR]at h;simp[zeroValue,typeInfo,a,h]
def Er(s:Zk)(c:Int)(w:x6):ap fs 193 #[.string s,.int .u8 c] w (.i (Lib.indexByte s.data.toList c.toNat.toUInt8)):=Any.strings_IndexByte {(j7 L).1 with} s c w
def vT(s a:Zk)(w:x6)(d:2<=a.size)(g:8<s.size)(h:s.size<4294967281)(f:a.size<4294967281)(c:∀(j:Nat) b,a.data.toList[j]? =some b->b.toNat<128):ac fs 165 #[.string s,.string a] w (.i (Lib.indexAny s.data.toList a.data.toList)):=
 (Any.strings_IndexAny_long {(j7 L).1 with} (Ep fs) P1 s a w d g h f c).mono λe w' ⟨i,d⟩=>⟨i,by rw[d];exact((Below.refl _ _).alloc (UI _) _).alloc (by simp) _⟩
def xF(w s pos):Below w.heap.size w (w.iter s pos):=(Below.refl _ _).alloc (UI _) _
def indexByte_none(l c)(h:∀b∈l,b≠c):Lib.indexByte l c= -1:=by (have a:=Lib.contains_iff_indexByte l c;have d:l.contains c=false:=by cases e:l.contains c with|false=>rfl|true=>exact absurd rfl (h c (by simpa using e)));rw[d]at a;have f:=XR a.symm;have g:=Lib.indexByte_ge l c;omega
def Es(s:Zk)(k){b}(h:b∈(s.extract k s.size).data.toList):b∈s.data.toList:=by (have e:(s.extract k s.size).data=s.data.extract k s.size:=by simp);rw[e,Array.toList_extract]at h;exact List.mem_of_mem_drop (List.mem_of_mem_take h)
def Et(r:Int)(w:x6):ap fs 194 #[.int .i32 r] w (.bool (Utf8.valid r)):=by
 by_cases c:0<=r
 .by_cases b:r<55296
  ·(have a:Hid (Utf8.valid r=true):=by unfold Hid Utf8.valid;simp;omega);go_enter (n194 L),Tryz.ntmps194;go_wp2;go_ret;exact⟨by rw[a.o];rfl,rfl⟩
  have d:decide (r<55296)=false:=UN b;by_cases f:57343<r
  .by_cases g:r<=1114111
   ·(have a:Hid (Utf8.valid r=true):=by unfold Hid Utf8.valid;simp;omega);go_enter (n194 L),Tryz.ntmps194;go_wp2;go_ret;exact⟨by rw[a.o];rfl,rfl⟩
   (have a:Hid (Utf8.valid r=false):=by unfold Hid Utf8.valid;simp;omega);go_enter (n194 L),Tryz.ntmps194;go_wp2;go_ret;exact⟨by rw[a.o];rfl,rfl⟩
  have a:Hid (Utf8.valid r=false):=by unfold Hid Utf8.valid;simp;omega
  go_enter (n194 L),Tryz.ntmps194;go_wp2;go_ret;exact⟨by rw[a.o];rfl,rfl⟩
 have a:Hid (Utf8.valid r=false):=by unfold Hid Utf8.valid;simp;omega
 go_enter (n194 L),Tryz.ntmps194;go_wp2;go_ret;exact⟨by rw[a.o];rfl,rfl⟩
def tY(s:Zk)(r:Int)(w:x6)(C:∀(j:Nat) b,s.data.toList[j]? =some b->b.toNat<128)(hz:s.size<=1000)(H:128<=r)(h2:r<=2147483647):ac fs 175 #[.string s,.int .i32 r] w (.i (-1)):=by
 have Te:=Te L;have Tf:=Tf L;have c:=Et L r w;have HS:=jj C;clear C;have I:decide (r<128)=false:=UN (by omega);by_cases D:r=65533
 .subst D;clear c;go_enter (n175 L),Tryz.ntmps175;go_wp2
  go_loopg [5,6] s.size (λg _ _ wx=>∃i:Nat,i+g=s.size/\wx=w.iter s i)
  case atStart=>exact⟨0,by omega,rfl⟩
  case round=>
   obtain⟨i,J,rfl⟩:=hrel;cases gk with
   |zero=>(obtain rfl:i=s.size:=by omega);have l:=λty=>run_next_end (P:=Qs fs) w s s.size ty (by omega);go_wp2;go_ret;exact⟨rfl,xF w s _⟩
   |succ g=>(have n:i<s.size:=by omega);(obtain⟨x,a⟩:∃x:UInt8,s[i]'n=x:=⟨_,rfl⟩);(have d:x.toNat<128:=HS.o i x (by rw[<-a];exact Lib.data_getElem? s i n);have l:=λty=>run_next_ascii (P:=Qs fs) w s i ty n (by rw[a];exact d);rw[a]at l;have K:((x.toNat:Int)==65533)=false:=by rw[Ve];omega);clear a;go_wp2;(go_roundg g);(case measure=>omega);case rel=>exact⟨i+1,by omega,rfl⟩
 have M:(r==65533)=false:=by rw[Ve];exact D
 cases m:Utf8.valid r with
 |false=>rw[m]at c;clear m;go_enter (n175 L),Tryz.ntmps175;go_wp2_with (go_at_call 194;refine c.mono ?_;clear c;rintro e w2 ⟨rfl,rfl⟩);go_ret;exact⟨rfl,Below.refl _ _⟩
 |true=>
  obtain⟨N,O,o⟩:=encode_facts r m H;have p:=λw=>run_convert_int_string (P:=Qs fs) w 21 9 .i32 r (by rw[aJ];rfl) (by rw[aJ];exact Tryz.underlying9);obtain⟨t,q⟩:=ex (Utf8.encode r);rw[<-q]at N O p;simp only[<-q]at o;obtain⟨k,E⟩:∃k,t.size=k+1:=⟨t.size-1,by omega⟩
  have f:k<t.size:=by omega
  have Q:128<=(t[k]'f).toNat:=by have:=o (by omega);simpa[E]using this
  clear o q;rw[m]at c;clear m;have R:IntKind.i64.wrap ((t.size:Int)-1)=k:=by rw[E];exact(wrap_i64 _ (by omega)).trans (by omega)
  go_enter (n175 L),Tryz.ntmps175;go_wp2_with (go_at_call 194;refine c.mono ?_;clear c;rintro e w2 ⟨rfl,rfl⟩)
  go_step3
  go_wp2;have v:=λu wx=>Er L u ((t[k]'f).toNat:Int) wx;go_loopw [9] (λz wr=>z=.i k/\wr=w2) (λ_ _=>0);case atStart=>exact⟨rfl,rfl⟩
  case round=>
   obtain⟨rfl,rfl⟩:=hrel;obtain hks|hks:=UK k s.size
   .obtain⟨x,a⟩:=ex (s[k]'hks);(obtain⟨y,A⟩:=ex (t[k]'f);have S:x.toNat<128:=HS.o k x (by rw[a];exact Lib.data_getElem? s k hks);rw[<-A]at Q v;have T:((x.toNat:Int)!=(y.toNat:Int))=true:=by rw[WO];omega);(have F:(k:Int)<(s.size:Int):=by omega);(have G:(k:Int)<(t.size:Int):=by omega);(have U:IntKind.i64.wrap ((k:Int)+1)=(k:Int)+1:=wrap_i64 _ (by omega);have V:(k:Int)+1<=(s.size:Int):=by omega);(have W:(0:Int)<=(k:Int)+1:=by omega);(have X:s[k]=x:=a.symm;have Y:t[k]=y:=A.symm;have B:∀wx,ap fs 193 #[.string (s.extract (k+1) s.size),.int .u8 y.toNat] wx (.i (-1)):=λwx=>by have h:=v (s.extract (k+1) s.size) wx;rw[show((y.toNat:Int)).toNat.toUInt8=y by simp,indexByte_none _ y (λb Z e=>by subst e;obtain⟨j,hj⟩:=V8.1 (Es s (k+1) Z);have:=HS.o j b hj;omega)]at h;exact h);clear a A v;go_wp2
    (go_step3);go_wp2;go_quiet (fail);go_wp2;go_quiet ((go_at_call 193;exact(B _).mono λe w' h=>⟨h.1,_,h.2⟩));go_wp2;simp(config:={zetaDelta:=true}) only [Exit.noGoto_ret,Exit.inBlock,Exit.then];go_ret;exact⟨rfl,(Below.refl _ _).gX _⟩
   go_wp2;rw[Exit.noGoto_ret];go_ret;exact⟨rfl,Below.refl _ _⟩
def sG(s:Zk)(r:Int)(w:x6)(a:0<=r)(b:r<128):ap fs 175 #[.string s,.int .i32 r] w (.i (Lib.indexByte s.data.toList r.toNat.toUInt8)):=Any.strings_IndexRune_ascii {(j7 L).1 with} s r w a b
def qk(L:bR fs)(n w):ap fs 176 #[.i n] w (.bool (decide (8<n))):=Any.strings_shouldUseASCIISet {(j7 L).1 with} n w
def kC{w w' B k pos s}(h:Below B w w')(b:B<=k):Below B w (w'.iterAt k s pos):=
 ⟨h.os,h.tape,h.output,by simp[World.iterAt,h.size],λi a=>by
  have:k≠i:=by omega
  simp[World.iterAt,UU this,h.block i a]⟩
def Cm(s pos)(h:pos<s.size)(d:128<=(s[pos]'h).toNat):pos+(Utf8.decode s pos).2<=s.size/\∀j,j<(Utf8.decode s pos).2->128<=(s.get! (pos+j)).toNat:=by (have c:128<=(s.get! (pos+0)).toNat:=by rw[get_at s pos h];exact d);(have e:¬(s.get! (pos+0)).toNat<128:=by omega);(have one:∀j,j<1->128<=(s.get! (pos+j)).toNat:=λj a=>by (obtain rfl:j=0:=by omega);exact c);simp only[Utf8.decode,e,U5];split;rename_i b;simp only[UT,VA,U3]at b;split;refine⟨by omega,λj a=>?_⟩;(match j,a with|0,_=>exact c|1,_=>omega);exact⟨by omega,one⟩;split;rename_i b;simp only[UT,VA,U3]at b;split;refine⟨by omega,λj a=>?_⟩;(match j,a with|0,_=>exact c|1,_=>omega|2,_=>omega);exact⟨by omega,one⟩;split;rename_i b;simp only[UT,VA,U3]at b;split;refine⟨by omega,λj a=>?_⟩;(match j,a with|0,_=>exact c|1,_=>omega|2,_=>omega|3,_=>omega);exact⟨by omega,one⟩;exact⟨by omega,one⟩
def Ha{s a i n}(h:Lib.NoAny s a i)(f:∀c∈a,c.toNat<128)(g:∀j b,j<n->s[i+j]? =some b->128<=b.toNat):Lib.NoAny s a (i+n):=by intro j b k e;obtain h1|h1:=UK j i;exact h j b h1 e;have:=g (j-i) b (by omega) (by rw[show i+(j-i)=j by omega];exact e);cases d:a.contains b with|false=>rfl|true=>have:=f b (by simpa using d);omega
def tZ(s a:Zk)(w:x6)(h2:2<=a.size)(h8:s.size<=8)(A:a.size<=1000)(U:∀(j:Nat) b,a.data.toList[j]? =some b->b.toNat<128):ac fs 165 #[.string s,.string a] w (.i (Lib.indexAny s.data.toList a.data.toList)):=by
 have S9:=S9 L;have Ta:=Ta L;have V:a.toList.isEmpty=false:=by rw[Lib.toList_data];cases h:a.data.toList with|nil=>have:=Lib.size_eq a;rw[h,UZ]at this;omega|cons _ _=>rfl
 have aa:((a.size:Int)==1)=false:=Ve.2 (by omega);have Q:=qk L (s.size:Int) w;rw[UN (by omega)]at Q;have HS:=jj U;clear U;go_enter (n165 L),Tryz.ntmps165;go_wp2_with (go_at_call 176;refine Q.mono ?_;clear Q;rintro e w2 ⟨rfl,rfl⟩);obtain⟨N,O⟩:=ex (w2.heap.size);have R:Hid ((w2.iter s 0).heap[N]? =some (.stringIter s 0)):=by rw[O];exact World.iter_heap w2 s 0
 rw[<-O];have o:=jj O;clear O
 go_loopg [9,10] s.size (λg _ _ F=>∃i:Nat,s.size<=i+g/\i<=s.size/\F.heap[N]? =some (.stringIter s i)/\Lib.NoAny s.data.toList a.data.toList i/\Below N w2 F)
 case atStart=>exact⟨0,by omega,UP _,R.o,Lib.NoAny.zero _ _,by rw[o.o];exact xF w2 s 0⟩
 case round=>
  obtain⟨i,ab,ad,hit,I,y⟩:=hrel;have J:=jj I;have G:=jj y;have K:N<wr.heap.size:=(UO.1 hit).1;clear I y;cases gk with
  |zero=>(obtain rfl:i=s.size:=by omega);have l:=λty=>Lib.run_next_end_at (P:=Qs fs) wr N s s.size ty hit (by omega);go_wp2;go_ret;exact⟨by rw[Lib.indexAny_none (by rw[<-Lib.size_eq];exact J.o)];rfl,by have:=G.o;rwa[o.o]at this⟩
  |succ g=>
   (have u:i<s.size\/i=s.size:=by omega);obtain u|rfl:=u
   ·(obtain⟨x,H⟩:∃x:UInt8,s[i]'u=x:=⟨_,rfl⟩);(have B:s.data.toList[i]? =some x:=by rw[<-H];exact Lib.data_getElem? s i u);have W:=jj B;by_cases C:x.toNat<128
    .have l:=λty=>Lib.run_next_ascii_at (P:=Qs fs) wr N s i ty hit u (by rw[H];exact C)
     rw[H]at l;have d:=Lib.contains_iff_indexByte a.data.toList x;have t:=λF=>sG L a (x.toNat:Int) F (by omega) (by omega);rw[show((x.toNat:Int)).toNat.toUInt8=x by simp]at t;have f:=Lib.iterAt_heap wr N s i (i+1) hit;have D:=jj f;clear hit f B H;cases m:a.data.toList.contains x with
     |false=>rw[m]at d;have v:¬((0:Int)<=Lib.indexByte a.data.toList x):=XR d.symm;have E:=jj m;clear d m;obtain⟨z,A⟩:=ex (Lib.indexByte a.data.toList x);rw[<-A]at v t;clear A;go_wp2_with (go_at_call 175;refine(t _).mono ?_;clear t;rintro e w3 ⟨rfl,rfl⟩);(go_roundg g);(case measure=>omega);case rel=>exact⟨i+1,by omega,by omega,D.o,Lib.NoAny.succ J.o W.o E.o,kC G.o (UI _)⟩
     |true=>rw[m]at d;have p:(0:Int)<=Lib.indexByte a.data.toList x:=Vl d.symm;have E:=jj m;clear d m;obtain⟨z,A⟩:=ex (Lib.indexByte a.data.toList x);rw[<-A]at p t;clear A;go_wp2_with (go_at_call 175;refine(t _).mono ?_;clear t;rintro e w3 ⟨rfl,rfl⟩);go_ret;exact⟨by rw[Lib.indexAny_hit J.o W.o E.o];rfl,by have:=kC (k:=N) (pos:=i+1) (s:=s) G.o (UI _);rwa[show Below N w2=Below w2.heap.size w2 by rw[o.o]]at this⟩
    have p:128<=(s[i]'u).toNat:=by rw[H];omega
    have l:=λty=>Lib.run_next_any_at (P:=Qs fs) wr N s i ty hit u;obtain⟨d1,d2⟩:=decode_high s i u p;obtain⟨d3,d4⟩:=Cm s i u p;have d5:=decode_le s i;obtain⟨r,X⟩:=ex ((Utf8.decode s i).1);obtain⟨n,Y⟩:=ex ((Utf8.decode s i).2);rw[<-X]at l d1 d5;rw[<-Y]at l d2 d3 d4;have q:Lib.NoAny s.data.toList a.data.toList (i+n):=Ha J.o (λc hc=>by
     obtain⟨j,S⟩:=V8.1 hc;exact HS.o j c S) (λj b S Z=>by
      have:=d4 j S;have v:i+j<s.size:=by omega
      have e:=get_at s (i+j) v;rw[VK]at e;rw[e]at this;rw[Lib.data_getElem? s (i+j) v]at Z;cases Z;exact this)
    have T:=jj q;have t:=λF=>tY L a (r:Int) F HS.o A (by omega) (by omega);have f:=Lib.iterAt_heap wr N s i (i+n) hit;have D:=jj f;clear hit f B H p X Y d4 q;go_wp2_with (go_at_call 175;refine(t _).mono ?_;clear t;rintro e w3 ⟨rfl,M⟩)
    (go_roundg g);(case measure=>omega);case rel=>exact⟨i+n,by omega,by omega,(M.block N (by simpa[World.iterAt]using K)).trans D.o,T.o,(kC G.o (UI _)).trans (M.mono (by have:=(kC (k:=N) (pos:=i+n) (s:=s) G.o (UI _)).size;have:=o.o;omega))⟩
   have l:=λty=>Lib.run_next_end_at (P:=Qs fs) wr N s s.size ty hit (by omega);go_wp2;go_ret;exact⟨by rw[Lib.indexAny_none (by rw[<-Lib.size_eq];exact J.o)];rfl,by have:=G.o;rwa[o.o]at this⟩
end Go.Proofs
namespace Go.Proofs
open Go.Tm Go.RowKit
variable {fs:Array Func} (L:bR fs)
def cs4:Zk:=⟨#[10,58,59,44]⟩
def At:∀(j:Nat) b,cs4.data.toList[j]? =some b->b.toNat<128:=by intro j b h;have a:b∈cs4.data.toList:=VC h;have:cs4.data.toList=[10,58,59,44]:=rfl;rw[this]at a;simp only[U8,Vf,Vh]at a;rcases a with rfl|rfl|rfl|rfl<;>decide
def Co(l):decide (0<=Lib.indexAny l cs4.data.toList)=l.any jH:=by induction l with|nil=>rfl|cons b l a=>(have c:cs4.data.toList.contains b=jH b:=by have:cs4.data.toList=[10,58,59,44]:=rfl;rw[this];unfold jH;simp only[List.contains_cons,List.contains_nil,Bool.or_false,Yn]);rw[Lib.indexAny,c,List.any_cons,<-a];have:=Lib.indexAny_ge cs4.data.toList l;cases jH b with|true=>simp|false=>simp only[U7,U5,Xu];by_cases h:Lib.indexAny l cs4.data.toList= -1;rw[h];rfl;rw[UG (by simpa using h)];rw[UQ (by omega),UQ (by omega)]
def Hd(s:Zk)(w:x6)(a:s.size<4294967281):ac fs 165 #[.string s,.string cs4] w (.i (Lib.indexAny s.data.toList cs4.data.toList)):=by obtain h|h:=UK 8 s.size;exact vT L s cs4 w (by decide) h a (by decide) At;exact tZ L s cs4 w (by decide) h (by decide) At
def zw(s:Zk)(w:x6)(d:s.size<4294967281):Calls (Qs fs) 135 #[.string s,.string cs4] w λe w'=>e=.returned (.bool (s.data.toList.any jH))/\Below w.heap.size w w':=by have SZ:=SZ L;have c:=Hd L s w d;have a:Hid _:=Co s.data.toList;obtain⟨z,b⟩:=ex (Lib.indexAny s.data.toList cs4.data.toList);rw[<-b]at c a;clear b;obtain⟨ch,hch⟩:=ex cs4;rw[<-hch]at c⊢;clear hch;go_enter (n135 L),Tryz.ntmps135;go_wp2_with (go_at_call 165;refine c.mono ?_;clear c;rintro e w2 ⟨rfl,f⟩);go_ret;exact⟨by rw[<-a.o];rfl,f⟩
def xH(s:Zk)(a:Int)(w:x6)(k:a<=1000):ac fs 99 #[.string s,.i a] w (.bool (bq s a)):=by
 have SM:=SM L;have e63:=e63 L;have c:=dY fs (n63 L) (s.size:Int) 1 a w;have i:Hid (bq s a=(aq s.size 1 a&& !s.data.toList.any jH)):=rfl;cases b:aq s.size 1 a with
 |false=>(have d:Hid (bq s a=false):=by rw[i.o,b];rfl);unfold aq at b;rw[b]at c;clear b;go_enter (n99 L),Tryz.ntmps99;go_wp2_with (go_at_call 63;refine c.mono ?_;clear c;rintro e w2 ⟨rfl,rfl⟩);go_ret;exact⟨by rw[d.o];rfl,Below.refl _ _⟩
 |true=>(have d:Hid (bq s a= !s.data.toList.any jH):=by rw[i.o,b];rfl);(unfold aq at b;rw[b]at c;have g:s.size<4294967281:=by rw[UT,U3,U3]at b;omega);clear b;have f:=zw L s w g;rw[show cs4=(⟨#[10,58,59,44]⟩:Zk)from rfl]at f;obtain⟨z,j⟩:=ex (s.data.toList.any jH);rw[<-j]at f d;clear j;go_enter (n99 L),Tryz.ntmps99;go_wp2_with (first|(go_at_call 63;refine c.mono ?_;clear c;rintro e w2 ⟨rfl,rfl⟩)|(go_at_call 135;refine f.mono ?_;clear f;rintro e w3 ⟨rfl,h⟩));go_ret;exact⟨by rw[d.o];rfl,h⟩
def Cq(w:x6)(v:Zj)(s:Zk):Prop:=∃g cap,v=.slice (some ⟨g,0,none⟩) s.size cap/\s.size<=cap/\∀j (h:j<s.size),w.cell? ⟨g,j,none⟩=some (.int .u8 (s[j]'h).toNat)
def Au(fs s w):∃v w',(convert 9 120 (.string s)).run (Qs fs) w=.ok v w'/\Cq w' v s/\Below w.heap.size w w':=by have h:=run_bytes_of_string (P:=Qs fs) w 9 120 5 s (by rw[aJ];exact Tryz.underlying9) (by rw[aJ];exact Tryz.underlying120) (by rw[aJ];exact Tryz.underlying5);refine⟨_,_,h,⟨w.heap.size,_,rfl,grownCap_ge _ _ _ _,λj a=>?_⟩,((Below.refl _ _).drew.alloc (UI _) _)⟩;exact cell_of_heap (w:=(w.drew.alloc _)) (b:=w.heap.size) Vm j _ (bytesRow_at s _ j a)
def Ew(f p v s w)(H:∀a w,(callFunc f a).run (Qs fs) w=.ok (.enter f a) w)(C:Cq w v s)(I:s.size<=1000000) (u:∀(c) wx,ap fs f (#[.int .u8 c.toNat]++#[]) wx (.bool (p c))):Calls (Qs fs) 143 #[v,.func (.func f) #[] #[]] w λe w'=>(∃z,e=.returned (.i z)/\decide (0<=z)=s.data.toList.any p)/\w'=w:=by
 obtain⟨g,cap,rfl,y,t⟩:=C;have D:=jj t;have m:∀(c:UInt8) wx,ap fs f #[.int .u8 c.toNat] wx (.bool (p c)):=u;have E:=jj m;clear t u m;go_enter (n143 L),Tryz.ntmps143;go_wp2;go_loopw [8] (λz wr=>∃j:Nat,j<=s.size/\z=.i j/\wr=w/\∀i (k:i<s.size),i<j->p s[i]=false) (λz _=>s.size-(intOf z).toNat);case atStart=>exact⟨0,UP _,rfl,rfl,λi k h=>by omega⟩
 case round=>
  obtain⟨j,J,rfl,rfl,n⟩:=hrel;have A:=jj n;clear n;obtain d|hge:=UK j s.size
  .have t:=D.o j d;(have o:=E.o (s[j]'d) wr;have F:(j:Int)<(s.size:Int):=by omega);obtain⟨x,q⟩:=ex (s[j]'d);rw[<-q]at t o;have B:=jj q;clear q;cases b:p x with|true=>rw[b]at o;have l:=jj b;clear b;go_wp2_with (go_at_fn f;refine o.mono ?_;rintro e w3 ⟨rfl,rfl⟩);go_ret;refine⟨⟨(j:Int),rfl,?_⟩,rfl⟩;rw[UQ (by omega),Wy,VO];exact⟨x,by rw[B.o];exact VC (Lib.data_getElem? s j d),l.o⟩|false=>rw[b]at o;have l:=jj b;clear b;go_wp2_with (go_at_fn f;refine o.mono ?_;rintro e w3 ⟨rfl,rfl⟩);refine⟨⟨j+1,by omega,by go_num,trivial,λi k G=>?_⟩,by simp[intOf];omega⟩;by_cases h:i<j;exact A.o i k h;(obtain rfl:i=j:=by omega);exact B.o▸l.o
  go_wp2;go_ret;refine⟨⟨-1,rfl,?_⟩,rfl⟩;rw[UN (by decide),Wy,WK];intro x q;obtain⟨i,k⟩:=V8.1 q;have r:i<s.size:=by have:=(Vt.1 k).1;rw[<-Lib.size_eq]at this;exact this
  rw[Lib.data_getElem? s i r]at k;cases k;rw[A.o i r (by omega)];exact Xn
def oU(f p v s w)(i:∀a w,(callFunc f a).run (Qs fs) w=.ok (.enter f a) w)(j:Cq w v s)(b:s.size<=1000000) (d:∀(c) g,ap fs f (#[.int .u8 c.toNat]++#[]) g (.bool (p c))):ap fs 120 #[v,.func (.func f) #[] #[]] w (.bool (s.data.toList.any p)):=by have SV:=SV L;have h:=Ew L f p v s w i j b d;clear d;go_enter (n120 L),Tryz.ntmps120;go_wp2_with (go_at_call 143;refine h.mono ?_;clear h;rintro e w2 ⟨⟨z,rfl,b⟩,rfl⟩;have k:=jj b;clear b);go_ret;exact⟨by rw[<-k.o];rfl,rfl⟩
def He(c:UInt8)(w:x6):Calls (Qs fs) 121 #[.int .u8 c.toNat] w λe w'=>e=.returned (.bool (!bh c))/\w'=w:=by have e91:=e91 L;have a:=nB fs (n91 L) (c.toNat:Int) w;have d:Hid (bh c=(decide (97<=(c.toNat:Int))&&decide ((c.toNat:Int)<=122))):=rfl;rw[<-d]at a;obtain⟨b,f⟩:=ex (bh c);rw[<-f]at a⊢;clear f d;go_enter (n121 L),Tryz.ntmps121;go_wp2_with (go_at_call 91;refine a.mono ?_;clear a;rintro e w2 ⟨rfl,rfl⟩);go_ret;exact⟨rfl,rfl⟩
def M9(c:UInt8)(w:x6):ap fs 136 #[.int .u8 c.toNat] w (.bool (!(bh c||jG c))):=by
 have e91:=e91 L;have a:=nB fs (n91 L) (c.toNat:Int) w;have f:bh c=(decide (97<=(c.toNat:Int))&&decide ((c.toNat:Int)<=122)):=rfl;rw[<-f]at a;have g:jG c=(decide (48<=(c.toNat:Int))&&decide ((c.toNat:Int)<=57)):=rfl;cases d:bh c with
 |true=>rw[d]at a;clear d f g;go_enter (n136 L),Tryz.ntmps136;go_wp2_with (go_at_call 91;refine a.mono ?_;clear a;rintro e w2 ⟨rfl,rfl⟩);go_ret;exact⟨rfl,rfl⟩
 |false=>
  rw[d]at a;have h:=jj g;clear d f g;by_cases i:(c.toNat:Int)<48
  ·(have b:Hid (jG c=false):=by rw[Hid,h.o];simp;omega);go_enter (n136 L),Tryz.ntmps136;go_wp2_with (go_at_call 91;refine a.mono ?_;clear a;rintro e w2 ⟨rfl,rfl⟩);go_ret;exact⟨by rw[b.o];rfl,rfl⟩
  have j:decide ((c.toNat:Int)<48)=false:=UN i;by_cases k:(57:Int)<(c.toNat:Int)
  ·(have b:Hid (jG c=false):=by rw[Hid,h.o];simp;omega);go_enter (n136 L),Tryz.ntmps136;go_wp2_with (go_at_call 91;refine a.mono ?_;clear a;rintro e w2 ⟨rfl,rfl⟩);go_ret;exact⟨by rw[b.o];rfl,rfl⟩
  have l:decide ((57:Int)<(c.toNat:Int))=false:=UN k;have b:Hid (jG c=true):=by rw[Hid,h.o];simp;omega
  go_enter (n136 L),Tryz.ntmps136;go_wp2_with (go_at_call 91;refine a.mono ?_;clear a;rintro e w2 ⟨rfl,rfl⟩);go_ret;exact⟨by rw[b.o];rfl,rfl⟩
def uU(l:List UInt8)(p):l.any (λc=> !p c)= !l.all p:=by induction l with|nil=>rfl|cons x l a=>rw[List.any_cons,W9,a,Bool.not_and]
def kN(s:Zk)(d a:Int)(w:x6)(o:a<=1000):ac fs 72 #[.string s,.i d,.i a] w (.bool (aZ s d a)):=by
 have Pw:=Pw L;have e63:=e63 L;have f:=dY fs (n63 L) (s.size:Int) d a w;have m:Hid (aZ s d a=(aq s.size d a&&s.data.toList.all bh)):=rfl;cases b:aq s.size d a with
 |false=>(have i:Hid (aZ s d a=false):=by rw[Hid,m.o,b];rfl);unfold aq at b;rw[b]at f;clear b;go_enter (n72 L),Tryz.ntmps72;go_wp2_with (go_at_call 63;refine f.mono ?_;clear f;rintro e w2 ⟨rfl,rfl⟩);go_ret;exact⟨by rw[i.o];rfl,Below.refl _ _⟩
 |true=>(have i:Hid (aZ s d a=s.data.toList.all bh):=by rw[Hid,m.o,b];rfl);(unfold aq at b;rw[b]at f;have k:s.size<=1000000:=by rw[UT,U3,U3]at b;omega);clear b;obtain⟨v,w1,p,g,h⟩:=Au fs s w;have l:=jj h;have j:=oU L 121 (λc=> !bh c) v s w1 (Uh L) g k (λc q=>He L c q);rw[uU]at j;obtain⟨z,n⟩:=ex (s.data.toList.all bh);rw[<-n]at j i;clear n g h;go_enter (n72 L),Tryz.ntmps72;go_wp2_with (first|(go_at_call 63;refine f.mono ?_;clear f;rintro e w2 ⟨rfl,rfl⟩)|(go_at_call 120;refine j.mono ?_;clear j;rintro e w3 ⟨rfl,rfl⟩));go_ret;exact⟨by rw[i.o];simp,l.o⟩
def Jx(s:Zk)(w:x6):ac fs 102 #[.string s] w (.bool (dK s)):=by
 have Pw:=Pw L;have e63:=e63 L;have e91:=e91 L;have g:=dY fs (n63 L) (s.size:Int) 1 10 w;have r:Hid (dK s=(aq s.size 1 10&&(s.data.toList.head?.any bh)&&s.data.toList.all λc=>bh c||jG c)):=rfl;cases b:aq s.size 1 10 with
 |false=>(have d:Hid (dK s=false):=by rw[Hid,r.o,b];rfl);unfold aq at b;rw[b]at g;clear b;go_enter (n102 L),Tryz.ntmps102;go_wp2_with (go_at_call 63;refine g.mono ?_;clear g;rintro e w2 ⟨rfl,rfl⟩);go_ret;exact⟨by rw[d.o];rfl,Below.refl _ _⟩
 |true=>(have d:(dK s=((s.data.toList.head?.any bh)&&s.data.toList.all λc=>bh c||jG c)):=by rw[r.o,b];rfl);(unfold aq at b;rw[b]at g;have m:1<=s.size/\s.size<=1000000:=by rw[UT,U3,U3]at b;omega);(clear b;have n:0<s.size:=by omega);(obtain⟨x,o⟩:=ex (s[0]'n);have a:s.data.toList.head?.any bh=bh x:=by have u:=Lib.data_getElem? s 0 n;rw[List.head?_eq_getElem?,u,o];rfl);rw[a]at d;have h:=λp=>nB fs (n91 L) (x.toNat:Int) p;have i:bh x=(decide (97<=(x.toNat:Int))&&decide ((x.toNat:Int)<=122)):=rfl;rw[<-i]at h;have y:s[0]'n=x:=o.symm;clear i a o;cases f:bh x with|false=>rw[f]at h d;have HV:=jj d;clear d f;go_enter (n102 L),Tryz.ntmps102;go_wp2_with (first|(go_at_call 63;refine g.mono ?_;clear g;rintro e w2 ⟨rfl,rfl⟩)|(go_at_call 91;refine(h _).mono ?_;clear h;rintro e w3 ⟨rfl,rfl⟩));go_ret;exact⟨by rw[HV.o];rfl,Below.refl _ _⟩|true=>rw[f]at h d;have HV:=jj d;clear d f;obtain⟨v,w1,A,j,k⟩:=Au fs s w;have q:=jj k;have l:=oU L 136 (λc=> !(bh c||jG c)) v s w1 (Ui L) j m.2 (λc p=>M9 L c p);rw[uU _ (λc=>bh c||jG c)]at l;obtain⟨z,t⟩:=ex (s.data.toList.all (λc=>bh c||jG c));rw[<-t]at l HV;clear t j k;go_enter (n102 L),Tryz.ntmps102;go_wp2_with (first|(go_at_call 63;refine g.mono ?_;clear g;rintro e w2 ⟨rfl,rfl⟩)|(go_at_call 91;refine(h _).mono ?_;clear h;rintro e w3 ⟨rfl,rfl⟩)|(go_at_call 120;refine l.mono ?_;clear l;rintro e w3 ⟨rfl,rfl⟩));go_ret;exact⟨by rw[HV.o];simp,q.o⟩
def Lx(i a y b)(h:aU a b+1=aU a (y::b)):bf i a (y::b)=((i:Int),0,codeOf y)::bf i a b:=by cases a with|nil=>rw[bf]|cons x a=>rw[bf,UG (by omega),UH h]
def IV(i x)(a b:Bs)(d:∀y c,b=y::c->aU (x::a) c+1≠aU (x::a) b)(h:aU a b+1=aU (x::a) b):bf i (x::a) b=((i:Int),1,0)::bf (i+1) a b:=by cases b with|nil=>rw[bf]|cons y b=>rw[bf,UG (by omega),UG (d y b rfl),UH h]
def IW(a b)(c:aU a b≠0)(f:∀y d,b=y::d->aU a d+1≠aU a b)(g:∀x e,a=x::e->aU e b+1≠aU a b):a≠[]/\b≠[]:=by constructor;rintro rfl;(cases b with|nil=>exact c (ft [])|cons y b=>exact f y b rfl (by rw[ft,ft];rfl));rintro rfl;cases a with|nil=>exact c (ft [])|cons x a=>exact g x a rfl (by rw[il,il];rfl)
def IX(i x y)(a b:Bs)(c:aU (x::a) (y::b)≠0)(d:aU (x::a) b+1≠aU (x::a) (y::b))(e:aU a (y::b)+1≠aU (x::a) (y::b)):bf i (x::a) (y::b)=if x=y then bf (i+1) a b else((i),2,codeOf y)::bf (i+1) a b:=by rw[bf,UG c,UG d,UG e];by_cases h:x=y;rw[UG (λg=>g h),UH h];rw[UH h,UG h]
def qW(l:List Ed):List Zj:=l.flatMap λe=>[.i e.1,.i e.2.1,.int .u8 e.2.2]
def IY(l e):qW (l++[e])=qW l++[.i e.1,.i e.2.1,.int .u8 e.2.2]:=by unfold qW;rw[W5];rfl
def RR:((Tryz.prog).info? 96).map (λi=>(i.zero,i.size,i.bytes))=some (some (.agg #[.i 0,.i 0,.int .u8 0]),3,24):=by kernel_rfl
def Ow(fs):((Qs fs).info? 96).map (λi=>(i.zero,i.size,i.bytes))=some (some (.agg #[.i 0,.i 0,.int .u8 0]),3,24):=RR
def jK.keep{w wr w' a b q p}(h:jK w wr a b q p)(c:Below (w.heap.size+1) wr w'):jK w w' a b q p:=⟨h.row.of_block (c.block _ (by omega)),h.below.trans (c.mono (by omega))⟩
def tq{w:x6}{B B' e k v n xs}(h:w.ownsRow B' e k v n xs)(i:B<=B'):w.ownsRow B e k v n xs:=by refine⟨h.1,?_⟩;obtain b|⟨g,cap,a,c,j,d,f⟩:=h.2;exact .inl b;exact .inr ⟨g,cap,a,c,by omega,d,f⟩
def ns(a b:Zk):Int:=if 48<a.size\/48<b.size then 2 else if a.data.toList.all bh&&b.data.toList.all bh then 0 else 3
def jq(a b:Zk):List Ed:=if ns a b=0 then kj a.data.toList b.data.toList else[]
def Dm(s):aZ s 0 s.size=s.data.toList.all bh:=by unfold aZ aq;simp
def JN(a b:Zk)(w:x6)(b5:a.size<1000000)(b6:b.size<1000000):Calls (Qs fs) 29 #[.string a,.string b] w λe w'=>∃v,e=.returned (.tuple #[v,.i (ns a b)])/\w'.ownsRow w.heap.size 96 3 v (jq a b).length (qW (jq a b))/\Below w.heap.size w w':=by
 have e72:=e72 L;have e73:=e73 L;by_cases W:48<a.size\/48<b.size
 .have hF:ns a b=2:=UH W;have hR:jq a b=[]:=by unfold jq;rw[hF];rfl
  have O:Hid (ns a b=2/\jq a b=[]):=⟨hF,hR⟩
  clear hF hR;obtain h1|h1:=UK 48 a.size
  ·(have g1:(48:Int)<(a.size:Int):=by omega);clear W h1;go_enter (n29 L),Tryz.ntmps29;go_wp2
   (go_ret2);exact⟨_,by rw[O.o.1];rfl,by rw[O.o.2];exact World.ownsRow_nil _ _ _ _,Below.refl _ _⟩
  have g1:decide ((48:Int)<(a.size:Int))=false:=UN (by omega);have g2:(48:Int)<(b.size:Int):=by omega
  clear W h1;go_enter (n29 L),Tryz.ntmps29;go_wp2
  go_ret2
  exact⟨_,by rw[O.o.1];rfl,by rw[O.o.2];exact World.ownsRow_nil _ _ _ _,Below.refl _ _⟩
 have g1:decide ((48:Int)<(a.size:Int))=false:=UN (by omega);have g2:decide ((48:Int)<(b.size:Int))=false:=UN (by omega);have q1:=λwx=>kN L a 0 a.size wx (by omega);have q2:=λwx=>kN L b 0 b.size wx (by omega);rw[Dm]at q1 q2;have HP:Hid (ns a b=if a.data.toList.all bh&&b.data.toList.all bh then 0 else 3):=UG W;have ba:a.size<=48:=by omega
 have bb:b.size<=48:=by omega
 clear W;cases E:a.data.toList.all bh with
 |false=>(rw[E]at q1;have O:Hid (ns a b=3/\jq a b=[]):=by (have h:ns a b=3:=by rw[HP.o,E];rfl);exact⟨h,by unfold jq;rw[h];rfl⟩);clear E;go_enter (n29 L),Tryz.ntmps29;go_wp2_with (go_at_call 72;refine(q1 _).mono ?_;clear q1;rintro e w2 ⟨rfl,F⟩);(go_ret2);exact⟨_,by rw[O.o.1];rfl,by rw[O.o.2];exact World.ownsRow_nil _ _ _ _,F⟩
 |true=>
  rw[E]at q1;cases M:b.data.toList.all bh with
  |false=>(rw[M]at q2;have O:Hid (ns a b=3/\jq a b=[]):=by (have h:ns a b=3:=by rw[HP.o,E,M];rfl);exact⟨h,by unfold jq;rw[h];rfl⟩);clear E M;go_enter (n29 L),Tryz.ntmps29;go_wp2_with (first|(go_at_call 72;refine(q1 _).mono ?_;clear q1;rintro e w2 ⟨rfl,F⟩)|(go_at_call 72;refine(q2 _).mono ?_;clear q2;rintro e w3 ⟨rfl,ad⟩));(go_ret2);exact⟨_,by rw[O.o.1];rfl,by rw[O.o.2];exact World.ownsRow_nil _ _ _ _,F.trans (ad.mono F.size)⟩
  |true=>
   (rw[M]at q2;have O:Hid (ns a b=0/\jq a b=kj a.data.toList b.data.toList):=by (have h:ns a b=0:=by rw[HP.o,E,M];rfl);exact⟨h,by unfold jq;rw[h];rfl⟩);(have ay:=λwx=>Jt L a b wx ba bb;obtain⟨i0,hi,P,Q,R⟩:=info_parts (Ow fs);have hA:=Lib.size_eq a;have hB:=Lib.size_eq b;have aK:∀q (h:q<a.size),a.data.toList.drop q=a[q]::a.data.toList.drop (q+1):=λq h=>drop_cons a q h;have aM:∀q (h:q<b.size),b.data.toList.drop q=b[q]::b.data.toList.drop (q+1):=λq h=>drop_cons b q h;obtain⟨A,aR⟩:=ex (a.data.toList);obtain⟨B,af⟩:=ex (b.data.toList);rw[<-aR]at hA aK;rw[<-af]at hB aM;rw[<-aR,<-af]at ay O;have m:Hid (a.size=A.length/\b.size=B.length):=⟨hA,hB⟩);(have HG:Hid ((∀q (h:q<a.size),A.drop q=a[q]::A.drop (q+1))/\(∀q (h:q<b.size),B.drop q=b[q]::B.drop (q+1))):=⟨aK,aM⟩);(have f:Hid (A.length<=48/\B.length<=48):=⟨by omega,by omega⟩);(have HL:Hid ((kj A B).length<=48):=by rw[Hid,zR A B (by rw[af];exact M)];have:=vw A B;omega);clear hA hB aR af aK aM E M HP;go_enter (n29 L),Tryz.ntmps29;go_wp2_with (first|(go_at_call 72;refine(q1 _).mono ?_;clear q1;rintro e w2 ⟨rfl,F⟩)|(go_at_call 72;refine(q2 _).mono ?_;clear q2;rintro e w3 ⟨rfl,ad⟩)|(go_at_call 73;refine(ay _).mono ?_;clear ay;rintro e w4 ⟨rfl,g⟩));have a1:Hid (Below w.heap.size w w3):=F.trans (ad.mono F.size);have bo:=jj g;clear F ad g;obtain⟨N,hN⟩:=ex (w3.heap.size);have HN:=jj hN;rw[<-hN];clear hN;go_loopw [7,8,9] (λv s8 s9 wr=>∃(vF:Zj) (i k:Nat) (K:List Ed),vF=v/\s8=.i i/\s9=.i k/\i<=A.length/\k<=B.length/\K++bf i (A.drop i) (B.drop k)=kj A B/\wr.ownsRow (w3.heap.size+1) 96 3 vF K.length (qW K)/\jK w3 wr A B 0 0) (λv s8 s9 _=>(A.length-(intOf s8).toNat)+(B.length-(intOf s9).toNat));case atStart=>exact⟨_,0,0,[],rfl,rfl,rfl,UP _,UP _,rfl,World.ownsRow_nil _ _ _ _,bo.o⟩
   case round=>
    (obtain⟨vF,i,k,K,rfl,rfl,rfl,X,ag,p,l,g⟩:=hrel;have HT:=jj p;have HO:Hid (wr.ownsRow (w3.heap.size+1) 96 3 vF K.length (qW K)/\jK w3 wr A B 0 0):=⟨l,g⟩);(have hd:=g.cell f.o.1 f.o.2 X ag (by omega);rw[<-HN.o]at hd;have bC:(i:Int)<49:=by have:=f.o;omega);(have b0:(k:Int)<49:=by have:=f.o;omega);have br:aU (A.drop i) (B.drop k)<=2000:=UJ (nF _ _) (by rw[UY,UY];have:=f.o;omega);obtain⟨D,hD⟩:=ex (aU (A.drop i) (B.drop k));rw[<-hD]at hd br;have HD:=jj hD;by_cases ak:D=0
    .subst ak;clear p l g hD;go_wp2
     (go_ret2);(have he:K=kj A B:=by have:=HT.o;rw[rM _ _ HD.o.symm,Lw,V7]at this;exact this);subst he;exact⟨_,by rw[O.o.1];rfl,by rw[O.o.2];exact tq HO.o.1 (by have:=a1.o.size;omega),a1.o.trans (HO.o.2.below.mono a1.o.size)⟩
    have bs:(0:Int)<(D:Int):=by omega
    have ar:=X;have S:=ag;have b1:w3.heap.size<wr.heap.size:=g.row.lt;have G:Hid (∀(W0:x6),Below (w3.heap.size+1) wr W0->∀(o:Obj) (Y:Zj) (U:x6) (e:Ed) (i2 k2:Nat),i2<=A.length->k2<=B.length->bf i (A.drop i) (B.drop k)=e::bf i2 (A.drop i2) (B.drop k2)->U.ownsRow (w3.heap.size+1) 96 3 Y (K.length+1) (qW K++[.i e.1,.i e.2.1,.int .u8 e.2.2])->(W0.alloc o).grownBy U vF.ownBlock->
     ∃s:List Ed,s++bf i2 (A.drop i2) (B.drop k2)=kj A B/\U.ownsRow (w3.heap.size+1) 96 3 Y s.length (qW s)/\jK w3 U A B 0 0):=by
     intro W0 a6 o Y U e i2 k2 h1 h2 h3 h4 h5;refine⟨K++[e],?_,?_,?_⟩
     .rw[<-HT.o,h3,V5];rfl
     .rw[IY,U6];exact h4
     .exact HO.o.2.keep ((a6.alloc (by have:=a6.size;omega) o).grown h5 (by have:=a6.size;simp;omega) (dS HO.o.1))
    (have H:Hid (K.length<=48):=by have h:=Vj List.length HT.o;rw[U6]at h;have:=HL.o;show K.length<=48;omega);by_cases T:k<b.size/\aU (A.drop i) (B.drop (k+1))+1=D
    .have I:=g.cell f.o.1 f.o.2 (r:=i) (k:=k+1) X (by have:=m.o;omega) (by omega);(rw[<-HN.o]at I;have hkb:(k:Int)<(b.size:Int):=by omega);(have b2:=T.1;have HE:Hid (bf i (A.drop i) (B.drop k)=((i:Int),0,codeOf b[k])::bf i (A.drop i) (B.drop (k+1))):=by rw[Hid,HG.o.2 k T.1];refine Lx i _ _ _ ?_;rw[<-HG.o.2 k T.1,<-HD.o];exact T.2);(have bk:=T.2;obtain⟨d1,z⟩:=ex (aU (A.drop i) (B.drop (k+1)));rw[<-z]at I bk;have hq:((d1:Int)==(D:Int)-1)=true:=by rw[VA];omega);(have Z:(k:Int)+1<49:=by have:=f.o;have:=m.o;omega);clear p g hD T z bk;go_wp2_with (at_builtin;refine wpList_append_own _ rfl _ _ 53 rfl (w3.heap.size+1) 96 i0 (.agg #[.i 0,.i 0,.int .u8 0]) 3 24 Tryz.underlying53 hi P Q R rfl (by decide) _ _ _ rfl (l.alloc _) ⟨_,0,none⟩ 1 1 [.i i,.i 0,.int .u8 (b[k].toNat:Int)] rfl rfl ?c1 ?c2 ?c3 ?c4 ?c5 ?_);(case c1=>intro j u C;rw[eE,UR];exact aC wr _ 96 j u (by simpa using C));(case c2=>intro u C;simp at C;rcases C with rfl|rfl|rfl<;>rfl);(case c3=>have:=H.o;unfold maxLen;omega);(case c4=>have:=H.o;omega);(case c5=>simp;omega);intro Y U c d _;obtain⟨s,z1,z2,z3⟩:=G.o _ (Below.refl _ wr) _ Y U ((i:Int),0,codeOf b[k]) i (k+1) ar (by have:=m.o;omega) HE.o c d;clear G l c d;go_wp2;exact⟨⟨_,i,k+1,s,rfl,rfl,by go_num,ar,by have:=m.o;omega,z1,z2,z3⟩,by simp[intOf];have:=m.o;omega⟩
    by_cases n:i<a.size/\aU (A.drop (i+1)) (B.drop k)+1=D
    .have e10:=g.cell f.o.1 f.o.2 (r:=i+1) (k:=k) (by have:=m.o;omega) ag (by omega);(rw[<-HN.o]at e10;have a7:(i:Int)<(a.size:Int):=by omega);(have b3:=n.1;have HE:Hid (bf i (A.drop i) (B.drop k)=((i:Int),1,0)::bf (i+1) (A.drop (i+1)) (B.drop k)):=by rw[Hid,HG.o.1 i n.1];refine IV i _ _ _ (λy b' hy he=>T ?_) ?_;(have hk:k<b.size:=by obtain h|h:=UK k b.size;exact h;rw[Vn (by have:=m.o;omega)]at hy;cases hy);have an:=hy;rw[HG.o.2 k hk]at an;injection an with _ an;subst an;rw[<-HG.o.1 i n.1,<-HD.o]at he;exact⟨hk,he⟩;rw[<-HG.o.1 i n.1,<-HD.o];exact n.2);(have aa:=n.2;obtain⟨d2,t⟩:=ex (aU (A.drop (i+1)) (B.drop k));rw[<-t]at e10 aa;have bx:((d2:Int)==(D:Int)-1)=true:=by rw[VA];omega);(have a8:(i:Int)+1<49:=by have:=f.o;have:=m.o;omega);obtain hkb|hkb:=UK k b.size
     .have I:=g.cell f.o.1 f.o.2 (r:=i) (k:=k+1) X (by have:=m.o;omega) (by omega);(rw[<-HN.o]at I;have J:aU (A.drop i) (B.drop (k+1))+1≠D:=λh=>T ⟨hkb,h⟩;obtain⟨d1,z⟩:=ex (aU (A.drop i) (B.drop (k+1)));rw[<-z]at I J;have hq:((d1:Int)==(D:Int)-1)=false:=by rw[Ve];omega);(have ax:(k:Int)<(b.size:Int):=by omega);(have Z:(k:Int)+1<49:=by have:=f.o;have:=m.o;omega);clear p g hD T z J n t aa;go_wp2_with (at_builtin;refine wpList_append_own _ rfl _ _ 53 rfl (w3.heap.size+1) 96 i0 (.agg #[.i 0,.i 0,.int .u8 0]) 3 24 Tryz.underlying53 hi P Q R rfl (by decide) _ _ _ rfl (l.alloc _) ⟨_,0,none⟩ 1 1 [.i i,.i 1,.int .u8 0] rfl rfl ?c1 ?c2 ?c3 ?c4 ?c5 ?_);(case c1=>intro j u C;rw[eE,UR];exact aC wr _ 96 j u (by simpa using C));(case c2=>intro u C;simp at C;rcases C with rfl|rfl|rfl<;>rfl);(case c3=>have:=H.o;unfold maxLen;omega);(case c4=>have:=H.o;omega);(case c5=>simp;omega);intro Y U c d _;obtain⟨s,z1,z2,z3⟩:=G.o _ (Below.refl _ wr) _ Y U ((i:Int),1,0) (i+1) k (by have:=m.o;omega) S HE.o c d;clear G l c d;go_wp2;exact⟨⟨_,i+1,k,s,rfl,by go_num,by go_num,(by have:=m.o;omega),S,z1,z2,z3⟩,by simp[intOf];have:=m.o;omega⟩
     have ax:decide ((k:Int)<(b.size:Int))=false:=UN (by omega);clear p g hD T n t aa;go_wp2_with (at_builtin;refine wpList_append_own _ rfl _ _ 53 rfl (w3.heap.size+1) 96 i0 (.agg #[.i 0,.i 0,.int .u8 0]) 3 24 Tryz.underlying53 hi P Q R rfl (by decide) _ _ _ rfl (l.alloc _) ⟨_,0,none⟩ 1 1 [.i i,.i 1,.int .u8 0] rfl rfl ?c1 ?c2 ?c3 ?c4 ?c5 ?_);(case c1=>intro j u C;rw[eE,UR];exact aC wr _ 96 j u (by simpa using C));(case c2=>intro u C;simp at C;rcases C with rfl|rfl|rfl<;>rfl);(case c3=>have:=H.o;unfold maxLen;omega);(case c4=>have:=H.o;omega);(case c5=>simp;omega);intro Y U c d _;obtain⟨s,z1,z2,z3⟩:=G.o _ (Below.refl _ wr) _ Y U ((i:Int),1,0) (i+1) k (by have:=m.o;omega) S HE.o c d;clear G l c d;go_wp2;exact⟨⟨_,i+1,k,s,rfl,by go_num,by go_num,(by have:=m.o;omega),S,z1,z2,z3⟩,by simp[intOf];have:=m.o;omega⟩
    have ao:=IW (A.drop i) (B.drop k) (by rw[<-HD.o];exact ak) (λy b' hy he=>T (by
     have hk:k<b.size:=by
      obtain h|h:=UK k b.size
      .exact h
      .rw[Vn (by have:=m.o;omega)]at hy;cases hy
     rw[HG.o.2 k hk]at hy;injection hy with _ hy;subst hy;rw[<-HD.o]at he;exact⟨hk,he⟩)) (λx a' hx he=>n (by
     have hk:i<a.size:=by
      obtain h|h:=UK i a.size
      .exact h
      .rw[Vn (by have:=m.o;omega)]at hx;cases hx
     rw[HG.o.1 i hk]at hx;injection hx with _ hx;subst hx;rw[<-HD.o]at he;exact⟨hk,he⟩))
    (have a7:i<a.size:=by obtain h|h:=UK i a.size;exact h;exact absurd (Vn (by have:=m.o;omega)) ao.1);(have hkb:k<b.size:=by obtain h|h:=UK k b.size;exact h;exact absurd (Vn (by have:=m.o;omega)) ao.2);(have J:aU (A.drop i) (B.drop (k+1))+1≠D:=λh=>T ⟨hkb,h⟩;have ab:aU (A.drop (i+1)) (B.drop k)+1≠D:=λh=>n ⟨a7,h⟩;have bm:Hid (bf i (A.drop i) (B.drop k)=if a[i]=b[k]then bf (i+1) (A.drop (i+1)) (B.drop (k+1))else((i:Int),2,codeOf b[k])::bf (i+1) (A.drop (i+1)) (B.drop (k+1))):=by have k1:=HG.o.1 i a7;have k2:=HG.o.2 k hkb;rw[HD.o,k1,k2]at J ab ak;rw[Hid,k1,k2];refine IX i _ _ _ _ ak ?_ ?_;rw[<-k1];exact(by rw[k1];exact J);rw[<-k2];exact(by rw[k2];exact ab));(have I:=g.cell f.o.1 f.o.2 (r:=i) (k:=k+1) X (by have:=m.o;omega) (by omega);have e10:=g.cell f.o.1 f.o.2 (r:=i+1) (k:=k) (by have:=m.o;omega) ag (by omega);rw[<-HN.o]at I e10;obtain⟨d1,z⟩:=ex (aU (A.drop i) (B.drop (k+1)));rw[<-z]at I J;obtain⟨d2,t⟩:=ex (aU (A.drop (i+1)) (B.drop k));rw[<-t]at e10 ab;have hq:((d1:Int)==(D:Int)-1)=false:=by rw[Ve];omega);(have bx:((d2:Int)==(D:Int)-1)=false:=by rw[Ve];omega);(have b4:(i:Int)<(a.size:Int):=by omega);(have ax:(k:Int)<(b.size:Int):=by omega);(have a8:(i:Int)+1<49:=by have:=f.o;have:=m.o;omega);(have Z:(k:Int)+1<49:=by have:=f.o;have:=m.o;omega);by_cases V:a[i]=b[k]
    ·(have bA:((a[i].toNat:Int)!=(b[k].toNat:Int))=false:=by rw[V];simp);(have bB:Hid (K++bf (i+1) (A.drop (i+1)) (B.drop (k+1))=kj A B):=by have h:=bm.o;rw[UH V]at h;rw[Hid,<-h];exact HT.o);clear p g l hD T z J ab n t ao V;go_wp2;go_quiet (fail);go_wp2;exact⟨⟨_,i+1,k+1,K,rfl,by go_num,by go_num,by have:=m.o;omega,by have:=m.o;omega,bB.o,HO.o.1,HO.o.2.drewN _⟩,by simp[intOf];have:=m.o;omega⟩
    (have bA:((a[i].toNat:Int)!=(b[k].toNat:Int))=true:=by rw[WO];intro h;exact V (XG.1 (by omega)));(have HE:Hid (bf i (A.drop i) (B.drop k)=((i:Int),2,codeOf b[k])::bf (i+1) (A.drop (i+1)) (B.drop (k+1))):=by have h:=bm.o;rw[UG V]at h;exact h);clear p g hD T z J ab n t ao V;go_wp2;go_quiet (fail);go_wp2_with (at_builtin;refine wpList_append_own _ rfl _ _ 53 rfl (w3.heap.size+1) 96 i0 (.agg #[.i 0,.i 0,.int .u8 0]) 3 24 Tryz.underlying53 hi P Q R rfl (by decide) _ _ _ rfl ((show World.ownsRow (wr.drewN nq) (w3.heap.size+1) 96 3 vF K.length (qW K)from l).alloc _) ⟨_,0,none⟩ 1 1 [.i i,.i 2,.int .u8 (b[k].toNat:Int)] rfl rfl ?c1 ?c2 ?c3 ?c4 ?c5 ?_);(case c1=>intro j u C;rw[eE,UR];exact aC (wr.drewN nq) _ 96 j u (by simpa using C));(case c2=>intro u C;simp at C;rcases C with rfl|rfl|rfl<;>rfl);(case c3=>have:=H.o;unfold maxLen;omega);(case c4=>have:=H.o;omega);(case c5=>simp;omega);intro Y U c d _;obtain⟨s,z1,z2,z3⟩:=G.o _ ((Below.refl _ wr).gX nq) _ Y U ((i:Int),2,codeOf b[k]) (i+1) (k+1) (by have:=m.o;omega) (by have:=m.o;omega) HE.o c d;clear G l c d;go_wp2;exact⟨⟨_,i+1,k+1,s,rfl,by go_num,by go_num,(by have:=m.o;omega),(by have:=m.o;omega),z1,z2,z3⟩,by simp[intOf];have:=m.o;omega⟩
end Go.Proofs
namespace Go.Proofs
open Go.Tm Go.RowKit Go.MapKept
def bS(w:x6)(b:Nat)(p:Zk->Bool):Prop:=∃es a,w.heap[b]? =some (.map es a)/\(∀e∈es.toList,∃s,e.key=.string s/\e.val=.bool true)/\∀s,p s=true↔∃e∈es.toList,e.key=.string s
def bS.new(w:x6):bS (w.alloc (.map #[] 0)) w.heap.size (λ_=>false):=⟨#[],0,Vm,λe a=>(by cases a),λs=>⟨λh=>(by cases h),λ⟨e,a,_⟩=>(by cases a)⟩⟩
def bS.keep{w w' b p}(h:bS w b p)(c:w'.heap[b]? =w.heap[b]?):bS w' b p:=by obtain⟨es,a,d,e,f⟩:=h;exact⟨es,a,c.trans d,e,f⟩
def bS.lt{w b p}(h:bS w b p):b<w.heap.size:=by obtain⟨es,a,c,_⟩:=h;exact(UO.1 c).1
def bS.iff{w b p q}(h:bS w b p)(c:∀s,p s=q s):bS w b q:=by obtain⟨es,a,d,e,f⟩:=h;exact⟨es,a,d,e,λs=>by rw[<-c];exact f s⟩
theorem oV(s):∀(es) (i),(∀e∈es,∃t,e.key=.string t/\e.val=.bool true)->(∃j,∃h,Instr.findNow .string (.string s) es i=some (some (i+j,.bool true))/\es[j].key=.string s)\/(Instr.findNow .string (.string s) es i=some none/\∀e∈es,e.key≠ .string s)
 | [],i,_=>.inr ⟨rfl,λe p=>(by cases p)⟩
 |e::es,i,h=>by
  obtain⟨t,k,q⟩:=h e (Ye ..);obtain⟨r,l,g⟩:=sameNow_of_keys (d:=.string) (a:=.string s) (b:=.string t) (by simp[IsKey]) (by simp[IsKey]);by_cases c:s=t
  .subst c
   rw[g.2 rfl]at l;refine .inl ⟨0,by simp,?_,k⟩;rw[Instr.findNow,k,l,q];rfl
  .have m:r=false:=by
    cases r with
    |false=>rfl
    |true=>have:=g.1 rfl;cases this;exact absurd rfl c
   rw[m]at l;have f:Instr.findNow .string (.string s) (e::es) i=Instr.findNow .string (.string s) es (i+1):=by rw[Instr.findNow,k,l]
   rw[f];obtain⟨j,u,n,o⟩|⟨n,o⟩:=oV s es (i+1) (λx hx=>h x (XM _ hx))
   .refine .inl ⟨j+1,by simpa using u,?_,by simpa using o⟩
    rw[n]
    congr 3
    omega
   .refine .inr ⟨n,λx hx=>?_⟩
    obtain rfl|hx:=U8.1 hx
    .rw[k]
     intro e;cases e;exact c rfl
    .exact o x hx
section
variable (fs:Array Func)
def Cr:(Qs fs).underlying 133=some (.map 9 4):=by rw[aJ];exact Tryz.underlying133
def Kr:(Qs fs).underlying 9=some .string:=by rw[aJ];exact Tryz.underlying9
def Tu(w):(zeroValue 4).run (Qs fs) w=.ok (.bool false) w:=by (rw[jF];have h:((Tryz.prog.info? 4).bind (·.zero))=some (.bool false):=by kernel_rfl);cases a:Tryz.prog.info? 4 with|none=>rw[a]at h;cases h|some i=>rw[a]at h;simp only[WR]at h;simp[zeroValue,typeInfo,a,h]
def ua{w b p}(h:bS w b p)(s):(Instr.lookup 133 (.map (some b)) (.string s) false).run (Qs fs) w=.ok (.bool (p s)) w:=by obtain⟨es,c,m,o,n⟩:=h;have a:=λe=>MapKept.run_checkKey (P:=Qs fs) (w:=w) (kt:=9) (k:=.string s) (Kr fs) (by simp[IsKey]) e 9999;obtain⟨j,q,d,f⟩|⟨d,f⟩:=oV s es.toList 0 o;have g:p s=true:=(n s).2 ⟨_,US q,f⟩;rw[g];simp[Instr.lookup,run_underlying (Cr fs),MapKept.run_getObj_map (P:=Qs fs) m,a,MapKept.run_findKey (P:=Qs fs) (w:=w) (Kr fs) d,Result.andThen];(have g:p s=false:=by cases i:p s with|false=>rfl|true=>obtain⟨e,r,l⟩:=(n s).1 i;exact absurd l (f e r));rw[g];simp[Instr.lookup,run_underlying (Cr fs),MapKept.run_getObj_map (P:=Qs fs) m,a,MapKept.run_findKey (P:=Qs fs) (w:=w) (Kr fs) d,Result.andThen,Tu]
def lh{w b p}(h:bS w b p)(s):∃w',(Instr.mapUpdate 133 (.map (some b)) (.string s) (.bool true)).run (Qs fs) w=.ok () w'/\bS w' b (λt=>p t||decide (t=s))/\(∀B,B<=b->Below B w w')/\ae w w':=by (obtain⟨es,m,n,E,C⟩:=h;have y:=λe=>MapKept.run_checkKey (P:=Qs fs) (w:=w) (kt:=9) (k:=.string s) (Kr fs) (by simp[IsKey]) e 9999;have far:∀o:Obj,(∀B,B<=b->Below B w {w with heap:=w.heap.setIfInBounds b o})/\ae w {w with heap:=w.heap.setIfInBounds b o}:=λo=>by (refine⟨λB M=>⟨rfl,rfl,rfl,by simp,λk q=>(heap_set n).2 k (by omega)⟩,λk c e f q=>?_⟩;have F:k≠b:=by rintro rfl;rw[n]at q;cases q);exact((heap_set n).2 k F).trans q);obtain⟨j,K,D,q⟩|⟨D,q⟩:=oV s es.toList 0 E;(have u:j<es.size:=by simpa using K);(have v:es[j].key=.string s:=by simpa using q);(rw[UR]at D;have G:(Instr.keyThatStays (.string s) (.string s)).run (Qs fs) w=.ok (.string s) w:=by (have L:Instr.sameBits 10000 (.string s) (.string s)=true:=by obtain⟨r,J,H⟩:=sameNow_of_keys (d:=.string) (a:=.string s) (b:=.string s) (by simp[IsKey]) (by simp[IsKey]);rw[H.2 rfl]at J;simpa[Instr.sameNow,Instr.sameBits]using J);simp[Instr.keyThatStays,L]);refine⟨{w with heap:=w.heap.setIfInBounds b (.map (es.modify j λe=>{e with key:=.string s,val:=.bool true}) m)},?_,⟨_,_,(heap_set n).1,?_,?_⟩,far _⟩;simp[Instr.mapUpdate,run_underlying (Cr fs),MapKept.run_getObj_map (P:=Qs fs) n,y,MapKept.run_findKey (P:=Qs fs) (w:=w) (Kr fs) D,Result.andThen,u,v,G,MapKept.run_setObj_map (P:=Qs fs) _ n];intro e he;obtain⟨i,g⟩:=V8.1 he;rw[VM,VF]at g;split at g;(cases z:es[i]? with|none=>rw[z]at g;cases g|some x=>rw[z]at g;cases g;exact⟨s,rfl,rfl⟩);exact E e (by rw[<-VM]at g;exact VC g);intro t;rw[Wl,U3];constructor;rintro(I|rfl);obtain⟨e,he,l⟩:=(C t).1 I;obtain⟨i,g⟩:=V8.1 he;rw[VM]at g;by_cases A:j=i;subst A;(have:es[j]=e:=by rw[Va u]at g;exact Vd g);rw[this,l]at v;refine⟨{e with key:=.string s,val:=.bool true},V8.2 ⟨j,?_⟩,v.symm⟩;rw[VM,VF,UH rfl,g];rfl;refine⟨e,V8.2 ⟨i,?_⟩,l⟩;rw[VM,VF,UG A,g];refine⟨{es[j]with key:=.string t,val:=.bool true},V8.2 ⟨j,?_⟩,rfl⟩;rw[VM,VF,UH rfl,Va u];rfl;rintro⟨e,he,l⟩;obtain⟨i,g⟩:=V8.1 he;rw[VM,VF]at g;split at g;(cases z:es[i]? with|none=>rw[z]at g;cases g|some x=>rw[z]at g;cases g;cases l;exact .inr rfl);exact .inl ((C t).2 ⟨e,by rw[<-VM]at g;exact VC g,l⟩);refine⟨{w with heap:=w.heap.setIfInBounds b (.map (es.push {key:=.string s,val:=.bool true,born:=m}) (m+1))},?_,⟨_,_,(heap_set n).1,?_,?_⟩,far _⟩;simp[Instr.mapUpdate,run_underlying (Cr fs),MapKept.run_getObj_map (P:=Qs fs) n,y,MapKept.run_findKey (P:=Qs fs) (w:=w) (Kr fs) D,Result.andThen,MapKept.run_setObj_map (P:=Qs fs) _ n];intro e he;rw[Yo]at he;obtain he|he:=Wn.1 he;exact E e he;cases Wd.1 he;exact⟨s,rfl,rfl⟩;intro t;rw[Wl,U3,Yo];constructor;rintro(I|rfl);obtain⟨e,he,l⟩:=(C t).1 I;exact⟨e,Xa _ he,l⟩;exact⟨_,Yp _ (Wd.2 rfl),rfl⟩;rintro⟨e,he,l⟩;obtain he|he:=Wn.1 he;exact .inl ((C t).2 ⟨e,he,l⟩);cases Wd.1 he;cases l;exact .inr rfl
end
def eJ(p:Bool×Int):Zj:=.agg #[.bool p.1,.i p.2]
def F8{p q}(h:eJ p=eJ q):p=q:=by unfold eJ at h;cases p;cases q;simp at h;simp[h.1,h.2]
section
variable (fs:Array Func)
def R2:(Qs fs).keyTypeAt 2 293=true:=by kernel_rfl
def OI:(Qs fs).tiled 2 293=true:=by kernel_rfl
def I5:(Qs fs).keyType 293=true:=by kernel_rfl
def OJ:∃F,(Qs fs).underlying 293=some (.struct F):=⟨_,(aJ _ _ _).trans Tryz.underlying293⟩
def uH:WideMaps.KeyLaw (Qs fs) 293:=by refine deep_law (m:=2) (by omega) (R2 fs) (OI fs) ?_;obtain⟨F,h⟩:=OJ fs;rw[h]
def F9:(Qs fs).cellsOf 293=2:=by kernel_rfl
def R3:(Qs fs).cellsOf 4=1:=by kernel_rfl
def R4:(Qs fs).cellsOf 3=1:=by kernel_rfl
def R5:293<(Qs fs).types.size:=Vl (by kernel_rfl)
def QM(b n)(h:(Lit.int .i64 n).wf=true)(d):(Qs fs).keyLits (d+2) 293 [.bool b,.int .i64 n]=some [.bool b,.int .i64 n]:=by have e:(Qs fs).underlying 4=some .bool:=(aJ _ _ _).trans Tryz.underlying4;have f:(Qs fs).underlying 3=some (.int .i64):=(aJ _ _ _).trans Tryz.underlying3;obtain⟨S,c⟩:=ex (Tryz.prog.underlying 293);have a:(Qs fs).underlying 293=S:=(aJ _ _ _).trans c.symm;rw[Tryz.underlying293]at c;subst c;simp[Program.keyLits,a,e,f,F9,R3,R4,h]
def tu(p)(h:(Lit.int .i64 p.2).wf=true):∃l,keyOf (Qs fs) 293 (eJ p)=some l:=by (obtain⟨F,a⟩:=OJ fs;obtain⟨d,b⟩:∃d,(Qs fs).types.size+1=d+2:=⟨(Qs fs).types.size-1,by have:=R5 fs;omega⟩);(have c:=QM fs p.1 p.2 h d;have e:(eJ p).formed (Qs fs) 293=true:=by simp[eJ,Value.formed,a,F9]);have f:(eJ p).cells.toList=[.bool p.1,.i p.2]:=rfl;unfold keyOf;rw[a];simp only[I5,e,Bool.and_self,UW,b,f,c,Vv];exact⟨_,rfl⟩
def uI:(Qs fs).underlying 291=some (.map 293 3):=by kernel_rfl
def Q9(w):(zeroValue 3).run (Qs fs) w=.ok (.i 0) w:=by (rw[jF];have h:((Tryz.prog.info? 3).bind (·.zero))=some (.i 0):=by kernel_rfl);cases a:Tryz.prog.info? 3 with|none=>rw[a]at h;cases h|some i=>rw[a]at h;simp only[WR]at h;simp[zeroValue,typeInfo,a,h]
end
def wfE(p:Bool×Int):Prop:=(Lit.int .i64 p.2).wf=true
structure Cnt(es:List MapEntry)(clock:Nat)(f:Bool×Int->Nat):Prop where
 ent:∀e∈es,∃p,wfE p/\e.key=eJ p/\e.val=.i (f p)/\e.born<clock
 born:(es.map (·.born)).Nodup
 keys:es.Pairwise λx y=>x.key≠y.key
 all:∀p,f p≠0->∃e∈es,e.key=eJ p
def fw(w:x6)(b:Nat)(f:Bool×Int->Nat):Prop:=∃es a,w.heap[b]? =some (.map es a)/\Cnt es.toList a f
def fw.new(w:x6):fw (w.alloc (.map #[] 0)) w.heap.size (λ_=>0):=⟨#[],0,Vm,⟨λe a=>(by cases a),List.nodup_nil,List.Pairwise.nil,λp b=>absurd rfl b⟩⟩
def fw.keep{w w' b f}(h:fw w b f)(c:w'.heap[b]? =w.heap[b]?):fw w' b f:=by obtain⟨es,a,d,e⟩:=h;exact⟨es,a,c.trans d,e⟩
def fw.lt{w b f}(h:fw w b f):b<w.heap.size:=by obtain⟨es,a,c,_⟩:=h;exact(UO.1 c).1
section
variable (fs:Array Func)
def Cnt.find{es a f}(h:Cnt es a f)(p)(i:wfE p)(w):((Instr.findKey 293 (eJ p) es).run (Qs fs) w=.ok none w/\(∀e∈es,e.key≠eJ p)/\f p=0)\/∃j e,(Instr.findKey 293 (eJ p) es).run (Qs fs) w=.ok (some (j,.i (f p))) w/\es[j]? =some e/\e.key=eJ p/\e.val=.i (f p):=by (obtain⟨l,k⟩:=tu fs p i;rcases(uH fs).find w k es (λe c=>by obtain⟨q,d,b,_⟩:=h.ent e c;rw[b];exact tu fs q d)with⟨h1,h2⟩|⟨j,e,h1,h2,h3⟩);refine .inl ⟨h1,h2,XK λm=>?_⟩;obtain⟨e,c,b⟩:=h.all p m;exact h2 e c b;obtain⟨q,d,b,g,_⟩:=h.ent e (VC h2);have:=F8 (b.symm.trans h3);subst this;exact .inr ⟨j,e,by rw[h1,g],h2,h3,g⟩
def tv{w b f}(h:fw w b f)(p)(g:wfE p):(Instr.lookup 291 (.map (some b)) (eJ p) false).run (Qs fs) w=.ok (.i (f p)) w:=by obtain⟨es,c,i,k⟩:=h;obtain⟨l,m⟩:=tu fs p g;have a:=λn=>(uH fs).check w n m;obtain⟨d,_,o⟩|⟨j,e,d,_⟩:=k.find fs p g w;rw[o];simp[Instr.lookup,run_underlying (uI fs),MapKept.run_getObj_map (P:=Qs fs) i,a,d,Result.andThen,Q9];simp[Instr.lookup,run_underlying (uI fs),MapKept.run_getObj_map (P:=Qs fs) i,a,d,Result.andThen]
def dN(w:x6)(b:Nat)(es:Array MapEntry)(a:Nat):x6:={w with heap:=w.heap.setIfInBounds b (.map es a)}
def di{w b es d g a}(i:w.heap[b]? =some (.map es g)):(dN w b d a).heap[b]? =some (.map d a)/\(∀k,k≠b->(dN w b d a).heap[k]? =w.heap[k]?)/\(∀B,B<=b->Below B w (dN w b d a))/\ae w (dN w b d a)/\(dN w b d a).heap.size=w.heap.size:=by (refine⟨(heap_set i).1,λk h=>(heap_set i).2 k h,λB l=>⟨rfl,rfl,rfl,by simp[dN],λk h=>(heap_set i).2 k (by omega)⟩,λk c e f h=>?_,by simp[dN]⟩;have j:k≠b:=by rintro rfl;rw[i]at h;cases h);exact((heap_set i).2 k j).trans h
def iQ(w:x6)(b:Nat)(p:Bool×Int)(st:Nat):Prop:=∃es a,w.heap[b]? =some (.map es a)/\∃(j:Nat) (e:MapEntry),es.toList[j]? =some e/\e.key=eJ p/\e.born=st
def LF{w b f}(h:fw w b f)(p)(r:wfE p):∃es d,∃st:Nat,(Instr.mapEntry 291 (.map (some b)) (eJ p)).run (Qs fs) w=.ok (.tuple #[.i (f p),.i st]) (dN w b es d)/\fw (dN w b es d) b f/\iQ (dN w b es d) b p st:=by obtain⟨es,d,g,i⟩:=h;obtain⟨l,z⟩:=tu fs p r;have m:=λB=>(uH fs).check w B z;have s:=(uH fs).stays w z;obtain⟨t,u,A⟩|⟨j,e,t,o,n,L⟩:=i.find fs p r w;refine⟨es.push ⟨eJ p,.i 0,d⟩,d+1,d,?_,⟨_,_,(di g).1,?_⟩,⟨_,_,(di g).1,es.size,⟨eJ p,.i 0,d⟩,by simp,rfl,rfl⟩⟩;rw[A];simp[Instr.mapEntry,run_underlying (uI fs),MapKept.run_getObj_map (P:=Qs fs) g,m,t,Result.andThen,Q9,MapKept.run_setObj_map (P:=Qs fs) _ g,dN,goInt];rw[Yo];refine⟨λx hx=>?_,?_,?_,λq C=>?_⟩;obtain hx|hx:=Wn.1 hx;obtain⟨q,D,E,F,G⟩:=i.ent x hx;exact⟨q,D,E,F,by omega⟩;cases Wd.1 hx;exact⟨p,r,rfl,by rw[A];rfl,by simp⟩;rw[WN];refine List.nodup_append.2 ⟨i.born,by simp,λa H c I e=>?_⟩;obtain⟨x,hx,rfl⟩:=VX.1 H;obtain⟨_,_,_,_,G⟩:=i.ent x hx;simp at I;omega;refine List.pairwise_append.2 ⟨i.keys,List.pairwise_singleton _ _,λx hx y J=>?_⟩;cases Wd.1 J;exact u x hx;obtain⟨e,K,n⟩:=i.all q C;exact⟨e,Xa _ K,n⟩;(have v:es[j]? =some e:=by simpa using o);(have k:es.modify j (λe=>{e with key:=eJ p})=es:=by (apply XE;rw[X6,ChangeMaps.modify_eq_set _ _ _ _ o];have:({e with key:=eJ p}:MapEntry)=e:=by rw[<-n]);rw[this];exact WideElems.set_self _ _ _ o);refine⟨es,d,e.born,?_,⟨_,_,(di g).1,i⟩,⟨_,_,(di g).1,j,e,o,n,rfl⟩⟩;simp[Instr.mapEntry,run_underlying (uI fs),MapKept.run_getObj_map (P:=Qs fs) g,m,t,v,n,s,k,Result.andThen,MapKept.run_setObj_map (P:=Qs fs) _ g,dN,goInt]
def kb(e:MapEntry):Zj×Nat:=(e.key,e.born)
def Cnt.shape{es a:List MapEntry}(h:a.map kb=es.map kb)(x)(c:x∈a):∃y∈es,y.key=x.key/\y.born=x.born:=by have b:kb x∈a.map kb:=VX.2 ⟨x,c,rfl⟩;rw[h]at b;obtain⟨y,d,e⟩:=VX.1 b;exact⟨y,d,Vj Prod.fst e,Vj Prod.snd e⟩
def vz{w b f p es}{a j:Nat}{e}(C:w.heap[b]? =some (.map es a))(m:Cnt es.toList a f)(c:es.toList[j]? =some e)(s:e.key=eJ p)(I:wfE p)(v:Nat):∃h,(Instr.entryStore 291 (.map (some b)) (.i e.born) (.i v)).run (Qs fs) w=.ok () (dN w b h a)/\Cnt h.toList a (λq=>if q=p then v else f q)/\h.toList.map kb=es.toList.map kb:=by (have J:es[j]? =some e:=by simpa using c);(have o:es.findIdx? (λx=>((x.born:Nat):Int)==((e.born:Nat):Int))=some j:=by rw[WideElems.findIdx_arr];exact WideElems.findIdx_born m.born c);refine⟨es.modify j (λx=>{x with val:=.i v}),?_,?_,by rw[X6,ChangeMaps.modify_eq_set _ _ _ _ c,List.map_set];refine WideElems.set_self _ _ _ ?_;rw[VL,c];rfl⟩;simp[Instr.entryStore,MapKept.run_getObj_map (P:=Qs fs) C,asInt,asIntOf,o,Result.andThen,MapKept.run_setObj_map (P:=Qs fs) _ C,dN];rw[X6,ChangeMaps.modify_eq_set _ _ _ _ c];(have r:j<es.toList.length:=(Vt.1 c).1;have mb:∀{K:Type} (g:MapEntry->K),g {e with val:=.i v}=g e->(es.toList.set j {e with val:=.i v}).map g=es.toList.map g:=λg L=>by rw[List.map_set,L];refine WideElems.set_self _ _ _ ?_;rw[VL,c];rfl);(have D:(es.toList.map (·.key)).Nodup:=by rw[List.Nodup,List.pairwise_map];exact m.keys);refine⟨λx t=>?_,by rw[mb (·.born) rfl];exact m.born,?_,λq E=>?_⟩;obtain⟨i,n⟩:=V8.1 t;rw[Xz]at n;split at n;rename_i k;subst k;simp only[r,UW,Vw]at n;subst n;obtain⟨q,F,u,G,z⟩:=m.ent e (VC c);exact⟨p,I,s,by simp,z⟩;rename_i k;(obtain⟨q,F,u,G,z⟩:=m.ent x (VC n);have d:q≠p:=by rintro rfl;refine k ((List.getElem?_inj (l:=es.toList.map (·.key)) (by simpa using r) D).1 ?_);rw[VL,VL,c,n];show some e.key=some x.key;rw[s,u]);exact⟨q,F,u,by rw[UG d];exact G,z⟩;have:=mb (·.key) rfl;(have H:((es.toList.set j {e with val:=.i v}).map (·.key)).Nodup:=by rw[this];exact D);rw[List.Nodup,List.pairwise_map]at H;exact H;(have M:∃x∈es.toList,x.key=eJ q:=by by_cases d:q=p;subst d;exact⟨e,VC c,s⟩;rw[UG d]at E;exact m.all q E);(obtain⟨x,t,A⟩:=M;have:x.key∈(es.toList.set j {e with val:=.i v}).map (·.key):=by rw[mb (·.key) rfl];exact VX.2 ⟨x,t,rfl⟩);obtain⟨y,N,B⟩:=VX.1 this;exact⟨y,N,B.trans A⟩
def LG{w b f p st}(h:fw w b f)(l:iQ w b p st)(m:wfE p)(v:Nat):∃es a,(Instr.entryStore 291 (.map (some b)) (.i st) (.i v)).run (Qs fs) w=.ok () (dN w b es a)/\fw (dN w b es a) b (λq=>if q=p then v else f q):=by obtain⟨es,a,g,n⟩:=h;obtain⟨o,d,c,j,e,r,s,i⟩:=l;rw[g]at c;cases c;subst i;obtain⟨k,a1,t,_⟩:=vz fs g n r s m v;exact⟨k,a,a1,_,_,(di g).1,t⟩
def I6{w b f p es a}(n:w.heap[b]? =some (.map es a))(r:Cnt es.toList a f)(o:wfE p)(s:f p≠0):∃(j:Nat) (e:MapEntry),(Instr.mapEntry 291 (.map (some b)) (eJ p)).run (Qs fs) w=.ok (.tuple #[.i (f p),.i e.born]) (dN w b es a)/\es.toList[j]? =some e/\e.key=eJ p:=by obtain⟨l,q⟩:=tu fs p o;have g:=λt=>(uH fs).check w t q;have h:=(uH fs).stays w q;obtain⟨_,_,i⟩|⟨j,e,u,d,k,v⟩:=r.find fs p o w;exact absurd i s;(have m:es[j]? =some e:=by simpa using d);(have c:es.modify j (λe=>{e with key:=eJ p})=es:=by (apply XE;rw[X6,ChangeMaps.modify_eq_set _ _ _ _ d];have:({e with key:=eJ p}:MapEntry)=e:=by rw[<-k]);rw[this];exact WideElems.set_self _ _ _ d);refine⟨j,e,?_,d,k⟩;simp[Instr.mapEntry,run_underlying (uI fs),MapKept.run_getObj_map (P:=Qs fs) n,g,u,m,k,h,c,Result.andThen,MapKept.run_setObj_map (P:=Qs fs) _ n,dN,goInt]
end
end Go.Proofs
namespace Go.Proofs
open Go.Tm Go.RowKit
variable {fs:Array Func} (L:bR fs)
def Rm(a b c):iJ [a,b,c]=if a≠0 then a else if b≠0 then b else c:=by simp only[iJ];by_cases d:a=0<;>by_cases e:b=0<;>by_cases f:c=0<;>simp[d,e,f]
def Rn(a b):iJ [a,b]=if a≠0 then a else b:=by simp only[iJ];by_cases c:a=0<;>by_cases d:b=0<;>simp[c,d]
def Ex(a b c:Int)(w:x6):Calls (Qs fs) 51 #[.slice (some ⟨w.heap.size,0,none⟩) 3 3] (w.alloc (.cells #[.i a,.i b,.i c] 29)) λe w'=>e=.returned (.i (if a≠0 then a else if b≠0 then b else c))/\w'=w.alloc (.cells #[.i a,.i b,.i c] 29):=by
 have h:=Cn L w.heap.size 0 3 [a,b,c] (w.alloc (.cells #[.i a,.i b,.i c] 29)) (by show 3<=_;decide) (λk d=>by
  rw[UR]
  match k,d with
  |0,_=>exact aC w _ 29 0 _ rfl
  |1,_=>exact aC w _ 29 1 _ rfl
  |2,_=>exact aC w _ 29 2 _ rfl)
 rw[Rm]at h;exact h
def du(a b:Int)(w:x6):Calls (Qs fs) 51 #[.slice (some ⟨w.heap.size,0,none⟩) 2 2] (w.alloc (.cells #[.i a,.i b] 29)) λe w'=>e=.returned (.i (if a≠0 then a else b))/\w'=w.alloc (.cells #[.i a,.i b] 29):=by
 have h:=Cn L w.heap.size 0 2 [a,b] (w.alloc (.cells #[.i a,.i b] 29)) (by show 2<=_;decide) (λk c=>by
  rw[UR]
  match k,c with
  |0,_=>exact aC w _ 29 0 _ rfl
  |1,_=>exact aC w _ 29 1 _ rfl)
 rw[Rn]at h;exact h
def lj{w w2 w3 a p}(d:∀B,B<=a->Below B w w2)(e:ae w w2)(b:bS w2 a p)(c:Below w2.heap.size w2 w3):bS w3 a p/\(∀B,B<=a->Below B w w3)/\ae w w3:=⟨b.keep (c.block a b.lt),λB f=>(d B f).trans (c.mono (by have:=b.lt;omega)),e.trans (ae.below c)⟩
def Cs(a:Bool)(p:Pr2):Int:=if !bq p.1 4 then 3 else if a then 5 else if !aZ p.2 1 3 then 3 else 0
def Hf(a b c):(if(if(!a)=true then(3:Int)else 0)≠0 then(if(!a)=true then(3:Int)else 0)else if(if b=true then(5:Int)else 0)≠0 then(if b=true then(5:Int)else 0)else(if(!c)=true then(3:Int)else 0))=if(!a)=true then 3 else if b=true then 5 else if(!c)=true then 3 else 0:=by cases a<;>cases b<;>cases c<;>rfl
def Ct(j:Int)(q:Pr2)(Y k:Nat)(p:Zk->Bool)(w:x6)(s:w.cell? ⟨Y,0,none⟩=some (.map (some k)))(F:bS w k p):Calls (Qs fs) 98 #[.i j,.agg #[.string q.1,.string q.2],.pointer (some ⟨Y,0,none⟩)] w λe w'=>e=.returned (.i (Cs (p q.1) q))/\bS w' k (λt=>p t||decide (t=q.1))/\(∀B,B<=k->Below B w w')/\ae w w':=by (have e99:=e99 L;have e52:=e52 L;have e72:=e72 L;have e51:=e51 L;obtain⟨w1,d⟩:=ex (w.alloc (.cells #[.string q.1,.string q.2] 46));have G:ae w w1:=by rw[d];exact ae.alloc _ _);(have H:Below w.heap.size w w1:=by rw[d];exact aH _ _);(have ct:∀i v,(#[.string q.1,.string q.2]:Zq)[i]? =some v->w1.cell? ⟨w.heap.size,i,none⟩=some v:=λi v h=>by rw[d];exact aC w _ 46 i v h);(obtain⟨N,I⟩:=ex (w.heap.size);have l:=F.keep (H.block k F.lt);have u:=ua fs l q.1;obtain⟨w2,J,y,z,a⟩:=lh fs l q.1;have b1:=G.cell s;have K:=ct 0 _ rfl;have M:=ct 1 _ rfl;rw[<-I]at K M;obtain⟨c,g⟩:=ex (p q.1);rw[<-g]at u;have HH:=jj g;have O:Hid ((∀B,B<=k->Below B w w2)/\ae w w2/\bS w2 k (λt=>p t||decide (t=q.1))):=⟨λB hB=>(H.mono (by have:=F.lt;omega)).trans (z B hB),G.trans a,y⟩);(have A:=a.cell K;have C:=a.cell M;have x0:=λx:al w2 w2=>x.cell A;have x1:=λx:al w2 w2=>x.cell C;have m:=λx:al w2 w2=>al.calls (xH L q.1 4 x.val (by decide));have n:=λx:al w2 w2=>al.calls (kN L q.2 1 3 x.val (by decide));have b:Hid (Cs c q=if(!bq q.1 4)=true then 3 else if c=true then 5 else if(!aZ q.2 1 3)=true then 3 else 0):=rfl;obtain⟨P,D⟩:=ex (bq q.1 4);obtain⟨Q,E⟩:=ex (aZ q.2 1 3);rw[<-D]at m b;rw[<-E]at n b;have R:=λx:al w2 w2=>al.same (en L (!P) 3 x.val);have S:=λx:al w2 w2=>al.same (en L c 5 x.val);have T:=λx:al w2 w2=>al.same (en L (!Q) 3 x.val);obtain⟨U,o⟩:∃f:Int,f=if(!P)=true then 3 else 0:=⟨_,rfl⟩);(obtain⟨fb,hfb⟩:∃f:Int,f=if c=true then 5 else 0:=⟨_,rfl⟩);(obtain⟨Z,r⟩:∃f:Int,f=if(!Q)=true then 3 else 0:=⟨_,rfl⟩);(rw[<-o]at R;rw[<-hfb]at S;rw[<-r]at T;have HF:Hid ((if U≠0 then U else if fb≠0 then fb else Z)=Cs c q):=by rw[Hid,b.o,o,hfb,r];exact Hf P c Q);(clear D E o hfb r b g;go_enter (n98 L),Tryz.ntmps98;go_upto_region 1 with fail;rw[<-d,<-I];clear d I ct G H l y z a F s;go_upto_region 3 with fail;clear u J b1 K M A C;refine bd (w0:=w2) (w1:=w2) 12 (by kernel_rfl) (by kernel_rfl) (ae.refl _) (Below.refl _ _) ?_;simp only[Vu,Vq,VB,Vy];haveI V:Nonempty (al w2 w2):=⟨⟨w2,ae.refl _,Below.refl _ _⟩⟩);(repeat (go_big_quiet_step (first|(go_at_call 99;exact m _)|(go_at_call 72;exact n _)|(go_at_call 52;exact R _)|(go_at_call 52;exact S _)|(go_at_call 52;exact T _))));(refine wpQuiet_nil ?_;rintro W ⟨⟨_,Sz,Bz⟩,rfl⟩;have X:=Ex L U fb Z W;rw[HF.o]at X;have SB:Hid _:=(⟨Sz,Bz⟩:ae w2 W/\Below w2.heap.size w2 W));clear m n R S T x0 x1 V Sz Bz;go_wp2_with (go_at_call 51;refine X.mono ?_;clear X;rintro e w3 ⟨rfl,rfl⟩);go_ret;refine⟨by rw[HH.o];rfl,?_⟩;exact O.o.1|>λh=>lj h O.o.2.1 O.o.2.2 (SB.o.2.alloc SB.o.2.size _)
theorem qE{b:Type}(chk:List b->b->Int)(l:List b)(c:Nat->Int)(h:∀j (d:j<l.length),c j=chk (l.take j) l[j]):∀n j,j+n=l.length->fv c n j=dZ chk (l.take j) (l.drop j)
 |0,j,d=>by rw[Vn (by omega)];rfl
 |n+1,j,d=>by
  have a:j<l.length:=by omega
  rw[WW a];unfold fv dZ;rw[h j a,qE chk l c h n (j+1) (by omega),WL a]
def Na{a:Type}{chk:List a->a->Int}{l:List a}{b:Nat->Int}(c d:Int)(h:∀j (e:j<l.length),b j=chk (l.take j) l[j]):xG c d b l.length=aI c d chk l:=by unfold xG aI;split;rw[qE chk l b h l.length 0 (by omega)];rfl;rfl
def xI{a:Type}(chk:List a->a->Int)(l:List a)(j:Nat):Int:=if h:j<l.length then chk (l.take j) l[j]else 0
def jx{a}(chk)(l:List a)(j)(h:j<l.length):xI chk l j=chk (l.take j) l[j]:=Wz h
def oe.p{g fs f a b c d n v w chk}{l:List g}(h:oe fs f a (xI chk l) b c d n v l.length w):Calls (Qs fs) n #[v,.i c,.i d,.func (.func f) #[] a] w λe w'=>e=.returned (.i (aI c d chk l))/\∃j,b j w':=by rw[<-Na c d λj i=>jx chk l j i];exact h
def mE{a:Type}(l:List a)(f j)(h:j<l.length):(l.take (j+1)).any f=((l.take j).any f||f l[j]):=by rw[WL h,List.any_append];simp
def lU(a b:Zk):decide (a=b)=decide (b=a):=by by_cases h:a=b;subst h;rfl;rw[UN h,UN (U4 h)]
def Ey{K:Nat->Prop}{v0 v1 v2:Zj}{l:List Pr2}(w:x6)(d:az K 2 dA w v0 l):ac fs 55 #[.agg #[v0,v1,v2]] w (.i (aI 0 12 letterF l)):=by
 have e97:=e97 L;obtain⟨g,a⟩:=ex (w.alloc (.cells #[v0,v1,v2] 100));obtain⟨i,b⟩:=ex (g.alloc (.map #[] 0));obtain⟨w1,c⟩:=ex (i.alloc (.cells #[.map (some (w.heap.size+1))] 133));have f:g.heap.size=w.heap.size+1:=by rw[a];simp
 have hsb:i.heap.size=w.heap.size+1+1:=by rw[b,<-f];simp
 have x:ae i w1:=by rw[c];exact ae.alloc _ _
 have v:ae g w1:=(by rw[b];exact ae.alloc _ _:ae g i).trans x;have y:ae w w1:=(by rw[a];exact ae.alloc _ _:ae w g).trans v;have z:Below w.heap.size w w1:=by rw[c,b,a];exact(((Below.refl _ w).alloc (UI _) _).alloc (by simp) _).alloc (by simp;omega) _
 have ct:w1.cell? ⟨w.heap.size,0,none⟩=some v0:=v.cell (by rw[a];exact aC w _ 100 0 _ rfl);have A:w1.cell? ⟨w.heap.size+1+1,0,none⟩=some (.map (some (w.heap.size+1))):=by rw[c,<-hsb];exact aC i _ 133 0 _ rfl
 have k:bS w1 (w.heap.size+1) (λ_=>false):=by have h:=bS.new g;rw[f,<-b]at h;exact h.keep (by rw[c];exact Below.heap_alloc i _ _ (by omega))
 have m:=d.As y;have n:=(kD L 98 #[.pointer (some ⟨w.heap.size+1+1,0,none⟩)] 0 12 w1 (λj wr=>ae w1 wr/\Below w.heap.size w wr/\bS wr (w.heap.size+1) (λt=>(l.take j).any (λq=>decide (q.1=t)))) (xI letterF l) (e98 L)
  ⟨ae.refl _,z,k⟩ (λj wr h=>h.1) (λj wr o h=>⟨h.1.trans (ae.alloc _ _),h.2.1.alloc h.2.1.size _,h.2.2.keep (Below.heap_alloc wr o _ h.2.2.lt)⟩)).1 _ m
  (λj B wr h=>(Ct L j l[j] (w.heap.size+1+1) (w.heap.size+1) _ wr (h.1.cell A) h.2.2).mono λe w' s=>⟨by rw[jx _ _ _ B];exact s.1,h.1.trans s.2.2.2,h.2.1.trans (s.2.2.1 _ (by omega)),s.2.1.iff λt=>by rw[mE l _ j B,lU t]⟩)
 have n:=n.p;obtain⟨N,u⟩:=ex (w.heap.size);rw[<-u]at ct n;have r:Calls (Qs fs) 97 #[v0,.i 0,.i 12,.func (.func 98) #[] #[.pointer (some ⟨N+1+1,0,none⟩)]] w1 λe w'=>e=.returned (.i (aI 0 12 letterF l))/\Below w.heap.size w w':=n.mono λe w' h=>by obtain⟨D,j,C,E,_⟩:=h;exact⟨D,by rw[<-u];exact E⟩
 have F:∀(fn:Fn) (first cap:Zq) (w:x6),(Instr.makeFunc fn first cap).run (Qs fs) w=.ok (.func fn first cap) w:=λ_ _ _ _=>rfl;have G:∀(t:TypeId) (w:x6),(Instr.makeMap t none).run (Qs fs) w=.ok (.map (some w.heap.size)) (w.alloc (.map #[] 0)):=λ_ _=>rfl;clear n k A m y z d;go_enter (n55 L),Tryz.ntmps55;go_upto_region 2 with fail;rw[<-a,<-b,<-c,<-u];clear a b c f hsb v x u;go_wp2_with (go_at_call 97;refine r.mono ?_;clear r;rintro e w2 ⟨rfl,C⟩);go_ret;exact⟨rfl,C⟩
def Ez(j:Int)(q:Pr2)(w:x6):ac fs 104 #[.i j,.agg #[.string q.1,.string q.2]] w (.i (eh [] q)):=by
 have e52:=e52 L;have e72:=e72 L;have s:Hid (eh [] q=if(!aZ q.1 1 3|| !aZ q.2 0 q.1.size)=true then 3 else 0):=rfl;obtain⟨w1,a⟩:=ex (w.alloc (.cells #[.string q.1,.string q.2] 51));have o:Below w.heap.size w w1:=by rw[a];exact aH _ _
 have ct:∀i v,(#[.string q.1,.string q.2]:Zq)[i]? =some v->w1.cell? ⟨w.heap.size,i,none⟩=some v:=λi v h=>by rw[a];exact aC w _ 51 i v h
 obtain⟨N,l⟩:=ex (w.heap.size);have t:=ct 0 _ rfl;have u:=ct 1 _ rfl;rw[<-l]at t u;have g:=λf=>kN L q.1 1 3 f (by decide);have k:=jj o;cases d:aZ q.1 1 3 with
 |false=>(rw[d]at g;have n:Hid (eh [] q=3):=by rw[Hid,s.o,d];rfl);have c:=λf=>en L true 3 f;simp only[UW]at c;clear d;go_enter (n104 L),Tryz.ntmps104;go_upto_region 1 with fail;rw[<-a,<-l];clear a l ct o;go_wp2_with (first|(go_at_call 72;refine(g _).mono ?_;clear g;rintro e w2 ⟨rfl,b⟩)|(go_at_call 52;refine(c _).mono ?_;rintro e w3 ⟨rfl,rfl⟩));go_ret;exact⟨by rw[n.o];rfl,k.o.trans (b.mono k.o.size)⟩
 |true=>(rw[d]at g;have x:q.1.size<=1000:=by unfold aZ aq at d;simp only[UT,U3]at d;omega);(have n:Hid (eh [] q=if(!aZ q.2 0 q.1.size)=true then 3 else 0):=by rw[Hid,s.o,d];rfl);have p:=λf=>kN L q.2 0 q.1.size f (by omega);obtain⟨z,m⟩:=ex (aZ q.2 0 q.1.size);rw[<-m]at p n;have c:=λf=>en L (!z) 3 f;rw[<-n.o]at c;clear d m;go_enter (n104 L),Tryz.ntmps104;go_upto_region 1 with fail;rw[<-a,<-l];clear a l ct o;go_wp2_with (first|(go_at_call 72;refine(g _).mono ?_;clear g;rintro e w2 ⟨rfl,b⟩;have y:=(ae.below b).cell t;have A:=(ae.below b).cell u)|(go_at_call 72;refine(p _).mono ?_;clear p;rintro e w3 ⟨rfl,r⟩)|(go_at_call 52;refine(c _).mono ?_;rintro e w4 ⟨rfl,rfl⟩));go_ret;exact⟨rfl,(k.o.trans (b.mono k.o.size)).trans (r.mono (k.o.trans (b.mono k.o.size)).size)⟩
def Nb{K:Nat->Prop}{v:Zj}{l:List Pr2}(w:x6)(a:az K 2 dA w v l):ac fs 103 #[v,.i 0,.i 5,.func (.func 104) #[] #[]] w (.i (aI 0 5 eh l)):=by
 have b:=(kD L 104 #[] 0 5 w (λ_ wr=>Below w.heap.size w wr) (xI eh l) (Ud L) (Below.refl _ _) (λj wr h=>ae.below h) (λj wr o h=>h.alloc h.size _)).2.1 _ a
  (λj d wr h=>(Ez L j l[j] wr).mono λe w' c=>⟨by rw[jx _ _ _ d];exact c.1,h.trans (c.2.mono h.size)⟩)
 have b:=b.p;exact b.mono λe w' h=>⟨h.1,h.2.choose_spec⟩
def sI(a:Bool)(x:jY):Int:=if !dK x.name then 4 else if a then 5 else aI 0 5 eh x.aX
def Hg{K:Nat->Prop}(j:Int)(x:jY)(vs:Zj)(bv u:Nat)(p:Zk->Bool)(w:x6)(D:w.cell? ⟨bv,0,none⟩=some (.map (some u)))(O:bS w u p)(l:az K 2 dA w vs x.aX):Calls (Qs fs) 101 #[.i j,.agg #[.string x.name,vs],.pointer (some ⟨bv,0,none⟩)] w λe w'=>e=.returned (.i (sI (p x.name) x))/\bS w' u (λt=>p t||decide (t=x.name))/\(∀B,B<=u->Below B w w')/\ae w w':=by
 have Pp:=Pp L;have e52:=e52 L;have Su:=Su L;have e51:=e51 L;obtain⟨P,Q,rfl,ab,ad,_⟩:=id l;obtain⟨w1,m⟩:=ex (w.alloc (.cells #[.string x.name,.slice P x.aX.length Q] 50));have R:ae w w1:=by rw[m];exact ae.alloc _ _
 have S:Below w.heap.size w w1:=by rw[m];exact aH _ _
 have ct:∀i v,(#[.string x.name,.slice P x.aX.length Q]:Zq)[i]? =some v->w1.cell? ⟨w.heap.size,i,none⟩=some v:=λi v h=>by rw[m];exact aC w _ 50 i v h
 obtain⟨N,T⟩:=ex (w.heap.size);have y:=O.keep (S.block u O.lt);have F:=ua fs y x.name;obtain⟨w2,U,G,H,d⟩:=lh fs y x.name;have b1:=R.cell D;have V:=ct 0 _ rfl;have W:=ct 1 _ rfl;rw[<-T]at V W;obtain⟨b,n⟩:=ex (p x.name);rw[<-n]at F;have X:=jj n;have q:Hid ((∀B,B<=u->Below B w w2)/\ae w w2/\bS w2 u (λt=>p t||decide (t=x.name))):=⟨λB hB=>(S.mono (by have:=O.lt;omega)).trans (H B hB),R.trans d,G⟩
 have af:=d.cell V;have I:=d.cell W;have HR:Hid (∀c,ae w c->ac fs 103 #[.slice P x.aX.length Q,.i 0,.i 5,.func (.func 104) #[] #[]] c (.i (aI 0 5 eh x.aX))):=λc hx=>Nb L c (l.As hx);have g:Hid (sI b x=if(!dK x.name)=true then 4 else if b=true then 5 else aI 0 5 eh x.aX):=rfl;have z:=Jx L x.name w2;obtain⟨z1,J⟩:=ex (dK x.name);rw[<-J]at z g;have s:=λc=>en L (!z1) 4 c;have r:=λc=>en L b 5 c;have M:Hid (w2.cell? ⟨N,1,none⟩=some (.slice P x.aX.length Q)):=I;clear J n;go_enter (n101 L),Tryz.ntmps101;go_upto_region 1 with fail;rw[<-m,<-T];clear m T ct R S y G H d O D l;go_upto_region 3 with fail;clear F U b1 V W I;cases z1 with
 |false=>(have k:=λc:x6=>du L 4 (if b=true then 5 else 0) c;have C:Hid (sI b x=4):=by rw[Hid,g.o];rfl);(simp only[XT,UW]at s;rw[show(if(4:Int)≠0 then(4:Int)else if b=true then 5 else 0)=4 from rfl]at k;obtain⟨fb,hfb⟩:∃f:Int,f=if b=true then 5 else 0:=⟨_,rfl⟩);simp only[<-hfb]at r k;clear hfb;go_wp2_with (first|(go_at_call 102;refine z.mono ?_;clear z;rintro e w3 ⟨rfl,a⟩)|(go_at_call 52;refine(s _).mono ?_;clear s;rintro e w4 ⟨rfl,rfl⟩)|(go_at_call 52;refine(r _).mono ?_;clear r;rintro e w4 ⟨rfl,rfl⟩)|(go_at_call 51;refine(k _).mono ?_;clear k;rintro e w4 ⟨rfl,rfl⟩));go_ret;exact⟨by rw[<-X.o,C.o];rfl,lj q.o.1 q.o.2.1 q.o.2.2 (a.alloc a.size _)⟩
 |true=>
  simp only[Wx,U7,U5]at s;cases b with
  |true=>(have k:=λc:x6=>du L 0 5 c;have C:Hid (sI true x=5):=by rw[Hid,g.o];rfl);simp only[UW]at r;rw[show(if(0:Int)≠0 then(0:Int)else 5)=5 from rfl]at k;go_wp2_with (first|(go_at_call 102;refine z.mono ?_;clear z;rintro e w3 ⟨rfl,a⟩;have A:=(ae.below a).cell M.o;have Y:=λo:Obj=>(ae.alloc w3 o).cell A)|(go_at_call 52;refine(s _).mono ?_;clear s;rintro e w4 ⟨rfl,rfl⟩)|(go_at_call 52;refine(r _).mono ?_;clear r;rintro e w4 ⟨rfl,rfl⟩)|(go_at_call 51;refine(k _).mono ?_;clear k;rintro e w4 ⟨rfl,rfl⟩));go_ret;exact⟨by rw[<-X.o,C.o];rfl,lj q.o.1 q.o.2.1 q.o.2.2 (a.alloc a.size _)⟩
  |false=>(have k:=λc:x6=>du L 0 0 c;have C:Hid (sI false x=aI 0 5 eh x.aX):=by rw[Hid,g.o];rfl);simp only[U7,U5]at r;rw[show(if(0:Int)≠0 then(0:Int)else 0)=0 from rfl]at k;obtain⟨E,hE⟩:=ex (aI 0 5 eh x.aX);rw[<-hE]at HR C;clear hE;go_wp2_with (first|(go_at_call 102;refine z.mono ?_;clear z;rintro e w3 ⟨rfl,a⟩;have A:=(ae.below a).cell M.o;have Y:=λo:Obj=>(ae.alloc w3 o).cell A)|(go_at_call 52;refine(s _).mono ?_;clear s;rintro e w4 ⟨rfl,rfl⟩)|(go_at_call 52;refine(r _).mono ?_;clear r;rintro e w4 ⟨rfl,rfl⟩)|(go_at_call 51;refine(k _).mono ?_;clear k;rintro e w4 ⟨rfl,rfl⟩)|(go_at_call 103;refine(HR.o _ (q.o.2.1.trans ((ae.below a).trans (ae.alloc _ _)))).mono ?_;rintro e w5 ⟨rfl,Z⟩));go_ret;have aa:=(a.alloc a.size (.cells #[.i 0,.i 0] 29)).trans (Z.mono (a.alloc a.size (.cells #[.i 0,.i 0] 29)).size);exact⟨by rw[<-X.o,C.o];rfl,lj q.o.1 q.o.2.1 q.o.2.2 aa⟩
end Go.Proofs

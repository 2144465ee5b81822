import Derived.MapKept
import Derived.WideKeyEntry
import Derived.DeepKeys4
import Derived.Maps.RangeRun
import Derived.Test.YtaglpcmhopjebaaGreatDoorY33
set_option linter.all false
set_option maxRecDepth 100000
set_option maxHeartbeats 20000000
namespace Go.Proofs
open Go.Tm Go.RowKit
variable {fs:Array Func} (L:bQ fs)
def I2(i a y b)(h:aJ a b+1=aJ a (y::b)):aV i a (y::b)=((i:Int),0,codeOf y)::aV i a b:=by
 cases a with
 |nil=>rw[aV]
 |cons x a=>rw[aV,Ro (by omega),Rp h]
def F5(i x)(a b:Bs)(d:∀y c,b=y::c->aJ (x::a) c+1≠aJ (x::a) b)(h:aJ a b+1=aJ (x::a) b):aV i (x::a) b=((i:Int),1,0)::aV (i+1) a b:=by
 cases b with
 |nil=>rw[aV]
 |cons y b=>rw[aV,Ro (by omega),Ro (d y b rfl),Rp h]
def F6(a b)(c:aJ a b≠0)(f:∀y d,b=y::d->aJ a d+1≠aJ a b)(g:∀x e,a=x::e->aJ e b+1≠aJ a b):a≠[]/\b≠[]:=by
 constructor
 ·rintro rfl
  cases b with
  |nil=>exact c (eK [])
  |cons y b=>exact f y b rfl (by rw[eK,eK];rfl)
 ·rintro rfl
  cases a with
  |nil=>exact c (eK [])
  |cons x a=>exact g x a rfl (by rw[gH,gH];rfl)
def F7(i x y)(a b:Bs)(c:aJ (x::a) (y::b)≠0)(d:aJ (x::a) b+1≠aJ (x::a) (y::b))(e:aJ a (y::b)+1≠aJ (x::a) (y::b)):
 aV i (x::a) (y::b)=if x=y then aV (i+1) a b else((i),2,codeOf y)::aV (i+1) a b:=by
 rw[aV,Ro c,Ro d,Ro e];by_cases h:x=y
 ·rw[Ro (λg=>g h),Rp h]
 ·rw[Rp h,Ro h]
def pH(l:List Ed):List Value:=l.flatMap λe=>[.int .i64 e.1,.int .i64 e.2.1,.int .u8 e.2.2]
def F8(l e):pH (l++[e])=pH l++[.int .i64 e.1,.int .i64 e.2.1,.int .u8 e.2.2]:=by unfold pH;rw[T9];rfl
def OP:((Tryz.prog).info? 96).map (λi=>(i.zero,i.size,i.bytes))=some (some (.agg #[.int .i64 0,.int .i64 0,.int .u8 0]),3,24):=by kernel_rfl
def Ln(fs):((Qs fs).info? 96).map (λi=>(i.zero,i.size,i.bytes))=some (some (.agg #[.int .i64 0,.int .i64 0,.int .u8 0]),3,24):=OP
def ja.keep{w wr w' a b q p}(h:ja w wr a b q p)(c:Below (w.heap.size+1) wr w'):ja w w' a b q p:=⟨h.row.of_block (c.block _ (by omega)),h.below.trans (c.mono (by omega))⟩
def rO{w:World}{B B' e k v n xs}(h:w.ownsRow B' e k v n xs)(i:B<=B'):w.ownsRow B e k v n xs:=by
 refine⟨h.1,?_⟩;obtain b|⟨g,cap,a,c,j,d,f⟩:=h.2
 ·exact .inl b
 ·exact .inr ⟨g,cap,a,c,by omega,d,f⟩
def fT(a b:ByteArray):Int:=if 48<a.size\/48<b.size then 2 else if a.data.toList.all aX&&b.data.toList.all aX then 0 else 3
def gy(a b:ByteArray):List Ed:=if fT a b=0 then gu a.data.toList b.data.toList else[]
def rP(s):bR s 0 s.size=s.data.toList.all aX:=by unfold bR au;simp
def A4(a b:ByteArray)(w:World)(b5:a.size<1000000)(b6:b.size<1000000):
 Calls (Qs fs) 29 #[.string a,.string b] w λe w'=>∃v,e=.returned (.tuple #[v,.int .i64 (fT a b)])/\w'.ownsRow w.heap.size 96 3 v (gy a b).length (pH (gy a b))/\Below w.heap.size w w':=by
 have e72:=e72 L;have e73:=e73 L;by_cases W:48<a.size\/48<b.size
 ·have hF:fT a b=2:=Rp W
  have hR:gy a b=[]:=by unfold gy;rw[hF];rfl
  have O:Hid (fT a b=2/\gy a b=[]):=⟨hF,hR⟩
  clear hF hR;obtain h1|h1:=Ry 48 a.size
  ·have g1:(48:Int)<(a.size:Int):=by omega
   clear W h1;go_enter (n29 L),Tryz.ntmps29;go_wp2
   go_ret2
   exact⟨_,by rw[O.out.1];rfl,by rw[O.out.2];exact World.ownsRow_nil _ _ _ _,Below.refl _ _⟩
  ·have g1:decide ((48:Int)<(a.size:Int))=false:=Rz (by omega)
   have g2:(48:Int)<(b.size:Int):=by omega
   clear W h1;go_enter (n29 L),Tryz.ntmps29;go_wp2
   go_ret2
   exact⟨_,by rw[O.out.1];rfl,by rw[O.out.2];exact World.ownsRow_nil _ _ _ _,Below.refl _ _⟩
 ·have g1:decide ((48:Int)<(a.size:Int))=false:=Rz (by omega)
  have g2:decide ((48:Int)<(b.size:Int))=false:=Rz (by omega);have q1:=λwx=>iJ L a 0 a.size wx (by omega);have q2:=λwx=>iJ L b 0 b.size wx (by omega);rw[rP]at q1 q2;have HP:Hid (fT a b=if a.data.toList.all aX&&b.data.toList.all aX then 0 else 3):=Ro W;have bb:a.size<=48:=by omega
  have bd:b.size<=48:=by omega
  clear W;cases E:a.data.toList.all aX with
  |false=>
   rw[E]at q1;have O:Hid (fT a b=3/\gy a b=[]):=by
    have h:fT a b=3:=by rw[HP.out,E];rfl
    exact⟨h,by unfold gy;rw[h];rfl⟩
   clear E;go_enter (n29 L),Tryz.ntmps29;go_wp2_with (first|(go_at_call 72;refine(q1 _).mono ?_;clear q1;rintro e w2 ⟨rfl,F⟩))
   go_ret2
   exact⟨_,by rw[O.out.1];rfl,by rw[O.out.2];exact World.ownsRow_nil _ _ _ _,F⟩
  |true=>
   rw[E]at q1;cases M:b.data.toList.all aX with
   |false=>
    rw[M]at q2;have O:Hid (fT a b=3/\gy a b=[]):=by
     have h:fT a b=3:=by rw[HP.out,E,M];rfl
     exact⟨h,by unfold gy;rw[h];rfl⟩
    clear E M;go_enter (n29 L),Tryz.ntmps29;go_wp2_with (first|(go_at_call 72;refine(q1 _).mono ?_;clear q1;rintro e w2 ⟨rfl,F⟩)|(go_at_call 72;refine(q2 _).mono ?_;clear q2;rintro e w3 ⟨rfl,ad⟩))
    go_ret2
    exact⟨_,by rw[O.out.1];rfl,by rw[O.out.2];exact World.ownsRow_nil _ _ _ _,F.trans (ad.mono F.size)⟩
   |true=>
    rw[M]at q2;have O:Hid (fT a b=0/\gy a b=gu a.data.toList b.data.toList):=by
     have h:fT a b=0:=by rw[HP.out,E,M];rfl
     exact⟨h,by unfold gy;rw[h];rfl⟩
    have ax:=λwx=>Gv L a b wx bb bd;obtain⟨i0,hi,P,Q,R⟩:=info_parts (Ln fs);have hA:=Lib.size_eq a;have hB:=Lib.size_eq b;have ay:∀q (h:q<a.size),a.data.toList.drop q=a[q]::a.data.toList.drop (q+1):=λq h=>drop_cons a q h;have aM:∀q (h:q<b.size),b.data.toList.drop q=b[q]::b.data.toList.drop (q+1):=λq h=>drop_cons b q h;obtain⟨A,a1⟩:=ex (a.data.toList);obtain⟨B,af⟩:=ex (b.data.toList);rw[<-a1]at hA ay;rw[<-af]at hB aM;rw[<-a1,<-af]at ax O;have m:Hid (a.size=A.length/\b.size=B.length):=⟨hA,hB⟩
    have HG:Hid ((∀q (h:q<a.size),A.drop q=a[q]::A.drop (q+1))/\(∀q (h:q<b.size),B.drop q=b[q]::B.drop (q+1))):=⟨ay,aM⟩
    have f:Hid (A.length<=48/\B.length<=48):=⟨by omega,by omega⟩
    have HL:Hid ((gu A B).length<=48):=by rw[Hid,pG A B (by rw[af];exact M)];have:=jq A B;omega
    clear hA hB a1 af ay aM E M HP;go_enter (n29 L),Tryz.ntmps29;go_wp2_with (first|(go_at_call 72;refine(q1 _).mono ?_;clear q1;rintro e w2 ⟨rfl,F⟩)|(go_at_call 72;refine(q2 _).mono ?_;clear q2;rintro e w3 ⟨rfl,ad⟩)|(go_at_call 73;refine(ax _).mono ?_;clear ax;rintro e w4 ⟨rfl,g⟩))
    have a6:Hid (Below w.heap.size w w3):=F.trans (ad.mono F.size);have bo:Hid _:=g;clear F ad g;obtain⟨N,hN⟩:=ex (w3.heap.size);have HN:Hid _:=hN;rw[<-hN];clear hN;go_loopw [7,8,9] (λv s8 s9 wr=>∃(vF:Value) (i k:Nat) (K:List Ed),vF=v/\s8=.int .i64 i/\s9=.int .i64 k/\i<=A.length/\k<=B.length/\K++aV i (A.drop i) (B.drop k)=gu A B/\wr.ownsRow (w3.heap.size+1) 96 3 vF K.length (pH K)/\ja w3 wr A B 0 0) (λv s8 s9 _=>(A.length-(intOf s8).toNat)+(B.length-(intOf s9).toNat))
    case atStart=>exact⟨_,0,0,[],rfl,rfl,rfl,RA _,RA _,rfl,World.ownsRow_nil _ _ _ _,bo.out⟩
    case round=>
     obtain⟨vF,i,k,K,rfl,rfl,rfl,X,ag,p,l,g⟩:=hrel;have HT:Hid _:=p;have HO:Hid (wr.ownsRow (w3.heap.size+1) 96 3 vF K.length (pH K)/\ja w3 wr A B 0 0):=⟨l,g⟩
     have hd:=g.cell f.out.1 f.out.2 X ag (by omega);rw[<-HN.out]at hd;have bC:(i:Int)<49:=by have:=f.out;omega
     have b0:(k:Int)<49:=by have:=f.out;omega
     have br:aJ (A.drop i) (B.drop k)<=2000:=Rr (mz _ _) (by rw[RI,RI];have:=f.out;omega);obtain⟨D,hD⟩:=ex (aJ (A.drop i) (B.drop k));rw[<-hD]at hd br;have HD:Hid _:=hD;by_cases ak:D=0
     ·subst ak
      clear p l g hD;go_wp2
      go_ret2
      have he:K=gu A B:=by have:=HT.out;rw[qo _ _ HD.out.symm,zD,Th]at this;exact this
      subst he;exact⟨_,by rw[O.out.1];rfl,by rw[O.out.2];exact rO HO.out.1 (by have:=a6.out.size;omega),a6.out.trans (HO.out.2.below.mono a6.out.size)⟩
     ·have bs:(0:Int)<(D:Int):=by omega
      have ao:=X;have S:=ag;have b1:w3.heap.size<wr.heap.size:=g.row.lt;have G:Hid (∀(W0:World),Below (w3.heap.size+1) wr W0->∀(o:Obj) (Y:Value) (U:World) (e:Ed) (i2 k2:Nat),i2<=A.length->k2<=B.length->aV i (A.drop i) (B.drop k)=e::aV i2 (A.drop i2) (B.drop k2)->U.ownsRow (w3.heap.size+1) 96 3 Y (K.length+1) (pH K++[.int .i64 e.1,.int .i64 e.2.1,.int .u8 e.2.2])->(W0.alloc o).grownBy U vF.ownBlock->
       ∃s:List Ed,s++aV i2 (A.drop i2) (B.drop k2)=gu A B/\U.ownsRow (w3.heap.size+1) 96 3 Y s.length (pH s)/\ja w3 U A B 0 0):=by
       intro W0 a7 o Y U e i2 k2 h1 h2 h3 h4 h5;refine⟨K++[e],?_,?_,?_⟩
       ·rw[<-HT.out,h3,R8];rfl
       ·rw[F8,RM];exact h4
       ·exact HO.out.2.keep ((a7.alloc (by have:=a7.size;omega) o).grown h5 (by have:=a7.size;simp;omega) (dP HO.out.1))
      have H:Hid (K.length<=48):=by have h:=R6 List.length HT.out;rw[RM]at h;have:=HL.out;show K.length<=48;omega
      by_cases T:k<b.size/\aJ (A.drop i) (B.drop (k+1))+1=D
      ·have I:=g.cell f.out.1 f.out.2 (r:=i) (k:=k+1) X (by have:=m.out;omega) (by omega)
       rw[<-HN.out]at I;have hkb:(k:Int)<(b.size:Int):=by omega
       have b2:=T.1;have HE:Hid (aV i (A.drop i) (B.drop k)=((i:Int),0,codeOf b[k])::aV i (A.drop i) (B.drop (k+1))):=by rw[Hid,HG.out.2 k T.1];refine I2 i _ _ _ ?_;rw[<-HG.out.2 k T.1,<-HD.out];exact T.2
       have bk:=T.2;obtain⟨d1,z⟩:=ex (aJ (A.drop i) (B.drop (k+1)));rw[<-z]at I bk;have hq:((d1:Int)==(D:Int)-1)=true:=by rw[Sq];omega
       have Z:(k:Int)+1<49:=by have:=f.out;have:=m.out;omega
       clear p g hD T z bk;go_wp2_with (first|(at_builtin;refine wpList_append_own _ rfl _ _ 53 rfl (w3.heap.size+1) 96 i0 (.agg #[.int .i64 0,.int .i64 0,.int .u8 0]) 3 24 Tryz.underlying53 hi P Q R rfl (by decide) _ _ _ rfl (l.alloc _) ⟨_,0,none⟩ 1 1 [.int .i64 i,.int .i64 0,.int .u8 (b[k].toNat:Int)] rfl rfl ?c1 ?c2 ?c3 ?c4 ?c5 ?_))
       case c1=>intro j u C;rw[dD,RB];exact aw wr _ 96 j u (by simpa using C)
       case c2=>intro u C;simp at C;rcases C with rfl|rfl|rfl<;>rfl
       case c3=>have:=H.out;unfold maxLen;omega
       case c4=>have:=H.out;omega
       case c5=>simp;omega
       intro Y U c d _;obtain⟨s,z1,z2,z3⟩:=G.out _ (Below.refl _ wr) _ Y U ((i:Int),0,codeOf b[k]) i (k+1) ao (by have:=m.out;omega) HE.out c d;clear G l c d;go_wp2;exact⟨⟨_,i,k+1,s,rfl,rfl,by go_num,ao,by have:=m.out;omega,z1,z2,z3⟩,by simp[intOf];have:=m.out;omega⟩
      ·by_cases n:i<a.size/\aJ (A.drop (i+1)) (B.drop k)+1=D
       ·have e10:=g.cell f.out.1 f.out.2 (r:=i+1) (k:=k) (by have:=m.out;omega) ag (by omega)
        rw[<-HN.out]at e10;have a8:(i:Int)<(a.size:Int):=by omega
        have b3:=n.1;have HE:Hid (aV i (A.drop i) (B.drop k)=((i:Int),1,0)::aV (i+1) (A.drop (i+1)) (B.drop k)):=by
         rw[Hid,HG.out.1 i n.1];refine F5 i _ _ _ (λy b' hy he=>T ?_) ?_
         ·have hk:k<b.size:=by
           obtain h|h:=Ry k b.size
           ·exact h
           ·rw[RY (by have:=m.out;omega)]at hy;cases hy
          have al:=hy;rw[HG.out.2 k hk]at al;injection al with _ al;subst al;rw[<-HG.out.1 i n.1,<-HD.out]at he;exact⟨hk,he⟩
         ·rw[<-HG.out.1 i n.1,<-HD.out]
          exact n.2
        have aa:=n.2;obtain⟨d2,t⟩:=ex (aJ (A.drop (i+1)) (B.drop k));rw[<-t]at e10 aa;have bx:((d2:Int)==(D:Int)-1)=true:=by rw[Sq];omega
        have ba:(i:Int)+1<49:=by have:=f.out;have:=m.out;omega
        obtain hkb|hkb:=Ry k b.size
        ·have I:=g.cell f.out.1 f.out.2 (r:=i) (k:=k+1) X (by have:=m.out;omega) (by omega)
         rw[<-HN.out]at I;have J:aJ (A.drop i) (B.drop (k+1))+1≠D:=λh=>T ⟨hkb,h⟩;obtain⟨d1,z⟩:=ex (aJ (A.drop i) (B.drop (k+1)));rw[<-z]at I J;have hq:((d1:Int)==(D:Int)-1)=false:=by rw[R2];omega
         have ar:(k:Int)<(b.size:Int):=by omega
         have Z:(k:Int)+1<49:=by have:=f.out;have:=m.out;omega
         clear p g hD T z J n t aa;go_wp2_with (first|(at_builtin;refine wpList_append_own _ rfl _ _ 53 rfl (w3.heap.size+1) 96 i0 (.agg #[.int .i64 0,.int .i64 0,.int .u8 0]) 3 24 Tryz.underlying53 hi P Q R rfl (by decide) _ _ _ rfl (l.alloc _) ⟨_,0,none⟩ 1 1 [.int .i64 i,.int .i64 1,.int .u8 0] rfl rfl ?c1 ?c2 ?c3 ?c4 ?c5 ?_))
         case c1=>intro j u C;rw[dD,RB];exact aw wr _ 96 j u (by simpa using C)
         case c2=>intro u C;simp at C;rcases C with rfl|rfl|rfl<;>rfl
         case c3=>have:=H.out;unfold maxLen;omega
         case c4=>have:=H.out;omega
         case c5=>simp;omega
         intro Y U c d _;obtain⟨s,z1,z2,z3⟩:=G.out _ (Below.refl _ wr) _ Y U ((i:Int),1,0) (i+1) k (by have:=m.out;omega) S HE.out c d;clear G l c d;go_wp2;exact⟨⟨_,i+1,k,s,rfl,by go_num,by go_num,(by have:=m.out;omega),S,z1,z2,z3⟩,by simp[intOf];have:=m.out;omega⟩
        ·have ar:decide ((k:Int)<(b.size:Int))=false:=Rz (by omega)
         clear p g hD T n t aa;go_wp2_with (first|(at_builtin;refine wpList_append_own _ rfl _ _ 53 rfl (w3.heap.size+1) 96 i0 (.agg #[.int .i64 0,.int .i64 0,.int .u8 0]) 3 24 Tryz.underlying53 hi P Q R rfl (by decide) _ _ _ rfl (l.alloc _) ⟨_,0,none⟩ 1 1 [.int .i64 i,.int .i64 1,.int .u8 0] rfl rfl ?c1 ?c2 ?c3 ?c4 ?c5 ?_))
         case c1=>intro j u C;rw[dD,RB];exact aw wr _ 96 j u (by simpa using C)
         case c2=>intro u C;simp at C;rcases C with rfl|rfl|rfl<;>rfl
         case c3=>have:=H.out;unfold maxLen;omega
         case c4=>have:=H.out;omega
         case c5=>simp;omega
         intro Y U c d _;obtain⟨s,z1,z2,z3⟩:=G.out _ (Below.refl _ wr) _ Y U ((i:Int),1,0) (i+1) k (by have:=m.out;omega) S HE.out c d;clear G l c d;go_wp2;exact⟨⟨_,i+1,k,s,rfl,by go_num,by go_num,(by have:=m.out;omega),S,z1,z2,z3⟩,by simp[intOf];have:=m.out;omega⟩
       ·have an:=F6 (A.drop i) (B.drop k) (by rw[<-HD.out];exact ak) (λy b' hy he=>T (by
         have hk:k<b.size:=by
          obtain h|h:=Ry k b.size
          ·exact h
          ·rw[RY (by have:=m.out;omega)]at hy;cases hy
         rw[HG.out.2 k hk]at hy;injection hy with _ hy;subst hy;rw[<-HD.out]at he;exact⟨hk,he⟩)) (λx a' hx he=>n (by
         have hk:i<a.size:=by
          obtain h|h:=Ry i a.size
          ·exact h
          ·rw[RY (by have:=m.out;omega)]at hx;cases hx
         rw[HG.out.1 i hk]at hx;injection hx with _ hx;subst hx;rw[<-HD.out]at he;exact⟨hk,he⟩))
        have a8:i<a.size:=by
         obtain h|h:=Ry i a.size
         ·exact h
         ·exact absurd (RY (by have:=m.out;omega)) an.1
        have hkb:k<b.size:=by
         obtain h|h:=Ry k b.size
         ·exact h
         ·exact absurd (RY (by have:=m.out;omega)) an.2
        have J:aJ (A.drop i) (B.drop (k+1))+1≠D:=λh=>T ⟨hkb,h⟩;have ab:aJ (A.drop (i+1)) (B.drop k)+1≠D:=λh=>n ⟨a8,h⟩;have bm:Hid (aV i (A.drop i) (B.drop k)=if a[i]=b[k]then aV (i+1) (A.drop (i+1)) (B.drop (k+1))else((i:Int),2,codeOf b[k])::aV (i+1) (A.drop (i+1)) (B.drop (k+1))):=by
         have k1:=HG.out.1 i a8;have k2:=HG.out.2 k hkb;rw[HD.out,k1,k2]at J ab ak;rw[Hid,k1,k2];refine F7 i _ _ _ _ ak ?_ ?_
         ·rw[<-k1];exact(by rw[k1];exact J)
         ·rw[<-k2];exact(by rw[k2];exact ab)
        have I:=g.cell f.out.1 f.out.2 (r:=i) (k:=k+1) X (by have:=m.out;omega) (by omega);have e10:=g.cell f.out.1 f.out.2 (r:=i+1) (k:=k) (by have:=m.out;omega) ag (by omega);rw[<-HN.out]at I e10;obtain⟨d1,z⟩:=ex (aJ (A.drop i) (B.drop (k+1)));rw[<-z]at I J;obtain⟨d2,t⟩:=ex (aJ (A.drop (i+1)) (B.drop k));rw[<-t]at e10 ab;have hq:((d1:Int)==(D:Int)-1)=false:=by rw[R2];omega
        have bx:((d2:Int)==(D:Int)-1)=false:=by rw[R2];omega
        have b4:(i:Int)<(a.size:Int):=by omega
        have ar:(k:Int)<(b.size:Int):=by omega
        have ba:(i:Int)+1<49:=by have:=f.out;have:=m.out;omega
        have Z:(k:Int)+1<49:=by have:=f.out;have:=m.out;omega
        by_cases V:a[i]=b[k]
        ·have bA:((a[i].toNat:Int)!=(b[k].toNat:Int))=false:=by rw[V];simp
         have bB:Hid (K++aV (i+1) (A.drop (i+1)) (B.drop (k+1))=gu A B):=by have h:=bm.out;rw[Rp V]at h;rw[Hid,<-h];exact HT.out
         clear p g l hD T z J ab n t an V;go_wp2;go_quiet (fail);go_wp2;exact⟨⟨_,i+1,k+1,K,rfl,by go_num,by go_num,by have:=m.out;omega,by have:=m.out;omega,bB.out,HO.out.1,HO.out.2.drewN _⟩,by simp[intOf];have:=m.out;omega⟩
        ·have bA:((a[i].toNat:Int)!=(b[k].toNat:Int))=true:=by rw[Tq];intro h;exact V (Uk.1 (by omega))
         have HE:Hid (aV i (A.drop i) (B.drop k)=((i:Int),2,codeOf b[k])::aV (i+1) (A.drop (i+1)) (B.drop (k+1))):=by have h:=bm.out;rw[Ro V]at h;exact h
         clear p g hD T z J ab n t an V;go_wp2;go_quiet (fail);go_wp2_with (first|(at_builtin;refine wpList_append_own _ rfl _ _ 53 rfl (w3.heap.size+1) 96 i0 (.agg #[.int .i64 0,.int .i64 0,.int .u8 0]) 3 24 Tryz.underlying53 hi P Q R rfl (by decide) _ _ _ rfl ((show World.ownsRow (wr.drewN nq) (w3.heap.size+1) 96 3 vF K.length (pH K)from l).alloc _) ⟨_,0,none⟩ 1 1 [.int .i64 i,.int .i64 2,.int .u8 (b[k].toNat:Int)] rfl rfl ?c1 ?c2 ?c3 ?c4 ?c5 ?_))
         case c1=>intro j u C;rw[dD,RB];exact aw (wr.drewN nq) _ 96 j u (by simpa using C)
         case c2=>intro u C;simp at C;rcases C with rfl|rfl|rfl<;>rfl
         case c3=>have:=H.out;unfold maxLen;omega
         case c4=>have:=H.out;omega
         case c5=>simp;omega
         intro Y U c d _;obtain⟨s,z1,z2,z3⟩:=G.out _ ((Below.refl _ wr).fL nq) _ Y U ((i:Int),2,codeOf b[k]) (i+1) (k+1) (by have:=m.out;omega) (by have:=m.out;omega) HE.out c d;clear G l c d;go_wp2;exact⟨⟨_,i+1,k+1,s,rfl,by go_num,by go_num,(by have:=m.out;omega),(by have:=m.out;omega),z1,z2,z3⟩,by simp[intOf];have:=m.out;omega⟩
end Go.Proofs
namespace Go.Proofs
open Go.Tm Go.RowKit Go.MapKept
def bL(w:World)(b:Nat)(p:ByteArray->Bool):Prop:=∃es a,w.heap[b]? =some (.map es a)/\(∀e∈es.toList,∃s,e.key=.string s/\e.val=.bool true)/\∀s,p s=true↔∃e∈es.toList,e.key=.string s
def bL.new(w:World):bL (w.alloc (.map #[] 0)) w.heap.size (λ_=>false):=⟨#[],0,Sd,λe a=>(by cases a),λs=>⟨λh=>(by cases h),λ⟨e,a,_⟩=>(by cases a)⟩⟩
def bL.keep{w w' b p}(h:bL w b p)(c:w'.heap[b]? =w.heap[b]?):bL w' b p:=by obtain⟨es,a,d,e,f⟩:=h;exact⟨es,a,c.trans d,e,f⟩
def bL.lt{w b p}(h:bL w b p):b<w.heap.size:=by obtain⟨es,a,c,_⟩:=h;exact(Rx.1 c).1
def bL.iff{w b p q}(h:bL w b p)(c:∀s,p s=q s):bL w b q:=by obtain⟨es,a,d,e,f⟩:=h;exact⟨es,a,d,e,λs=>by rw[<-c];exact f s⟩
theorem nI(s):∀(es) (i),(∀e∈es,∃t,e.key=.string t/\e.val=.bool true)->
 (∃j,∃h,Instr.findNow .string (.string s) es i=some (some (i+j,.bool true))/\es[j].key=.string s)\/(Instr.findNow .string (.string s) es i=some none/\∀e∈es,e.key≠ .string s)
 | [],i,_=>.inr ⟨rfl,λe p=>(by cases p)⟩
 |e::es,i,h=>by
  obtain⟨t,k,q⟩:=h e (TP ..);obtain⟨r,l,g⟩:=sameNow_of_keys (d:=.string) (a:=.string s) (b:=.string t) (by simp[IsKey]) (by simp[IsKey]);by_cases c:s=t
  ·subst c
   rw[g.2 rfl]at l;refine .inl ⟨0,by simp,?_,k⟩;rw[Instr.findNow,k,l,q];rfl
  ·have m:r=false:=by
    cases r with
    |false=>rfl
    |true=>have:=g.1 rfl;cases this;exact absurd rfl c
   rw[m]at l;have f:Instr.findNow .string (.string s) (e::es) i=Instr.findNow .string (.string s) es (i+1):=by rw[Instr.findNow,k,l]
   rw[f];obtain⟨j,u,n,o⟩|⟨n,o⟩:=nI s es (i+1) (λx hx=>h x (TQ _ hx))
   ·refine .inl ⟨j+1,by simpa using u,?_,by simpa using o⟩
    rw[n]
    congr 3
    omega
   ·refine .inr ⟨n,λx hx=>?_⟩
    obtain rfl|hx:=RX.1 hx
    ·rw[k]
     intro e;cases e;exact c rfl
    ·exact o x hx
section
variable (fs:Array Func)
def Ad:(Qs fs).underlying 133=some (.map 9 4):=by rw[aH];exact Tryz.underlying133
def Hv:(Qs fs).underlying 9=some .string:=by rw[aH];exact Tryz.underlying9
def P8(w):(zeroValue 4).run (Qs fs) w=.ok (.bool false) w:=by
 rw[gD];have h:((Tryz.prog.info? 4).bind (·.zero))=some (.bool false):=by kernel_rfl
 cases a:Tryz.prog.info? 4 with
 |none=>rw[a]at h;cases h
 |some i=>rw[a]at h;simp only[TF]at h;simp[zeroValue,typeInfo,a,h]
def sN{w b p}(h:bL w b p)(s):(Instr.lookup 133 (.map (some b)) (.string s) false).run (Qs fs) w=.ok (.bool (p s)) w:=by
 obtain⟨es,c,m,o,n⟩:=h;have a:=λe=>MapKept.run_checkKey (P:=Qs fs) (w:=w) (kt:=9) (k:=.string s) (Hv fs) (by simp[IsKey]) e 9999;obtain⟨j,q,d,f⟩|⟨d,f⟩:=nI s es.toList 0 o
 ·have g:p s=true:=(n s).2 ⟨_,RR q,f⟩
  rw[g];simp[Instr.lookup,run_underlying (Ad fs),MapKept.run_getObj_map (P:=Qs fs) m,a,MapKept.run_findKey (P:=Qs fs) (w:=w) (Hv fs) d,Result.andThen]
 ·have g:p s=false:=by
   cases i:p s with
   |false=>rfl
   |true=>obtain⟨e,r,l⟩:=(n s).1 i;exact absurd l (f e r)
  rw[g];simp[Instr.lookup,run_underlying (Ad fs),MapKept.run_getObj_map (P:=Qs fs) m,a,MapKept.run_findKey (P:=Qs fs) (w:=w) (Hv fs) d,Result.andThen,P8]
def ki{w b p}(h:bL w b p)(s):
 ∃w',(Instr.mapUpdate 133 (.map (some b)) (.string s) (.bool true)).run (Qs fs) w=.ok () w'/\bL w' b (λt=>p t||decide (t=s))/\(∀B,B<=b->Below B w w')/\ae w w':=by
 obtain⟨es,m,n,E,C⟩:=h;have y:=λe=>MapKept.run_checkKey (P:=Qs fs) (w:=w) (kt:=9) (k:=.string s) (Hv fs) (by simp[IsKey]) e 9999;have far:∀o:Obj,(∀B,B<=b->Below B w {w with heap:=w.heap.setIfInBounds b o})/\ae w {w with heap:=w.heap.setIfInBounds b o}:=λo=>by
  refine⟨λB M=>⟨rfl,rfl,rfl,by simp,λk q=>(heap_set n).2 k (by omega)⟩,λk c e f q=>?_⟩;have F:k≠b:=by rintro rfl;rw[n]at q;cases q
  exact((heap_set n).2 k F).trans q
 obtain⟨j,K,D,q⟩|⟨D,q⟩:=nI s es.toList 0 E
 ·have u:j<es.size:=by simpa using K
  have v:es[j].key=.string s:=by simpa using q
  rw[RB]at D;have G:(Instr.keyThatStays (.string s) (.string s)).run (Qs fs) w=.ok (.string s) w:=by
   have L:Instr.sameBits 10000 (.string s) (.string s)=true:=by obtain⟨r,J,H⟩:=sameNow_of_keys (d:=.string) (a:=.string s) (b:=.string s) (by simp[IsKey]) (by simp[IsKey]);rw[H.2 rfl]at J;simpa[Instr.sameNow,Instr.sameBits]using J
   simp[Instr.keyThatStays,L]
  refine⟨{w with heap:=w.heap.setIfInBounds b (.map (es.modify j λe=>{e with key:=.string s,val:=.bool true}) m)},?_,⟨_,_,(heap_set n).1,?_,?_⟩,far _⟩
  ·simp[Instr.mapUpdate,run_underlying (Ad fs),MapKept.run_getObj_map (P:=Qs fs) n,y,MapKept.run_findKey (P:=Qs fs) (w:=w) (Hv fs) D,Result.andThen,u,v,G,MapKept.run_setObj_map (P:=Qs fs) _ n]
  ·intro e he
   obtain⟨i,g⟩:=SZ.1 he;rw[Sv,SH]at g;split at g
   ·cases z:es[i]? with
    |none=>rw[z]at g;cases g
    |some x=>rw[z]at g;cases g;exact⟨s,rfl,rfl⟩
   ·exact E e (by rw[<-Sv]at g;exact SN g)
  ·intro t
   rw[T5,RJ];constructor
   ·rintro(I|rfl)
    ·obtain⟨e,he,l⟩:=(C t).1 I
     obtain⟨i,g⟩:=SZ.1 he;rw[Sv]at g;by_cases A:j=i
     ·subst A
      have:es[j]=e:=by rw[RV u]at g;exact RU g
      rw[this,l]at v;refine⟨{e with key:=.string s,val:=.bool true},SZ.2 ⟨j,?_⟩,v.symm⟩;rw[Sv,SH,Rp rfl,g];rfl
     ·refine⟨e,SZ.2 ⟨i,?_⟩,l⟩
      rw[Sv,SH,Ro A,g]
    ·refine⟨{es[j]with key:=.string t,val:=.bool true},SZ.2 ⟨j,?_⟩,rfl⟩
     rw[Sv,SH,Rp rfl,RV u];rfl
   ·rintro⟨e,he,l⟩
    obtain⟨i,g⟩:=SZ.1 he;rw[Sv,SH]at g;split at g
    ·cases z:es[i]? with
     |none=>rw[z]at g;cases g
     |some x=>rw[z]at g;cases g;cases l;exact .inr rfl
    ·exact .inl ((C t).2 ⟨e,by rw[<-Sv]at g;exact SN g,l⟩)
 ·refine⟨{w with heap:=w.heap.setIfInBounds b (.map (es.push {key:=.string s,val:=.bool true,born:=m}) (m+1))},?_,⟨_,_,(heap_set n).1,?_,?_⟩,far _⟩
  ·simp[Instr.mapUpdate,run_underlying (Ad fs),MapKept.run_getObj_map (P:=Qs fs) n,y,MapKept.run_findKey (P:=Qs fs) (w:=w) (Hv fs) D,Result.andThen,MapKept.run_setObj_map (P:=Qs fs) _ n]
  ·intro e he
   rw[UX]at he;obtain he|he:=Tt.1 he
   ·exact E e he
   ·cases TD.1 he
    exact⟨s,rfl,rfl⟩
  ·intro t
   rw[T5,RJ,UX];constructor
   ·rintro(I|rfl)
    ·obtain⟨e,he,l⟩:=(C t).1 I
     exact⟨e,VB _ he,l⟩
    ·exact⟨_,List.mem_append_right _ (TD.2 rfl),rfl⟩
   ·rintro⟨e,he,l⟩
    obtain he|he:=Tt.1 he
    ·exact .inl ((C t).2 ⟨e,he,l⟩)
    ·cases TD.1 he
     cases l;exact .inr rfl
end
def ej(p:Bool×Int):Value:=.agg #[.bool p.1,.int .i64 p.2]
def D7{p q}(h:ej p=ej q):p=q:=by unfold ej at h;cases p;cases q;simp at h;simp[h.1,h.2]
section
variable (fs:Array Func)
def O2:(Qs fs).keyTypeAt 2 293=true:=by kernel_rfl
def LN:(Qs fs).tiled 2 293=true:=by kernel_rfl
def Gg:(Qs fs).keyType 293=true:=by kernel_rfl
def LP:∃F,(Qs fs).underlying 293=some (.struct F):=⟨_,(aH _ _ _).trans Tryz.underlying293⟩
def tA:WideMaps.KeyLaw (Qs fs) 293:=by refine deep_law (m:=2) (by omega) (O2 fs) (LN fs) ?_;obtain⟨F,h⟩:=LP fs;rw[h]
def D8:(Qs fs).cellsOf 293=2:=by kernel_rfl
def O3:(Qs fs).cellsOf 4=1:=by kernel_rfl
def O4:(Qs fs).cellsOf 3=1:=by kernel_rfl
def O5:293<(Qs fs).types.size:=Su (by kernel_rfl)
def ND(b n)(h:(Lit.int .i64 n).wf=true)(d):(Qs fs).keyLits (d+2) 293 [.bool b,.int .i64 n]=some [.bool b,.int .i64 n]:=by have e:(Qs fs).underlying 4=some .bool:=(aH _ _ _).trans Tryz.underlying4;have f:(Qs fs).underlying 3=some (.int .i64):=(aH _ _ _).trans Tryz.underlying3;obtain⟨S,c⟩:=ex (Tryz.prog.underlying 293);have a:(Qs fs).underlying 293=S:=(aH _ _ _).trans c.symm;rw[Tryz.underlying293]at c;subst c;simp[Program.keyLits,a,e,f,D8,O3,O4,h]
def rS(p)(h:(Lit.int .i64 p.2).wf=true):∃l,keyOf (Qs fs) 293 (ej p)=some l:=by
 obtain⟨F,a⟩:=LP fs;obtain⟨d,b⟩:∃d,(Qs fs).types.size+1=d+2:=⟨(Qs fs).types.size-1,by have:=O5 fs;omega⟩
 have c:=ND fs p.1 p.2 h d;have e:(ej p).formed (Qs fs) 293=true:=by simp[ej,Value.formed,a,D8]
 have f:(ej p).cells.toList=[.bool p.1,.int .i64 p.2]:=rfl;unfold keyOf;rw[a];simp only[Gg,e,Bool.and_self,RG,b,f,c,Sl];exact⟨_,rfl⟩
def tB:(Qs fs).underlying 291=some (.map 293 3):=by kernel_rfl
def Ob(w):(zeroValue 3).run (Qs fs) w=.ok (.int .i64 0) w:=by
 rw[gD];have h:((Tryz.prog.info? 3).bind (·.zero))=some (.int .i64 0):=by kernel_rfl
 cases a:Tryz.prog.info? 3 with
 |none=>rw[a]at h;cases h
 |some i=>rw[a]at h;simp only[TF]at h;simp[zeroValue,typeInfo,a,h]
end
def wfE(p:Bool×Int):Prop:=(Lit.int .i64 p.2).wf=true
structure Cnt(es:List MapEntry)(clock:Nat)(f:Bool×Int->Nat):Prop where
 ent:∀e∈es,∃p,wfE p/\e.key=ej p/\e.val=.int .i64 (f p)/\e.born<clock
 born:(es.map (·.born)).Nodup
 keys:es.Pairwise λx y=>x.key≠y.key
 all:∀p,f p≠0->∃e∈es,e.key=ej p
def eN(w:World)(b:Nat)(f:Bool×Int->Nat):Prop:=∃es a,w.heap[b]? =some (.map es a)/\Cnt es.toList a f
def eN.new(w:World):eN (w.alloc (.map #[] 0)) w.heap.size (λ_=>0):=⟨#[],0,Sd,⟨λe a=>(by cases a),List.nodup_nil,List.Pairwise.nil,λp b=>absurd rfl b⟩⟩
def eN.keep{w w' b f}(h:eN w b f)(c:w'.heap[b]? =w.heap[b]?):eN w' b f:=by obtain⟨es,a,d,e⟩:=h;exact⟨es,a,c.trans d,e⟩
def eN.lt{w b f}(h:eN w b f):b<w.heap.size:=by obtain⟨es,a,c,_⟩:=h;exact(Rx.1 c).1
section
variable (fs:Array Func)
def Cnt.find{es a f}(h:Cnt es a f)(p)(i:wfE p)(w):
 ((Instr.findKey 293 (ej p) es).run (Qs fs) w=.ok none w/\(∀e∈es,e.key≠ej p)/\f p=0)\/∃j e,(Instr.findKey 293 (ej p) es).run (Qs fs) w=.ok (some (j,.int .i64 (f p))) w/\es[j]? =some e/\e.key=ej p/\e.val=.int .i64 (f p):=by
 obtain⟨l,k⟩:=rS fs p i;rcases(tA fs).find w k es (λe c=>by obtain⟨q,d,b,_⟩:=h.ent e c;rw[b];exact rS fs q d)with⟨h1,h2⟩|⟨j,e,h1,h2,h3⟩
 ·refine .inl ⟨h1,h2,Ul λm=>?_⟩
  obtain⟨e,c,b⟩:=h.all p m;exact h2 e c b
 ·obtain⟨q,d,b,g,_⟩:=h.ent e (SN h2)
  have:=D7 (b.symm.trans h3);subst this;exact .inr ⟨j,e,by rw[h1,g],h2,h3,g⟩
def rT{w b f}(h:eN w b f)(p)(g:wfE p):(Instr.lookup 291 (.map (some b)) (ej p) false).run (Qs fs) w=.ok (.int .i64 (f p)) w:=by
 obtain⟨es,c,i,k⟩:=h;obtain⟨l,m⟩:=rS fs p g;have a:=λn=>(tA fs).check w n m;obtain⟨d,_,o⟩|⟨j,e,d,_⟩:=k.find fs p g w
 ·rw[o]
  simp[Instr.lookup,run_underlying (tB fs),MapKept.run_getObj_map (P:=Qs fs) i,a,d,Result.andThen,Ob]
 ·simp[Instr.lookup,run_underlying (tB fs),MapKept.run_getObj_map (P:=Qs fs) i,a,d,Result.andThen]
def dA(w:World)(b:Nat)(es:Array MapEntry)(a:Nat):World:={w with heap:=w.heap.setIfInBounds b (.map es a)}
def cW{w b es d g a}(i:w.heap[b]? =some (.map es g)):
 (dA w b d a).heap[b]? =some (.map d a)/\(∀k,k≠b->(dA w b d a).heap[k]? =w.heap[k]?)/\(∀B,B<=b->Below B w (dA w b d a))/\ae w (dA w b d a)/\(dA w b d a).heap.size=w.heap.size:=by
 refine⟨(heap_set i).1,λk h=>(heap_set i).2 k h,λB l=>⟨rfl,rfl,rfl,by simp[dA],λk h=>(heap_set i).2 k (by omega)⟩,λk c e f h=>?_,by simp[dA]⟩;have j:k≠b:=by rintro rfl;rw[i]at h;cases h
 exact((heap_set i).2 k j).trans h
def ir(w:World)(b:Nat)(p:Bool×Int)(st:Nat):Prop:=∃es a,w.heap[b]? =some (.map es a)/\∃(j:Nat) (e:MapEntry),es.toList[j]? =some e/\e.key=ej p/\e.born=st
def Jn{w b f}(h:eN w b f)(p)(r:wfE p):
 ∃es d,∃st:Nat,(Instr.mapEntry 291 (.map (some b)) (ej p)).run (Qs fs) w=.ok (.tuple #[.int .i64 (f p),.int .i64 st]) (dA w b es d)/\eN (dA w b es d) b f/\ir (dA w b es d) b p st:=by
 obtain⟨es,d,g,i⟩:=h;obtain⟨l,z⟩:=rS fs p r;have m:=λB=>(tA fs).check w B z;have s:=(tA fs).stays w z;obtain⟨t,u,A⟩|⟨j,e,t,o,n,L⟩:=i.find fs p r w
 ·refine⟨es.push ⟨ej p,.int .i64 0,d⟩,d+1,d,?_,⟨_,_,(cW g).1,?_⟩,⟨_,_,(cW g).1,es.size,⟨ej p,.int .i64 0,d⟩,by simp,rfl,rfl⟩⟩
  ·rw[A]
   simp[Instr.mapEntry,run_underlying (tB fs),MapKept.run_getObj_map (P:=Qs fs) g,m,t,Result.andThen,Ob,MapKept.run_setObj_map (P:=Qs fs) _ g,dA,goInt]
  ·rw[UX]
   refine⟨λx hx=>?_,?_,?_,λq C=>?_⟩
   ·obtain hx|hx:=Tt.1 hx
    ·obtain⟨q,D,E,F,G⟩:=i.ent x hx
     exact⟨q,D,E,F,by omega⟩
    ·cases TD.1 hx
     exact⟨p,r,rfl,by rw[A];rfl,by simp⟩
   ·rw[TA]
    refine List.nodup_append.2 ⟨i.born,by simp,λa H c I e=>?_⟩;obtain⟨x,hx,rfl⟩:=SU.1 H;obtain⟨_,_,_,_,G⟩:=i.ent x hx;simp at I;omega
   ·refine List.pairwise_append.2 ⟨i.keys,List.pairwise_singleton _ _,λx hx y J=>?_⟩
    cases TD.1 J;exact u x hx
   ·obtain⟨e,K,n⟩:=i.all q C
    exact⟨e,VB _ K,n⟩
 ·have v:es[j]? =some e:=by simpa using o
  have k:es.modify j (λe=>{e with key:=ej p})=es:=by
   apply Ug;rw[UD,ChangeMaps.modify_eq_set _ _ _ _ o];have:({e with key:=ej p}:MapEntry)=e:=by rw[<-n]
   rw[this];exact WideElems.set_self _ _ _ o
  refine⟨es,d,e.born,?_,⟨_,_,(cW g).1,i⟩,⟨_,_,(cW g).1,j,e,o,n,rfl⟩⟩;simp[Instr.mapEntry,run_underlying (tB fs),MapKept.run_getObj_map (P:=Qs fs) g,m,t,v,n,s,k,Result.andThen,MapKept.run_setObj_map (P:=Qs fs) _ g,dA,goInt]
def kb(e:MapEntry):Value×Nat:=(e.key,e.born)
def Cnt.shape{es a:List MapEntry}(h:a.map kb=es.map kb)(x)(c:x∈a):∃y∈es,y.key=x.key/\y.born=x.born:=by have b:kb x∈a.map kb:=SU.2 ⟨x,c,rfl⟩;rw[h]at b;obtain⟨y,d,e⟩:=SU.1 b;exact⟨y,d,R6 Prod.fst e,R6 Prod.snd e⟩
def ud{w b f p es}{a j:Nat}{e}(C:w.heap[b]? =some (.map es a))(m:Cnt es.toList a f)(c:es.toList[j]? =some e)(s:e.key=ej p)(I:wfE p)(v:Nat):
 ∃h,(Instr.entryStore 291 (.map (some b)) (.int .i64 e.born) (.int .i64 v)).run (Qs fs) w=.ok () (dA w b h a)/\Cnt h.toList a (λq=>if q=p then v else f q)/\h.toList.map kb=es.toList.map kb:=by
 have J:es[j]? =some e:=by simpa using c
 have o:es.findIdx? (λx=>((x.born:Nat):Int)==((e.born:Nat):Int))=some j:=by rw[WideElems.findIdx_arr];exact WideElems.findIdx_born m.born c
 refine⟨es.modify j (λx=>{x with val:=.int .i64 v}),?_,?_,by rw[UD,ChangeMaps.modify_eq_set _ _ _ _ c,List.map_set];refine WideElems.set_self _ _ _ ?_;rw[TE,c];rfl⟩
 ·simp[Instr.entryStore,MapKept.run_getObj_map (P:=Qs fs) C,asInt,asIntOf,o,Result.andThen,MapKept.run_setObj_map (P:=Qs fs) _ C,dA]
 ·rw[UD,ChangeMaps.modify_eq_set _ _ _ _ c]
  have r:j<es.toList.length:=(Ts.1 c).1;have mb:∀{K:Type} (g:MapEntry->K),g {e with val:=.int .i64 v}=g e->(es.toList.set j {e with val:=.int .i64 v}).map g=es.toList.map g:=λg L=>by rw[List.map_set,L];refine WideElems.set_self _ _ _ ?_;rw[TE,c];rfl
  have D:(es.toList.map (·.key)).Nodup:=by rw[List.Nodup,List.pairwise_map];exact m.keys
  refine⟨λx t=>?_,by rw[mb (·.born) rfl];exact m.born,?_,λq E=>?_⟩
  ·obtain⟨i,n⟩:=SZ.1 t
   rw[List.getElem?_set]at n;split at n
   ·rename_i k
    subst k;simp only[r,RG,Sg]at n;subst n;obtain⟨q,F,u,G,z⟩:=m.ent e (SN c);exact⟨p,I,s,by simp,z⟩
   ·rename_i k
    obtain⟨q,F,u,G,z⟩:=m.ent x (SN n);have d:q≠p:=by rintro rfl;refine k ((List.getElem?_inj (l:=es.toList.map (·.key)) (by simpa using r) D).1 ?_);rw[TE,TE,c,n];show some e.key=some x.key;rw[s,u]
    exact⟨q,F,u,by rw[Ro d];exact G,z⟩
  ·have:=mb (·.key) rfl
   have H:((es.toList.set j {e with val:=.int .i64 v}).map (·.key)).Nodup:=by rw[this];exact D
   rw[List.Nodup,List.pairwise_map]at H;exact H
  ·have M:∃x∈es.toList,x.key=ej q:=by
    by_cases d:q=p
    ·subst d
     exact⟨e,SN c,s⟩
    ·rw[Ro d]at E
     exact m.all q E
   obtain⟨x,t,A⟩:=M;have:x.key∈(es.toList.set j {e with val:=.int .i64 v}).map (·.key):=by rw[mb (·.key) rfl];exact SU.2 ⟨x,t,rfl⟩
   obtain⟨y,N,B⟩:=SU.1 this;exact⟨y,N,B.trans A⟩
def Jo{w b f p st}(h:eN w b f)(l:ir w b p st)(m:wfE p)(v:Nat):
 ∃es a,(Instr.entryStore 291 (.map (some b)) (.int .i64 st) (.int .i64 v)).run (Qs fs) w=.ok () (dA w b es a)/\eN (dA w b es a) b (λq=>if q=p then v else f q):=by
 obtain⟨es,a,g,n⟩:=h;obtain⟨o,d,c,j,e,r,s,i⟩:=l;rw[g]at c;cases c;subst i;obtain⟨k,a1,t,_⟩:=ud fs g n r s m v;exact⟨k,a,a1,_,_,(cW g).1,t⟩
def Gi{w b f p es a}(n:w.heap[b]? =some (.map es a))(r:Cnt es.toList a f)(o:wfE p)(s:f p≠0):
 ∃(j:Nat) (e:MapEntry),(Instr.mapEntry 291 (.map (some b)) (ej p)).run (Qs fs) w=.ok (.tuple #[.int .i64 (f p),.int .i64 e.born]) (dA w b es a)/\es.toList[j]? =some e/\e.key=ej p:=by
 obtain⟨l,q⟩:=rS fs p o;have g:=λt=>(tA fs).check w t q;have h:=(tA fs).stays w q;obtain⟨_,_,i⟩|⟨j,e,u,d,k,v⟩:=r.find fs p o w
 ·exact absurd i s
 ·have m:es[j]? =some e:=by simpa using d
  have c:es.modify j (λe=>{e with key:=ej p})=es:=by
   apply Ug;rw[UD,ChangeMaps.modify_eq_set _ _ _ _ d];have:({e with key:=ej p}:MapEntry)=e:=by rw[<-k]
   rw[this];exact WideElems.set_self _ _ _ d
  refine⟨j,e,?_,d,k⟩;simp[Instr.mapEntry,run_underlying (tB fs),MapKept.run_getObj_map (P:=Qs fs) n,g,u,m,k,h,c,Result.andThen,MapKept.run_setObj_map (P:=Qs fs) _ n,dA,goInt]
end
end Go.Proofs

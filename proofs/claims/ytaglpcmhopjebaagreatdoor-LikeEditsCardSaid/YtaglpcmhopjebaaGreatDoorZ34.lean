import Derived.Test.YtaglpcmhopjebaaGreatDoorZ33
set_option linter.all false
set_option maxRecDepth 100000
set_option maxHeartbeats 20000000
namespace Go.Proofs
open Go.Tm Go.RowKit
variable {fs:Array Func} (L:bX fs)
def zN(i a y b)(h:aI a b+1=aI a (y::b)):aP i a (y::b)=((i:Int),0,codeOf y)::aP i a b:=by
 cases a with
 |nil=>rw[aP]
 |cons x a=>rw[aP,Rm (by omega),Rn h]
def xn(i x)(a b:Bs)(d:∀y c,b=y::c->aI (x::a) c+1≠aI (x::a) b)(h:aI a b+1=aI (x::a) b):aP i (x::a) b=((i:Int),1,0)::aP (i+1) a b:=by
 cases b with
 |nil=>rw[aP]
 |cons y b=>rw[aP,Rm (by omega),Rm (d y b rfl),Rn h]
def xo(a b)(c:aI a b≠0)(f:∀y d,b=y::d->aI a d+1≠aI a b)(g:∀x e,a=x::e->aI e b+1≠aI a b):a≠[]/\b≠[]:=by
 constructor
 ·rintro rfl
  cases b with
  |nil=>exact c (eR [])
  |cons y b=>exact f y b rfl (by rw[eR,eR];rfl)
 ·rintro rfl
  cases a with
  |nil=>exact c (eR [])
  |cons x a=>exact g x a rfl (by rw[gI,gI];rfl)
def xp(i x y)(a b:Bs)(c:aI (x::a) (y::b)≠0)(d:aI (x::a) b+1≠aI (x::a) (y::b))(e:aI a (y::b)+1≠aI (x::a) (y::b)):
 aP i (x::a) (y::b)=if x=y then aP (i+1) a b else((i),2,codeOf y)::aP (i+1) a b:=by
 rw[aP,Rm c,Rm d,Rm e];by_cases h:x=y
 ·rw[Rm (λg=>g h),Rn h]
 ·rw[Rn h,Rm h]
def iF(l:List Ed):List Value:=l.flatMap λe=>[.int .i64 e.1,.int .i64 e.2.1,.int .u8 e.2.2]
def xq(l e):iF (l++[e])=iF l++[.int .i64 e.1,.int .i64 e.2.1,.int .u8 e.2.2]:=by unfold iF;rw[T7];rfl
def OO:((Tryz.prog).info? 96).map (λi=>(i.zero,i.size,i.bytes))=some (some (.agg #[.int .i64 0,.int .i64 0,.int .u8 0]),3,24):=by kernel_rfl
def Ea(fs):((Qs fs).info? 96).map (λi=>(i.zero,i.size,i.bytes))=some (some (.agg #[.int .i64 0,.int .i64 0,.int .u8 0]),3,24):=OO
def jf.keep{w wr w' a b q p}(h:jf w wr a b q p)(c:Below (w.heap.size+1) wr w'):jf w w' a b q p:=⟨h.row.of_block (c.block _ (by omega)),h.below.trans (c.mono (by omega))⟩
def mZ{w:World}{B B' e k v n xs}(h:w.ownsRow B' e k v n xs)(i:B<=B'):w.ownsRow B e k v n xs:=by
 refine⟨h.1,?_⟩;obtain b|⟨g,cap,a,c,j,d,f⟩:=h.2
 ·exact .inl b
 ·exact .inr ⟨g,cap,a,c,by omega,d,f⟩
def dm(a b:ByteArray):Int:=if 48<a.size\/48<b.size then 2 else if a.data.toList.all aU&&b.data.toList.all aU then 0 else 3
def eB(a b:ByteArray):List Ed:=if dm a b=0 then eP a.data.toList b.data.toList else[]
def rT(s):bp s 0 s.size=s.data.toList.all aU:=by unfold bp au;simp
def Bj(a b:ByteArray)(w:World)(b5:a.size<1000000)(b6:b.size<1000000):
 Calls (Qs fs) 29 #[.string a,.string b] w λe w'=>∃v,e=.returned (.tuple #[v,.int .i64 (dm a b)])/\w'.ownsRow w.heap.size 96 3 v (eB a b).length (iF (eB a b))/\Below w.heap.size w w':=by
 have e72:=e72 L;have e73:=e73 L;by_cases W:48<a.size\/48<b.size
 ·have hF:dm a b=2:=Rn W
  have hR:eB a b=[]:=by unfold eB;rw[hF];rfl
  have O:Hid (dm a b=2/\eB a b=[]):=⟨hF,hR⟩
  clear hF hR;obtain h1|h1:=Rv 48 a.size
  ·have g1:(48:Int)<(a.size:Int):=by omega
   clear W h1;go_enter (n29 L),Tryz.ntmps29;go_wp2
   go_ret2
   exact⟨_,by rw[O.out.1];rfl,by rw[O.out.2];exact World.ownsRow_nil _ _ _ _,Below.refl _ _⟩
  ·have g1:decide ((48:Int)<(a.size:Int))=false:=Rr (by omega)
   have g2:(48:Int)<(b.size:Int):=by omega
   clear W h1;go_enter (n29 L),Tryz.ntmps29;go_wp2
   go_ret2
   exact⟨_,by rw[O.out.1];rfl,by rw[O.out.2];exact World.ownsRow_nil _ _ _ _,Below.refl _ _⟩
 ·have g1:decide ((48:Int)<(a.size:Int))=false:=Rr (by omega)
  have g2:decide ((48:Int)<(b.size:Int))=false:=Rr (by omega);have q1:=λwx=>iO L a 0 a.size wx (by omega);have q2:=λwx=>iO L b 0 b.size wx (by omega);rw[rT]at q1 q2;have HP:Hid (dm a b=if a.data.toList.all aU&&b.data.toList.all aU then 0 else 3):=Rm W;have bb:a.size<=48:=by omega
  have bd:b.size<=48:=by omega
  clear W;cases E:a.data.toList.all aU with
  |false=>
   rw[E]at q1;have O:Hid (dm a b=3/\eB a b=[]):=by
    have h:dm a b=3:=by rw[HP.out,E];rfl
    exact⟨h,by unfold eB;rw[h];rfl⟩
   clear E;go_enter (n29 L),Tryz.ntmps29;go_wp2_with (first|(go_at_call 72;refine(q1 _).mono ?_;clear q1;rintro e w2 ⟨rfl,F⟩))
   go_ret2
   exact⟨_,by rw[O.out.1];rfl,by rw[O.out.2];exact World.ownsRow_nil _ _ _ _,F⟩
  |true=>
   rw[E]at q1;cases M:b.data.toList.all aU with
   |false=>
    rw[M]at q2;have O:Hid (dm a b=3/\eB a b=[]):=by
     have h:dm a b=3:=by rw[HP.out,E,M];rfl
     exact⟨h,by unfold eB;rw[h];rfl⟩
    clear E M;go_enter (n29 L),Tryz.ntmps29;go_wp2_with (first|(go_at_call 72;refine(q1 _).mono ?_;clear q1;rintro e w2 ⟨rfl,F⟩)|(go_at_call 72;refine(q2 _).mono ?_;clear q2;rintro e w3 ⟨rfl,ad⟩))
    go_ret2
    exact⟨_,by rw[O.out.1];rfl,by rw[O.out.2];exact World.ownsRow_nil _ _ _ _,F.trans (ad.mono F.size)⟩
   |true=>
    rw[M]at q2;have O:Hid (dm a b=0/\eB a b=eP a.data.toList b.data.toList):=by
     have h:dm a b=0:=by rw[HP.out,E,M];rfl
     exact⟨h,by unfold eB;rw[h];rfl⟩
    have ax:=λwx=>Gz L a b wx bb bd;obtain⟨i0,hi,P,Q,R⟩:=info_parts (Ea fs);have hA:=Lib.size_eq a;have hB:=Lib.size_eq b;have ay:∀q (h:q<a.size),a.data.toList.drop q=a[q]::a.data.toList.drop (q+1):=λq h=>drop_cons a q h;have aM:∀q (h:q<b.size),b.data.toList.drop q=b[q]::b.data.toList.drop (q+1):=λq h=>drop_cons b q h;obtain⟨A,a1⟩:=ex (a.data.toList);obtain⟨B,af⟩:=ex (b.data.toList);rw[<-a1]at hA ay;rw[<-af]at hB aM;rw[<-a1,<-af]at ax O;have m:Hid (a.size=A.length/\b.size=B.length):=⟨hA,hB⟩
    have HG:Hid ((∀q (h:q<a.size),A.drop q=a[q]::A.drop (q+1))/\(∀q (h:q<b.size),B.drop q=b[q]::B.drop (q+1))):=⟨ay,aM⟩
    have f:Hid (A.length<=48/\B.length<=48):=⟨by omega,by omega⟩
    have HL:Hid ((eP A B).length<=48):=by rw[Hid,pL A B (by rw[af];exact M)];have:=ow A B;omega
    clear hA hB a1 af ay aM E M HP;go_enter (n29 L),Tryz.ntmps29;go_wp2_with (first|(go_at_call 72;refine(q1 _).mono ?_;clear q1;rintro e w2 ⟨rfl,F⟩)|(go_at_call 72;refine(q2 _).mono ?_;clear q2;rintro e w3 ⟨rfl,ad⟩)|(go_at_call 73;refine(ax _).mono ?_;clear ax;rintro e w4 ⟨rfl,g⟩))
    have a6:Hid (Below w.heap.size w w3):=F.trans (ad.mono F.size);have bo:Hid _:=g;clear F ad g;obtain⟨N,hN⟩:=ex (w3.heap.size);have HN:Hid _:=hN;rw[<-hN];clear hN;go_loopw [7,8,9] (λv s8 s9 wr=>∃(vF:Value) (i k:Nat) (K:List Ed),vF=v/\s8=.int .i64 i/\s9=.int .i64 k/\i<=A.length/\k<=B.length/\K++aP i (A.drop i) (B.drop k)=eP A B/\wr.ownsRow (w3.heap.size+1) 96 3 vF K.length (iF K)/\jf w3 wr A B 0 0) (λv s8 s9 _=>(A.length-(intOf s8).toNat)+(B.length-(intOf s9).toNat))
    case atStart=>exact⟨_,0,0,[],rfl,rfl,rfl,Rz _,Rz _,rfl,World.ownsRow_nil _ _ _ _,bo.out⟩
    case round=>
     obtain⟨vF,i,k,K,rfl,rfl,rfl,X,ag,p,l,g⟩:=hrel;have HT:Hid _:=p;have HO:Hid (wr.ownsRow (w3.heap.size+1) 96 3 vF K.length (iF K)/\jf w3 wr A B 0 0):=⟨l,g⟩
     have hd:=g.cell f.out.1 f.out.2 X ag (by omega);rw[<-HN.out]at hd;have bC:(i:Int)<49:=by have:=f.out;omega
     have b0:(k:Int)<49:=by have:=f.out;omega
     have br:aI (A.drop i) (B.drop k)<=2000:=Rp (fG _ _) (by rw[RB,RB];have:=f.out;omega);obtain⟨D,hD⟩:=ex (aI (A.drop i) (B.drop k));rw[<-hD]at hd br;have HD:Hid _:=hD;by_cases ak:D=0
     ·subst ak
      clear p l g hD;go_wp2
      go_ret2
      have he:K=eP A B:=by have:=HT.out;rw[mY _ _ HD.out.symm,tC,S9]at this;exact this
      subst he;exact⟨_,by rw[O.out.1];rfl,by rw[O.out.2];exact mZ HO.out.1 (by have:=a6.out.size;omega),a6.out.trans (HO.out.2.below.mono a6.out.size)⟩
     ·have bs:(0:Int)<(D:Int):=by omega
      have ao:=X;have S:=ag;have b1:w3.heap.size<wr.heap.size:=g.row.lt;have G:Hid (∀(W0:World),Below (w3.heap.size+1) wr W0->∀(o:Obj) (Y:Value) (U:World) (e:Ed) (i2 k2:Nat),i2<=A.length->k2<=B.length->aP i (A.drop i) (B.drop k)=e::aP i2 (A.drop i2) (B.drop k2)->U.ownsRow (w3.heap.size+1) 96 3 Y (K.length+1) (iF K++[.int .i64 e.1,.int .i64 e.2.1,.int .u8 e.2.2])->(W0.alloc o).grownBy U vF.ownBlock->
       ∃s:List Ed,s++aP i2 (A.drop i2) (B.drop k2)=eP A B/\U.ownsRow (w3.heap.size+1) 96 3 Y s.length (iF s)/\jf w3 U A B 0 0):=by
       intro W0 a7 o Y U e i2 k2 h1 h2 h3 h4 h5;refine⟨K++[e],?_,?_,?_⟩
       ·rw[<-HT.out,h3,R4];rfl
       ·rw[xq,RH];exact h4
       ·exact HO.out.2.keep ((a7.alloc (by have:=a7.size;omega) o).grown h5 (by have:=a7.size;simp;omega) (dN HO.out.1))
      have H:Hid (K.length<=48):=by have h:=R3 List.length HT.out;rw[RH]at h;have:=HL.out;show K.length<=48;omega
      by_cases T:k<b.size/\aI (A.drop i) (B.drop (k+1))+1=D
      ·have I:=g.cell f.out.1 f.out.2 (r:=i) (k:=k+1) X (by have:=m.out;omega) (by omega)
       rw[<-HN.out]at I;have hkb:(k:Int)<(b.size:Int):=by omega
       have b2:=T.1;have HE:Hid (aP i (A.drop i) (B.drop k)=((i:Int),0,codeOf b[k])::aP i (A.drop i) (B.drop (k+1))):=by rw[Hid,HG.out.2 k T.1];refine zN i _ _ _ ?_;rw[<-HG.out.2 k T.1,<-HD.out];exact T.2
       have bk:=T.2;obtain⟨d1,z⟩:=ex (aI (A.drop i) (B.drop (k+1)));rw[<-z]at I bk;have hq:((d1:Int)==(D:Int)-1)=true:=by rw[Sf];omega
       have Z:(k:Int)+1<49:=by have:=f.out;have:=m.out;omega
       clear p g hD T z bk;go_wp2_with (first|(at_builtin;refine wpList_append_own _ rfl _ _ 53 rfl (w3.heap.size+1) 96 i0 (.agg #[.int .i64 0,.int .i64 0,.int .u8 0]) 3 24 Tryz.underlying53 hi P Q R rfl (by decide) _ _ _ rfl (l.alloc _) ⟨_,0,none⟩ 1 1 [.int .i64 i,.int .i64 0,.int .u8 (b[k].toNat:Int)] rfl rfl ?c1 ?c2 ?c3 ?c4 ?c5 ?_))
       case c1=>intro j u C;rw[de,RA];exact av wr _ 96 j u (by simpa using C)
       case c2=>intro u C;simp at C;rcases C with rfl|rfl|rfl<;>rfl
       case c3=>have:=H.out;unfold maxLen;omega
       case c4=>have:=H.out;omega
       case c5=>simp;omega
       intro Y U c d _;obtain⟨s,z1,z2,z3⟩:=G.out _ (Below.refl _ wr) _ Y U ((i:Int),0,codeOf b[k]) i (k+1) ao (by have:=m.out;omega) HE.out c d;clear G l c d;go_wp2;exact⟨⟨_,i,k+1,s,rfl,rfl,by go_num,ao,by have:=m.out;omega,z1,z2,z3⟩,by simp[intOf];have:=m.out;omega⟩
      ·by_cases n:i<a.size/\aI (A.drop (i+1)) (B.drop k)+1=D
       ·have e10:=g.cell f.out.1 f.out.2 (r:=i+1) (k:=k) (by have:=m.out;omega) ag (by omega)
        rw[<-HN.out]at e10;have a8:(i:Int)<(a.size:Int):=by omega
        have b3:=n.1;have HE:Hid (aP i (A.drop i) (B.drop k)=((i:Int),1,0)::aP (i+1) (A.drop (i+1)) (B.drop k)):=by
         rw[Hid,HG.out.1 i n.1];refine xn i _ _ _ (λy b' hy he=>T ?_) ?_
         ·have hk:k<b.size:=by
           obtain h|h:=Rv k b.size
           ·exact h
           ·rw[RR (by have:=m.out;omega)]at hy;cases hy
          have al:=hy;rw[HG.out.2 k hk]at al;injection al with _ al;subst al;rw[<-HG.out.1 i n.1,<-HD.out]at he;exact⟨hk,he⟩
         ·rw[<-HG.out.1 i n.1,<-HD.out]
          exact n.2
        have aa:=n.2;obtain⟨d2,t⟩:=ex (aI (A.drop (i+1)) (B.drop k));rw[<-t]at e10 aa;have bx:((d2:Int)==(D:Int)-1)=true:=by rw[Sf];omega
        have ba:(i:Int)+1<49:=by have:=f.out;have:=m.out;omega
        obtain hkb|hkb:=Rv k b.size
        ·have I:=g.cell f.out.1 f.out.2 (r:=i) (k:=k+1) X (by have:=m.out;omega) (by omega)
         rw[<-HN.out]at I;have J:aI (A.drop i) (B.drop (k+1))+1≠D:=λh=>T ⟨hkb,h⟩;obtain⟨d1,z⟩:=ex (aI (A.drop i) (B.drop (k+1)));rw[<-z]at I J;have hq:((d1:Int)==(D:Int)-1)=false:=by rw[RV];omega
         have ar:(k:Int)<(b.size:Int):=by omega
         have Z:(k:Int)+1<49:=by have:=f.out;have:=m.out;omega
         clear p g hD T z J n t aa;go_wp2_with (first|(at_builtin;refine wpList_append_own _ rfl _ _ 53 rfl (w3.heap.size+1) 96 i0 (.agg #[.int .i64 0,.int .i64 0,.int .u8 0]) 3 24 Tryz.underlying53 hi P Q R rfl (by decide) _ _ _ rfl (l.alloc _) ⟨_,0,none⟩ 1 1 [.int .i64 i,.int .i64 1,.int .u8 0] rfl rfl ?c1 ?c2 ?c3 ?c4 ?c5 ?_))
         case c1=>intro j u C;rw[de,RA];exact av wr _ 96 j u (by simpa using C)
         case c2=>intro u C;simp at C;rcases C with rfl|rfl|rfl<;>rfl
         case c3=>have:=H.out;unfold maxLen;omega
         case c4=>have:=H.out;omega
         case c5=>simp;omega
         intro Y U c d _;obtain⟨s,z1,z2,z3⟩:=G.out _ (Below.refl _ wr) _ Y U ((i:Int),1,0) (i+1) k (by have:=m.out;omega) S HE.out c d;clear G l c d;go_wp2;exact⟨⟨_,i+1,k,s,rfl,by go_num,by go_num,(by have:=m.out;omega),S,z1,z2,z3⟩,by simp[intOf];have:=m.out;omega⟩
        ·have ar:decide ((k:Int)<(b.size:Int))=false:=Rr (by omega)
         clear p g hD T n t aa;go_wp2_with (first|(at_builtin;refine wpList_append_own _ rfl _ _ 53 rfl (w3.heap.size+1) 96 i0 (.agg #[.int .i64 0,.int .i64 0,.int .u8 0]) 3 24 Tryz.underlying53 hi P Q R rfl (by decide) _ _ _ rfl (l.alloc _) ⟨_,0,none⟩ 1 1 [.int .i64 i,.int .i64 1,.int .u8 0] rfl rfl ?c1 ?c2 ?c3 ?c4 ?c5 ?_))
         case c1=>intro j u C;rw[de,RA];exact av wr _ 96 j u (by simpa using C)
         case c2=>intro u C;simp at C;rcases C with rfl|rfl|rfl<;>rfl
         case c3=>have:=H.out;unfold maxLen;omega
         case c4=>have:=H.out;omega
         case c5=>simp;omega
         intro Y U c d _;obtain⟨s,z1,z2,z3⟩:=G.out _ (Below.refl _ wr) _ Y U ((i:Int),1,0) (i+1) k (by have:=m.out;omega) S HE.out c d;clear G l c d;go_wp2;exact⟨⟨_,i+1,k,s,rfl,by go_num,by go_num,(by have:=m.out;omega),S,z1,z2,z3⟩,by simp[intOf];have:=m.out;omega⟩
       ·have an:=xo (A.drop i) (B.drop k) (by rw[<-HD.out];exact ak) (λy b' hy he=>T (by
         have hk:k<b.size:=by
          obtain h|h:=Rv k b.size
          ·exact h
          ·rw[RR (by have:=m.out;omega)]at hy;cases hy
         rw[HG.out.2 k hk]at hy;injection hy with _ hy;subst hy;rw[<-HD.out]at he;exact⟨hk,he⟩)) (λx a' hx he=>n (by
         have hk:i<a.size:=by
          obtain h|h:=Rv i a.size
          ·exact h
          ·rw[RR (by have:=m.out;omega)]at hx;cases hx
         rw[HG.out.1 i hk]at hx;injection hx with _ hx;subst hx;rw[<-HD.out]at he;exact⟨hk,he⟩))
        have a8:i<a.size:=by
         obtain h|h:=Rv i a.size
         ·exact h
         ·exact absurd (RR (by have:=m.out;omega)) an.1
        have hkb:k<b.size:=by
         obtain h|h:=Rv k b.size
         ·exact h
         ·exact absurd (RR (by have:=m.out;omega)) an.2
        have J:aI (A.drop i) (B.drop (k+1))+1≠D:=λh=>T ⟨hkb,h⟩;have ab:aI (A.drop (i+1)) (B.drop k)+1≠D:=λh=>n ⟨a8,h⟩;have bm:Hid (aP i (A.drop i) (B.drop k)=if a[i]=b[k]then aP (i+1) (A.drop (i+1)) (B.drop (k+1))else((i:Int),2,codeOf b[k])::aP (i+1) (A.drop (i+1)) (B.drop (k+1))):=by
         have k1:=HG.out.1 i a8;have k2:=HG.out.2 k hkb;rw[HD.out,k1,k2]at J ab ak;rw[Hid,k1,k2];refine xp i _ _ _ _ ak ?_ ?_
         ·rw[<-k1];exact(by rw[k1];exact J)
         ·rw[<-k2];exact(by rw[k2];exact ab)
        have I:=g.cell f.out.1 f.out.2 (r:=i) (k:=k+1) X (by have:=m.out;omega) (by omega);have e10:=g.cell f.out.1 f.out.2 (r:=i+1) (k:=k) (by have:=m.out;omega) ag (by omega);rw[<-HN.out]at I e10;obtain⟨d1,z⟩:=ex (aI (A.drop i) (B.drop (k+1)));rw[<-z]at I J;obtain⟨d2,t⟩:=ex (aI (A.drop (i+1)) (B.drop k));rw[<-t]at e10 ab;have hq:((d1:Int)==(D:Int)-1)=false:=by rw[RV];omega
        have bx:((d2:Int)==(D:Int)-1)=false:=by rw[RV];omega
        have b4:(i:Int)<(a.size:Int):=by omega
        have ar:(k:Int)<(b.size:Int):=by omega
        have ba:(i:Int)+1<49:=by have:=f.out;have:=m.out;omega
        have Z:(k:Int)+1<49:=by have:=f.out;have:=m.out;omega
        by_cases V:a[i]=b[k]
        ·have bA:((a[i].toNat:Int)!=(b[k].toNat:Int))=false:=by rw[V];simp
         have bB:Hid (K++aP (i+1) (A.drop (i+1)) (B.drop (k+1))=eP A B):=by have h:=bm.out;rw[Rn V]at h;rw[Hid,<-h];exact HT.out
         clear p g l hD T z J ab n t an V;go_wp2;go_quiet (fail);go_wp2;exact⟨⟨_,i+1,k+1,K,rfl,by go_num,by go_num,by have:=m.out;omega,by have:=m.out;omega,bB.out,HO.out.1,HO.out.2.drewN _⟩,by simp[intOf];have:=m.out;omega⟩
        ·have bA:((a[i].toNat:Int)!=(b[k].toNat:Int))=true:=by rw[Th];intro h;exact V (T4.1 (by omega))
         have HE:Hid (aP i (A.drop i) (B.drop k)=((i:Int),2,codeOf b[k])::aP (i+1) (A.drop (i+1)) (B.drop (k+1))):=by have h:=bm.out;rw[Rm V]at h;exact h
         clear p g hD T z J ab n t an V;go_wp2;go_quiet (fail);go_wp2_with (first|(at_builtin;refine wpList_append_own _ rfl _ _ 53 rfl (w3.heap.size+1) 96 i0 (.agg #[.int .i64 0,.int .i64 0,.int .u8 0]) 3 24 Tryz.underlying53 hi P Q R rfl (by decide) _ _ _ rfl ((show World.ownsRow (wr.drewN nq) (w3.heap.size+1) 96 3 vF K.length (iF K)from l).alloc _) ⟨_,0,none⟩ 1 1 [.int .i64 i,.int .i64 2,.int .u8 (b[k].toNat:Int)] rfl rfl ?c1 ?c2 ?c3 ?c4 ?c5 ?_))
         case c1=>intro j u C;rw[de,RA];exact av (wr.drewN nq) _ 96 j u (by simpa using C)
         case c2=>intro u C;simp at C;rcases C with rfl|rfl|rfl<;>rfl
         case c3=>have:=H.out;unfold maxLen;omega
         case c4=>have:=H.out;omega
         case c5=>simp;omega
         intro Y U c d _;obtain⟨s,z1,z2,z3⟩:=G.out _ ((Below.refl _ wr).bh nq) _ Y U ((i:Int),2,codeOf b[k]) (i+1) (k+1) (by have:=m.out;omega) (by have:=m.out;omega) HE.out c d;clear G l c d;go_wp2;exact⟨⟨_,i+1,k+1,s,rfl,by go_num,by go_num,(by have:=m.out;omega),(by have:=m.out;omega),z1,z2,z3⟩,by simp[intOf];have:=m.out;omega⟩
def yu{a b}(h:¬(48<a.size\/48<b.size)):bp a 0 48=a.data.toList.all aU/\bp b 0 48=b.data.toList.all aU:=by
 unfold bp au;constructor
 ·rw[Ry (by omega),Ry (by omega)];simp
 ·rw[Ry (by omega),Ry (by omega)];simp
def ug(a b:ByteArray)(w:World)(o:a.size<1000000)(p:b.size<1000000):Calls (Qs fs) 87 #[.string a,.string b] w λe w'=>e=.returned (.int .i64 (dm a b))/\w'=w:=by
 have e61:=e61 L;by_cases d:48<a.size\/48<b.size
 ·have h:Hid (dm a b=2):=Rn d
  obtain h1|h1:=Rv 48 a.size
  ·have l:(48:Int)<(a.size:Int):=by omega
   clear d h1;go_enter (n87 L),Tryz.ntmps87;go_wp2;go_ret;exact⟨by rw[h.out];rfl,rfl⟩
  ·have l:decide ((48:Int)<(a.size:Int))=false:=Rr (by omega)
   have q:(48:Int)<(b.size:Int):=by omega
   clear d h1;go_enter (n87 L),Tryz.ntmps87;go_wp2;go_ret;exact⟨by rw[h.out];rfl,rfl⟩
 ·have l:decide ((48:Int)<(a.size:Int))=false:=Rr (by omega)
  have q:decide ((48:Int)<(b.size:Int))=false:=Rr (by omega);obtain⟨m,n⟩:=yu d;have g:=λj=>vc L a 0 48 j (by omega);have i:=λj=>vc L b 0 48 j (by omega);rw[m]at g;rw[n]at i;have k:Hid (dm a b=if a.data.toList.all aU&&b.data.toList.all aU then 0 else 3):=Rm d;clear d m n;cases c:a.data.toList.all aU with
  |false=>
   rw[c]at g;have h:Hid (dm a b=3):=by rw[Hid,k.out,c];rfl
   clear c;go_enter (n87 L),Tryz.ntmps87;go_wp2_with (first|(go_at_call 61;refine(g _).mono ?_;clear g;rintro e w2 ⟨rfl,rfl⟩))
   go_ret;exact⟨by rw[h.out];rfl,rfl⟩
  |true=>
   rw[c]at g;cases f:b.data.toList.all aU with
   |false=>
    rw[f]at i;have h:Hid (dm a b=3):=by rw[Hid,k.out,c,f];rfl
    clear c f;go_enter (n87 L),Tryz.ntmps87;go_wp2_with (first|(go_at_call 61;refine(g _).mono ?_;clear g;rintro e w2 ⟨rfl,rfl⟩)|(go_at_call 61;refine(i _).mono ?_;clear i;rintro e w3 ⟨rfl,rfl⟩))
    go_ret;exact⟨by rw[h.out];rfl,rfl⟩
   |true=>
    rw[f]at i;have h:Hid (dm a b=0):=by rw[Hid,k.out,c,f];rfl
    clear c f;go_enter (n87 L),Tryz.ntmps87;go_wp2_with (first|(go_at_call 61;refine(g _).mono ?_;clear g;rintro e w2 ⟨rfl,rfl⟩)|(go_at_call 61;refine(i _).mono ?_;clear i;rintro e w3 ⟨rfl,rfl⟩))
    go_ret;exact⟨by rw[h.out];rfl,rfl⟩
structure xt(N:Nat)(wr:World)(A B:Bs):Prop where
 outer:∀r,r<=A.length->wr.cell? ⟨N,r,none⟩=some (.slice (some ⟨N+1+(A.length-r),0,none⟩) (B.length+1) (B.length+1))
 row:∀r k,r<=A.length->k<=B.length->wr.cell? ⟨N+1+(A.length-r),k,none⟩=some (.int .i64 (aI (A.drop r) (B.drop k)))
def xt.of{w wr A B}(h:Rows w wr A B 0):xt w.heap.size wr A B:=
 ⟨λr a=>by
  rw[h.outer.cell (by omega)];unfold mC;rw[Rn (Rz _)],λr k a b=>by
  rw[(h.rows r (Rz _) a).cell (by omega)];unfold vl;rw[Rn (Rz _)]⟩
def xt.stays{N wr w' A B}(h:xt N wr A B)(b:ae wr w'):xt N w' A B:=⟨λr a=>b.cell (h.outer r a),λr k a c=>b.cell (h.row r k a c)⟩
def Lm(a b:ByteArray)(w:World)(bB:a.size<1000000)(bC:b.size<1000000):
 Calls (Qs fs) 45 #[.string a,.string b] w λe w'=>∃v,e=.returned (.tuple #[v,.int .i64 (dm a b)])/\w'.ownsRow w.heap.size 96 3 v (eB a b).length (iF (eB a b))/\Below w.heap.size w w':=by
 have e87:=e87 L;have e88:=e88 L;have X:=ug L a b w bB bC;by_cases s:dm a b=0
 ·have HF:Hid (dm a b=0/\eB a b=eP a.data.toList b.data.toList):=⟨s,by unfold eB;rw[Rn s]⟩
  rw[s]at X;have bs:¬(48<a.size\/48<b.size):=λh=>by have h2:dm a b=2:=Rn h;rw[h2]at s;cases s
  have ay:b.data.toList.all aU=true:=by
   have h2:dm a b=if a.data.toList.all aU&&b.data.toList.all aU then 0 else 3:=Rm bs
   rw[h2]at s;cases h1:a.data.toList.all aU<;>cases h3:b.data.toList.all aU<;>rw[h1,h3]at s<;>simp at s⊢
  have aM:=λwx=>tJ L a b wx (by omega) (by omega);obtain⟨i0,hi,S,T,U⟩:=info_parts (Ea fs);have hA:=Lib.size_eq a;have hB:=Lib.size_eq b;have a1:∀q (h:q<a.size),a.data.toList.drop q=a[q]::a.data.toList.drop (q+1):=λq h=>drop_cons a q h;have a6:∀q (h:q<b.size),b.data.toList.drop q=b[q]::b.data.toList.drop (q+1):=λq h=>drop_cons b q h;obtain⟨A,a7⟩:=ex (a.data.toList);obtain⟨B,a8⟩:=ex (b.data.toList);rw[<-a7]at hA a1;rw[<-a8]at hB a6 ay;rw[<-a7,<-a8]at aM HF;have l:Hid (a.size=A.length/\b.size=B.length):=⟨hA,hB⟩
  have HG:Hid ((∀q (h:q<a.size),A.drop q=a[q]::A.drop (q+1))/\(∀q (h:q<b.size),B.drop q=b[q]::B.drop (q+1))):=⟨a1,a6⟩
  have Y:Hid (A.length<=48/\B.length<=48):=⟨by omega,by omega⟩
  have HL:Hid ((eP A B).length<=48):=by rw[Hid,pL A B ay];have:=ow A B;omega
  clear hA hB a7 a8 a1 a6 ay bs s;go_enter (n45 L),Tryz.ntmps45;go_wp2_with (first|(go_at_call 87;refine X.mono ?_;clear X;rintro e w2 ⟨rfl,rfl⟩)|(go_at_call 88;refine(aM _).mono ?_;clear aM;rintro e w4 ⟨rfl,ba⟩))
  have af:Hid (xt w2.heap.size w4 A B/\Below w2.heap.size w2 w4):=⟨xt.of ba,ba.below⟩
  clear ba;obtain⟨N,hN⟩:=ex (w2.heap.size);have HN:Hid _:=hN;rw[<-hN];clear hN;go_loopw [8,9,10] (λv s8 s9 wr=>∃(vF:Value) (i k:Nat) (I:List Ed),vF=v/\s8=.int .i64 i/\s9=.int .i64 k/\i<=A.length/\k<=B.length/\I++aP i (A.drop i) (B.drop k)=eP A B/\wr.ownsRow w4.heap.size 96 3 vF I.length (iF I)/\Below w4.heap.size w4 wr) (λv s8 s9 _=>(A.length-(intOf s8).toNat)+(B.length-(intOf s9).toNat))
  case atStart=>exact⟨_,0,0,[],rfl,rfl,rfl,Rz _,Rz _,rfl,World.ownsRow_nil _ _ _ _,Below.refl _ _⟩
  case round=>
   obtain⟨vF,i,k,I,rfl,rfl,rfl,Z,ag,C,p,t⟩:=hrel;have HT:Hid _:=C;have r:=af.out.1.stays (ae.below t);have HO:Hid (wr.ownsRow w4.heap.size 96 3 vF I.length (iF I)/\Below w4.heap.size w4 wr):=⟨p,t⟩
   have ho:=r.outer i Z;have hd:=r.row i k Z ag;rw[<-HN.out]at ho hd;rw[<-l.out.2]at ho;have b0:aI (A.drop i) (B.drop k)<=2000:=Rp (fG _ _) (by rw[RB,RB];have:=Y.out;omega);have b6:(k:Int)<(b.size:Int)+1:=by have:=l.out;omega
   have b7:(i:Int)<(a.size:Int)+1:=by have:=l.out;omega
   obtain⟨R0,bb⟩:=ex (N+1+(A.length-i));rw[<-bb]at ho hd;have bd:Hid _:=bb;clear bb;obtain⟨D,hD⟩:=ex (aI (A.drop i) (B.drop k));rw[<-hD]at hd b0;have HD:Hid _:=hD;by_cases ak:D=0
   ·subst ak
    clear C r p t hD;go_wp2
    go_ret2
    have he:I=eP A B:=by have:=HT.out;rw[mY _ _ HD.out.symm,tC,S9]at this;exact this
    subst he;exact⟨_,by rw[HF.out.1];rfl,by rw[HF.out.2];exact mZ HO.out.1 af.out.2.size,af.out.2.trans (HO.out.2.mono af.out.2.size)⟩
   ·have b1:(0:Int)<(D:Int):=by omega
    have ar:=Z;have V:=ag;have M:Hid (∀(W0:World),Below w4.heap.size wr W0->∀(o:Obj) (v':Value) (w5:World) (e:Ed) (i2 k2:Nat),i2<=A.length->k2<=B.length->aP i (A.drop i) (B.drop k)=e::aP i2 (A.drop i2) (B.drop k2)->w5.ownsRow w4.heap.size 96 3 v' (I.length+1) (iF I++[.int .i64 e.1,.int .i64 e.2.1,.int .u8 e.2.2])->(W0.alloc o).grownBy w5 vF.ownBlock->
     ∃E:List Ed,E++aP i2 (A.drop i2) (B.drop k2)=eP A B/\w5.ownsRow w4.heap.size 96 3 v' E.length (iF E)/\Below w4.heap.size w4 w5):=by
     intro W0 bk o v' w5 e i2 k2 h1 h2 h3 h4 h5;refine⟨I++[e],?_,?_,?_⟩
     ·rw[<-HT.out,h3,R4];rfl
     ·rw[xq,RH];exact h4
     ·exact HO.out.2.trans ((bk.alloc (by have:=bk.size;have:=HO.out.2.size;omega) o).grown h5 (by have:=bk.size;have:=HO.out.2.size;simp;omega) (dN HO.out.1))
    have O:Hid (I.length<=48):=by have h:=R3 List.length HT.out;rw[RH]at h;have:=HL.out;show I.length<=48;omega
    have al:Hid (w4.heap.size<=wr.heap.size):=HO.out.2.size;have g:∀n,(wr.drewN n).ownsRow w4.heap.size 96 3 vF I.length (iF I):=λ_=>p;have F:∀n m,((wr.drewN n).drewN m).ownsRow w4.heap.size 96 3 vF I.length (iF I):=λ_ _=>p;have G:∀n m q,(((wr.drewN n).drewN m).drewN q).ownsRow w4.heap.size 96 3 vF I.length (iF I):=λ_ _ _=>p;by_cases W:k<b.size/\aI (A.drop i) (B.drop (k+1))+1=D
    ·have P:=r.row i (k+1) Z (by have:=l.out;omega)
     rw[<-HN.out,<-bd.out]at P;have hkb:(k:Int)<(b.size:Int):=by omega
     have b8:=W.1;have HE:Hid (aP i (A.drop i) (B.drop k)=((i:Int),0,codeOf b[k])::aP i (A.drop i) (B.drop (k+1))):=by rw[Hid,HG.out.2 k W.1];refine zN i _ _ _ ?_;rw[<-HG.out.2 k W.1,<-HD.out];exact W.2
     have b2:=W.2;have ab:aI (A.drop i) (B.drop (k+1))<=2000:=Rp (fG _ _) (by rw[RB,RB];have:=Y.out;omega);obtain⟨d1,J⟩:=ex (aI (A.drop i) (B.drop (k+1)));rw[<-J]at P b2 ab;have hq:((d1:Int)+1==(D:Int))=true:=by rw[Sf];omega
     clear C r t hD W J;go_wp2;go_quiet (fail);go_wp2_with (first|(at_builtin;refine wpList_append_own _ rfl _ _ 53 rfl w4.heap.size 96 i0 (.agg #[.int .i64 0,.int .i64 0,.int .u8 0]) 3 24 Tryz.underlying53 hi S T U rfl (by decide) _ _ _ rfl ((g _).alloc _) ⟨_,0,none⟩ 1 1 [.int .i64 i,.int .i64 0,.int .u8 (b[k].toNat:Int)] rfl rfl ?c1 ?c2 ?c3 ?c4 ?c5 ?_))
     case c1=>intro j u K;rw[de,RA];exact av _ _ 96 j u (by simpa using K)
     case c2=>intro u K;simp at K;rcases K with rfl|rfl|rfl<;>rfl
     case c3=>have:=O.out;unfold maxLen;omega
     case c4=>have:=O.out;omega
     case c5=>have:=al.out;simp;omega
     intro v' w5 c d _;obtain⟨E,z1,z2,z3⟩:=M.out _ ((Below.refl _ wr).bh _) _ v' w5 ((i:Int),0,codeOf b[k]) i (k+1) ar (by have:=l.out;omega) HE.out c d;clear M p c d g F G;go_wp2;exact⟨⟨_,i,k+1,E,rfl,by go_num,by go_num,ar,(by have:=l.out;omega),z1,z2,z3⟩,by simp[intOf];have:=l.out;omega⟩
    ·by_cases z:i<a.size/\aI (A.drop (i+1)) (B.drop k)+1=D
     ·have Q:=r.outer (i+1) (by have:=l.out;omega)
      have e10:=r.row (i+1) k (by have:=l.out;omega) ag;rw[<-HN.out]at Q e10;rw[<-l.out.2]at Q;obtain⟨R1,R⟩:=ex (N+1+(A.length-(i+1)));rw[<-R]at Q e10;have bm:(i:Int)<(a.size:Int):=by omega
      have ca:=z.1;have HE:Hid (aP i (A.drop i) (B.drop k)=((i:Int),1,0)::aP (i+1) (A.drop (i+1)) (B.drop k)):=by
       rw[Hid,HG.out.1 i z.1];refine xn i _ _ _ (λy b' hy he=>W ?_) ?_
       ·have hk:k<b.size:=by
         obtain h|h:=Rv k b.size
         ·exact h
         ·rw[RR (by have:=l.out;omega)]at hy;cases hy
        have an:=hy;rw[HG.out.2 k hk]at an;injection an with _ an;subst an;rw[<-HG.out.1 i z.1,<-HD.out]at he;exact⟨hk,he⟩
       ·rw[<-HG.out.1 i z.1,<-HD.out]
        exact z.2
      have bx:=z.2;have bo:aI (A.drop (i+1)) (B.drop k)<=2000:=Rp (fG _ _) (by rw[RB,RB];have:=Y.out;omega);obtain⟨d2,H⟩:=ex (aI (A.drop (i+1)) (B.drop k));rw[<-H]at e10 bx bo;have b3:((d2:Int)+1==(D:Int))=true:=by rw[Sf];omega
      obtain hkb|hkb:=Rv k b.size
      ·have P:=r.row i (k+1) Z (by have:=l.out;omega)
       rw[<-HN.out,<-bd.out]at P;have ad:aI (A.drop i) (B.drop (k+1))+1≠D:=λh=>W ⟨hkb,h⟩;have ab:aI (A.drop i) (B.drop (k+1))<=2000:=Rp (fG _ _) (by rw[RB,RB];have:=Y.out;omega);obtain⟨d1,J⟩:=ex (aI (A.drop i) (B.drop (k+1)));rw[<-J]at P ad ab;have hq:((d1:Int)+1==(D:Int))=false:=by rw[RV];omega
       have ax:(k:Int)<(b.size:Int):=by omega
       clear C r t hD W J z H R;go_wp2;go_quiet (fail);go_wp2;go_quiet (fail);go_wp2_with (first|(at_builtin;refine wpList_append_own _ rfl _ _ 53 rfl w4.heap.size 96 i0 (.agg #[.int .i64 0,.int .i64 0,.int .u8 0]) 3 24 Tryz.underlying53 hi S T U rfl (by decide) _ _ _ rfl ((g _).alloc _) ⟨_,0,none⟩ 1 1 [.int .i64 i,.int .i64 1,.int .u8 0] rfl rfl ?c1 ?c2 ?c3 ?c4 ?c5 ?_))
       case c1=>intro j u K;rw[de,RA];exact av _ _ 96 j u (by simpa using K)
       case c2=>intro u K;simp at K;rcases K with rfl|rfl|rfl<;>rfl
       case c3=>have:=O.out;unfold maxLen;omega
       case c4=>have:=O.out;omega
       case c5=>have:=al.out;simp;omega
       intro v' w5 c d _;obtain⟨E,z1,z2,z3⟩:=M.out _ ((Below.refl _ wr).bh _) _ v' w5 ((i:Int),1,0) (i+1) k (by have:=l.out;omega) V HE.out c d;clear M p c d g F G;go_wp2;exact⟨⟨_,i+1,k,E,rfl,by go_num,by go_num,(by have:=l.out;omega),V,z1,z2,z3⟩,by simp[intOf];have:=l.out;omega⟩
      ·have ax:decide ((k:Int)<(b.size:Int))=false:=Rr (by omega)
       have cb:decide (k<b.size)=false:=Rr (by omega);clear C r t hD W z H R;go_wp2;go_quiet (fail);go_wp2;go_quiet (fail);go_wp2_with (first|(at_builtin;refine wpList_append_own _ rfl _ _ 53 rfl w4.heap.size 96 i0 (.agg #[.int .i64 0,.int .i64 0,.int .u8 0]) 3 24 Tryz.underlying53 hi S T U rfl (by decide) _ _ _ rfl ((g _).alloc _) ⟨_,0,none⟩ 1 1 [.int .i64 i,.int .i64 1,.int .u8 0] rfl rfl ?c1 ?c2 ?c3 ?c4 ?c5 ?_))
       case c1=>intro j u K;rw[de,RA];exact av _ _ 96 j u (by simpa using K)
       case c2=>intro u K;simp at K;rcases K with rfl|rfl|rfl<;>rfl
       case c3=>have:=O.out;unfold maxLen;omega
       case c4=>have:=O.out;omega
       case c5=>have:=al.out;simp;omega
       intro v' w5 c d _;obtain⟨E,z1,z2,z3⟩:=M.out _ ((Below.refl _ wr).bh _) _ v' w5 ((i:Int),1,0) (i+1) k (by have:=l.out;omega) V HE.out c d;clear M p c d g F G;go_wp2;exact⟨⟨_,i+1,k,E,rfl,by go_num,by go_num,(by have:=l.out;omega),V,z1,z2,z3⟩,by simp[intOf];have:=l.out;omega⟩
     ·have ao:=xo (A.drop i) (B.drop k) (by rw[<-HD.out];exact ak) (λy b' hy he=>W (by
       have hk:k<b.size:=by
        obtain h|h:=Rv k b.size
        ·exact h
        ·rw[RR (by have:=l.out;omega)]at hy;cases hy
       rw[HG.out.2 k hk]at hy;injection hy with _ hy;subst hy;rw[<-HD.out]at he;exact⟨hk,he⟩)) (λx a' hx he=>z (by
       have hk:i<a.size:=by
        obtain h|h:=Rv i a.size
        ·exact h
        ·rw[RR (by have:=l.out;omega)]at hx;cases hx
       rw[HG.out.1 i hk]at hx;injection hx with _ hx;subst hx;rw[<-HD.out]at he;exact⟨hk,he⟩))
      have bm:i<a.size:=by
       obtain h|h:=Rv i a.size
       ·exact h
       ·exact absurd (RR (by have:=l.out;omega)) ao.1
      have hkb:k<b.size:=by
       obtain h|h:=Rv k b.size
       ·exact h
       ·exact absurd (RR (by have:=l.out;omega)) ao.2
      have ad:aI (A.drop i) (B.drop (k+1))+1≠D:=λh=>W ⟨hkb,h⟩;have br:aI (A.drop (i+1)) (B.drop k)+1≠D:=λh=>z ⟨bm,h⟩;have bA:Hid (aP i (A.drop i) (B.drop k)=if a[i]=b[k]then aP (i+1) (A.drop (i+1)) (B.drop (k+1))else((i:Int),2,codeOf b[k])::aP (i+1) (A.drop (i+1)) (B.drop (k+1))):=by
       have k1:=HG.out.1 i bm;have k2:=HG.out.2 k hkb;rw[HD.out,k1,k2]at ad br ak;rw[Hid,k1,k2];refine xp i _ _ _ _ ak ?_ ?_
       ·rw[<-k1];exact(by rw[k1];exact ad)
       ·rw[<-k2];exact(by rw[k2];exact br)
      have P:=r.row i (k+1) Z (by have:=l.out;omega);rw[<-HN.out,<-bd.out]at P;have Q:=r.outer (i+1) (by have:=l.out;omega);have e10:=r.row (i+1) k (by have:=l.out;omega) ag;rw[<-HN.out]at Q e10;rw[<-l.out.2]at Q;obtain⟨R1,R⟩:=ex (N+1+(A.length-(i+1)));rw[<-R]at Q e10;have ab:aI (A.drop i) (B.drop (k+1))<=2000:=Rp (fG _ _) (by rw[RB,RB];have:=Y.out;omega);obtain⟨d1,J⟩:=ex (aI (A.drop i) (B.drop (k+1)));rw[<-J]at P ad ab;have bo:aI (A.drop (i+1)) (B.drop k)<=2000:=Rp (fG _ _) (by rw[RB,RB];have:=Y.out;omega);obtain⟨d2,H⟩:=ex (aI (A.drop (i+1)) (B.drop k));rw[<-H]at e10 br bo;have hq:((d1:Int)+1==(D:Int))=false:=by rw[RV];omega
      have b3:((d2:Int)+1==(D:Int))=false:=by rw[RV];omega
      have cc:(i:Int)<(a.size:Int):=by omega
      have ax:(k:Int)<(b.size:Int):=by omega
      by_cases aa:a[i]=b[k]
      ·have b4:((a[i].toNat:Int)!=(b[k].toNat:Int))=false:=by rw[aa];simp
       have b5:Hid (I++aP (i+1) (A.drop (i+1)) (B.drop (k+1))=eP A B):=by have h:=bA.out;rw[Rn aa]at h;rw[Hid,<-h];exact HT.out
       clear C r p t hD W J z H ao aa g F G R;go_wp2;go_quiet (fail);go_wp2;go_quiet (fail);go_wp2;go_quiet (fail);go_wp2;exact⟨⟨_,i+1,k+1,I,rfl,by go_num,by go_num,by have:=l.out;omega,by have:=l.out;omega,b5.out,HO.out.1,HO.out.2.bh _⟩,by simp[intOf];have:=l.out;omega⟩
      ·have b4:((a[i].toNat:Int)!=(b[k].toNat:Int))=true:=by rw[Th];intro h;exact aa (T4.1 (by omega))
       have HE:Hid (aP i (A.drop i) (B.drop k)=((i:Int),2,codeOf b[k])::aP (i+1) (A.drop (i+1)) (B.drop (k+1))):=by have h:=bA.out;rw[Rm aa]at h;exact h
       clear C r t hD W J z H ao aa R;go_wp2;go_quiet (fail);go_wp2;go_quiet (fail);go_wp2;go_quiet (fail);go_wp2_with (first|(at_builtin;refine wpList_append_own _ rfl _ _ 53 rfl w4.heap.size 96 i0 (.agg #[.int .i64 0,.int .i64 0,.int .u8 0]) 3 24 Tryz.underlying53 hi S T U rfl (by decide) _ _ _ rfl ((g _).alloc _) ⟨_,0,none⟩ 1 1 [.int .i64 i,.int .i64 2,.int .u8 (b[k].toNat:Int)] rfl rfl ?c1 ?c2 ?c3 ?c4 ?c5 ?_))
       case c1=>intro j u K;rw[de,RA];exact av _ _ 96 j u (by simpa using K)
       case c2=>intro u K;simp at K;rcases K with rfl|rfl|rfl<;>rfl
       case c3=>have:=O.out;unfold maxLen;omega
       case c4=>have:=O.out;omega
       case c5=>have:=al.out;simp;omega
       intro v' w5 c d _;obtain⟨E,z1,z2,z3⟩:=M.out _ ((Below.refl _ wr).bh _) _ v' w5 ((i:Int),2,codeOf b[k]) (i+1) (k+1) (by have:=l.out;omega) (by have:=l.out;omega) HE.out c d;clear M p c d g F G;go_wp2;exact⟨⟨_,i+1,k+1,E,rfl,by go_num,by go_num,(by have:=l.out;omega),(by have:=l.out;omega),z1,z2,z3⟩,by simp[intOf];have:=l.out;omega⟩
 ·have HF:Hid (eB a b=[]):=by unfold eB;rw[Hid,Rm s]
  obtain⟨f,hf⟩:=ex (dm a b);rw[<-hf]at X s⊢;have hb:(f !=0)=true:=by simpa using s
  clear hf s;go_enter (n45 L),Tryz.ntmps45;go_wp2_with (first|(go_at_call 87;refine X.mono ?_;clear X;rintro e w2 ⟨rfl,rfl⟩))
  go_ret2
  exact⟨_,rfl,by rw[HF.out];exact World.ownsRow_nil _ _ _ _,Below.refl _ _⟩
end Go.Proofs

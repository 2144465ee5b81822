import Derived.Deep.MidRow
import Derived.Test.YtaglpcmhopjebaaGreatDoorW22
set_option linter.all false
set_option maxRecDepth 100000
set_option maxHeartbeats 20000000
namespace Go.Proofs
def ju(c:Case)(t:Nat):Case:={c with marks:=c.marks.drop t++c.marks.take t,kin:=c.kin.drop t++c.kin.take t}
def xH{nm seen m}:eK nm seen m=0↔bL m=0/\nm≠m.name/\∀q∈seen,q.name≠m.name:=by unfold eK;simp only[];by_cases h:bL m=0;rw[Wt (λg=>g h)];by_cases b:nm=m.name;simp[b];by_cases a:seen.any (λq=>decide (q.name=m.name))=true;rw[Wu (by rw[a,Bool.or_true])];obtain⟨q,c,e⟩:=Xv.1 a;exact⟨(λg=>by cases g),λg=>absurd (W6 e) (g.2.2 q c)⟩;rw[Wt (by simp only[X3,WR,not_or];exact⟨b,a⟩)];refine⟨λ_=>⟨h,b,λq c e=>a (Xv.2 ⟨q,c,WE e⟩)⟩,λ_=>rfl⟩;rw[Wu h];exact⟨λg=>absurd g h,λg=>absurd g.1 h⟩
theorem qO{nm}:∀(l seen:List Mark),dq (eK nm) seen l=0↔(∀m∈l,bL m=0/\nm≠m.name)/\(∀m∈l,∀q∈seen,q.name≠m.name)/\l.Pairwise λa b=>a.name≠b.name
 | [],seen=>⟨λ_=>⟨λ_ h=>absurd h WY,λ_ h=>absurd h WY,.nil⟩,λ_=>rfl⟩
 |x::l,seen=>by
  have e:=qO (nm:=nm) l (seen++[x]);constructor
  .intro h
   obtain⟨c,d⟩:=Ag _ _ _ _ h;obtain⟨a1,g,i⟩:=xH.1 c;obtain⟨j,f,k⟩:=e.1 d;refine⟨λm hm=>?_,λm hm=>?_,Zn.2 ⟨λm hm=>f m hm x (by simp),k⟩⟩
   .obtain rfl|hm:=WO.1 hm
    .exact⟨a1,g⟩
    .exact j m hm
   .obtain rfl|hm:=WO.1 hm
    .exact i
    .exactλq hq=>f m hm q (YK _ hq)
  .rintro⟨c,d,n⟩
   obtain⟨o,p⟩:=Zn.1 n;refine si _ _ _ _ (xH.2 ⟨(c x (by simp)).1,(c x (by simp)).2,d x (by simp)⟩) (e.2 ⟨λm hm=>c m (by simp[hm]),λm hm q hq=>?_,p⟩);obtain hq|hq:=XT.1 hq
   .exact d m (by simp[hm]) q hq
   .obtain rfl:q=x:=by simpa using hq
    exact o m hm
theorem wP:∀(l seen:List Int),dq mY seen l=0↔∀n∈l,av n 0 9=true
 | [],seen=>⟨λ_ _ h=>absurd h WY,λ_=>rfl⟩
 |x::l,seen=>by
  have a:=wP l (seen++[x]);have b:mY seen x=0↔av x 0 9=true:=by unfold mY;cases av x 0 9<;>simp
  constructor
  .intro h n hn
   obtain⟨c,d⟩:=Ag _ _ _ _ h;obtain rfl|hn:=WO.1 hn
   .exact b.1 c
   .exact a.1 d n hn
  .intro h
   exact si _ _ _ _ (b.2 (h x (by simp))) (a.2 λn hn=>h n (by simp[hn]))
def rv{a}{b c}{chk:List a->a->Int}{l:List a}:aL b c chk l=0↔(b<=l.length/\(l.length:Int)<=c)/\dq chk [] l=0:=by unfold aL av;by_cases d:b<=l.length<;>by_cases e:(l.length:Int)<=c<;>simp[d,e]
def iZ{a}(l:List a)(t:Nat):(l.drop t++l.take t).Perm l:=by have:=List.perm_append_comm (l₁:=l.drop t) (l₂:=l.take t);rwa[List.take_append_drop]at this
def wQ{a}(l:List a){t j:Nat}(b:t<l.length)(c:j<l.length):(l.drop t++l.take t)[j]? =l[(j+t)%l.length]? :=by obtain h|h:=Wx j (l.length-t);rw[Yh (by rw[WJ];exact h),Zf,Yy (by omega),YH];rw[Zg (by rw[WJ];exact h),WJ,ZQ,Wu (by omega),Nat.mod_eq_sub_mod (by omega),Yy (by omega)];congr 1;omega
def Dn(c:Case):bO c=0↔du c.table=0/\aL 0 6 eG c.rules=0/\bL c.new=0/\aL 0 8 (eK c.new.name) c.marks=0/\aL c.marks.length c.marks.length mY c.kin=0:=by refine⟨qN,λ⟨a,b,d,e,f⟩=>?_⟩;rw[Aw,Wt (by simp[a]),Wt (by simp[b]),Wt (by simp[d]),Wt (by simp[e]),f]
def IF{c:Case}(h:bO c=0)(t:Nat):bO (ju c t)=0:=by obtain⟨d,e,f,g,i⟩:=(Dn c).1 h;obtain⟨⟨a1,j⟩,k⟩:=rv.1 g;obtain⟨⟨l,o⟩,p⟩:=rv.1 i;obtain⟨d1,d2,d3⟩:=(qO _ _).1 k;have a:=iZ c.marks t;have b:=iZ c.kin t;refine(Dn _).2 ⟨d,e,f,rv.2 ⟨?_,(qO _ _).2 ⟨λm r=>d1 m (a.mem_iff.1 r),λm _ q s=>absurd s WY,(a.pairwise_iff (λh=>h.symm)).2 d3⟩⟩,rv.2 ⟨?_,(wP _ _).2 λn u=>(wP _ _).1 p n (b.mem_iff.1 u)⟩⟩;show(0:Int)<=((c.marks.drop t++c.marks.take t).length:Int)/\((c.marks.drop t++c.marks.take t).length:Int)<=8;rw[a.length_eq];exact⟨a1,j⟩;show(((c.marks.drop t++c.marks.take t).length:Nat):Int)<=((c.kin.drop t++c.kin.take t).length:Int)/\((c.kin.drop t++c.kin.take t).length:Int)<=(((c.marks.drop t++c.marks.take t).length:Nat):Int);rw[a.length_eq,b.length_eq];exact⟨l,o⟩
theorem su(c t m k):∀(a:List jd) (i:Nat),cQ (ju c t) m k i a=cQ c m k i a
 | [],i=>rfl
 |r::a,i=>by unfold cQ;rw[su c t m k a (i+1)];rfl
def Ay{c:Case}{t j:Nat}(a:t<c.marks.length)(b:c.kin.length=c.marks.length)(d:j<c.marks.length):en (ju c t) j=(en c ((j+t)%c.marks.length)).map λh=>⟨j,h.di,h.level⟩:=by unfold en;rw[show(ju c t).marks=c.marks.drop t++c.marks.take t from rfl,show(ju c t).kin=c.kin.drop t++c.kin.take t from rfl,wQ _ a d,wQ c.kin (by omega) (by omega),b];have e:=ZU (j+t) (show 0<c.marks.length by omega);rw[WN e,WN (show(j+t)%c.marks.length<c.kin.length by omega)];simp only[];rw[su,show(ju c t).rules=c.rules from rfl,aam];rfl
def oh(n t i:Nat):Nat:=(i+n-t)%n
def Az{n t i:Nat}(b:t<n)(a:i<n):oh n t i<n/\(oh n t i+t)%n=i:=by unfold oh;refine⟨ZU _ (by omega),?_⟩;obtain h|h:=Wx i t;rw[Yy (show i+n-t<n by omega),show i+n-t+t=i+n by omega,Nat.add_mod_right,Yy a];rw[show i+n-t=(i-t)+n by omega,Nat.add_mod_right,Yy (show i-t<n by omega),show i-t+t=i by omega,Yy a]
def Ob{c:Case}{t:Nat}(b:t<c.marks.length)(f:c.kin.length=c.marks.length){h}(g:h∈aA c){i:Nat}(l:h.mark=i):(⟨oh c.marks.length t i,h.di,h.level⟩:Hit)∈aA (ju c t):=by (obtain⟨d,a,m,j⟩:=gJ g;obtain rfl:d=i:=by omega);obtain⟨e,k⟩:=Az b a;refine tq (i:=oh c.marks.length t d) ?_ ?_;show _<(c.marks.drop t++c.marks.take t).length;rw[(iZ c.marks t).length_eq];exact e;rw[Ay b f e,k,j];rfl
def Oc{c:Case}{t:Nat}(a:t<c.marks.length)(b:c.kin.length=c.marks.length):(aA (ju c t)).length=(aA c).length:=by (have e1:(ju c t).marks.length=c.marks.length:=(iZ c.marks t).length_eq;rw[(dN _).length_eq,(dN _).length_eq,e1,aaJ,aaJ];have d:(List.range c.marks.length).countP (λj=>(en (ju c t) j).isSome)=(List.range c.marks.length).countP (λj=>(en c ((j+t)%c.marks.length)).isSome):=by refine List.countP_congr λj e=>?_;rw[Ay a b (Y0.1 e),Option.isSome_map]);(have e3:(List.range c.marks.length).map (λj=>(j+t)%c.marks.length)=(List.range c.marks.length).drop t++(List.range c.marks.length).take t:=by refine aao λj=>?_;obtain h|h:=Wx j c.marks.length;have:=wQ (List.range c.marks.length) (t:=t) (j:=j) (by simpa using a) (by simpa using h);rw[this,Xq,List.getElem?_range h,Zm,List.getElem?_range (ZU _ (by omega))];rfl;rw[List.getElem?_eq_none (by simpa using h),List.getElem?_eq_none (by simp;omega)]);(rw[d];have e4:=((iZ (List.range c.marks.length) t).countP_eq λi=>(en c i).isSome));rw[<-e3,List.countP_map]at e4;exact e4
end Go.Proofs
namespace Go.Proofs
open Go.Tm Go.RowKit
theorem yx{f:Type}{F:f->List x6}{a:Nat}(b:∀x,(F x).length=a):∀(l:List f) (k i:Nat) (c:k<l.length),i<a->(l.flatMap F)[k*a+i]? =(F l[k])[i]?
 | [],k,i,c,_=>absurd c (WM _)
 |x::l,0,i,_,d=>by rw[Ym,WH,Xz,Yh (by rw[b];exact d)];rfl
 |x::l,k+1,i,c,d=>by
  have e:(k+1)*a+i-a=k*a+i:=by rw[X6];omega
  rw[Xz,Zg (by rw[b,X6];omega),b,e];exact yx b l k i (by simpa using c) d
theorem AA{a:Type}{F:a->List x6}{b:Nat}(c:∀x,(F x).length=b):∀l:List a,(l.flatMap F).length=l.length*b
 | []=>by simp
 |x::l=>by rw[Xz,WS,c,AA c l,WA,X6,YH]
def AB{f:Type}{F:f->List x6}{sz:Nat}(a:∀x,(F x).length=sz)(g:0<sz){w:xv}{b off:Nat}{l:List f} (h:∀k (c:k<l.length) i u,(F l[k])[i]? =some u->w.cell? ⟨b,off+k*sz+i,none⟩=some u):Src w sz (some ⟨b,off,none⟩) l.length (l.flatMap F):=
 .some _ _ _ (AA a l) λj u m=>by
  have d:j<l.length*sz:=by have:=(Xk.1 m).1;rwa[AA a]at this
  have c:j/sz<l.length:=(Nat.div_lt_iff_lt_mul g).2 d;have e:j/sz*sz+j%sz=j:=by rw[Nat.mul_comm];exact Nat.div_add_mod j sz
  have n:=yx a l (j/sz) (j%sz) c (ZU _ g);rw[e,m]at n;have o:=h _ c _ _ n.symm;rw[Ys,e]at o;rw[eR];exact o
def uO{c e:Type}{F:c->List x6}{sz:Nat}(f:∀x,(F x).length=sz){T:c->e}{E:(Nat->Prop)->xv->Nat->Nat->e->Prop}{w:xv}{B ty v}{l:List c}(h:w.ownsRow B ty sz v l.length (l.flatMap F)) (m:∀x∈l,∀b o,(∀i u,(F x)[i]? =some u->w.cell? ⟨b,o+i,none⟩=some u)->E (λ_=>True) w b o (T x)):aB (λ_=>True) sz E w v (l.map T):=
 wY (l:=l.map T) (xs:=l.flatMap F) (by rw[Xa];exact h) λg n k p=>by
  have a:k<l.length:=by simpa using p
  rw[Yk];refine m _ (WG a) g (k*sz) λi u j=>?_;have q:i<sz:=by have:=(Xk.1 j).1;rwa[f]at this
  have d:(k+1)*sz<=l.length*sz:=ZG _ a;rw[X6]at d;rw[n _ (by rw[Xa];omega),yx f l k i a q,j]
def kS{w:xv}{B ty b v n xs}(h:w.ownsRow B ty b v n xs):CV (λ_=>True) w true v:=by obtain⟨rfl,_⟩|⟨g,cap,c,rfl,_,d,_⟩:=h.2;(exact .slice _ _ λa e=>by cases e);exact .slice _ _ λa e=>by cases e;exact⟨rfl,trivial,_,_,_,d⟩
def iq(x:Mark×x6):List x6:=[.string x.1.name,.string x.1.word,x.2,.i x.1.day,.bool x.1.known]
def ia(r:jd):List x6:=[.i r.kind,.i r.least,.i r.plain,.i r.known]
def qP(n:Int):List x6:=[.i n]
def mB(w:xv)(a:List (Mark×x6)):Prop:=∀x∈a,aB (λ_=>True) 1 dh w x.2 x.1.aU
def mB.stays{w w' us}(h:mB w us)(a:ae w w'):mB w' us:=λx b=>(h x b).ints a
def AD{w v}{l:List Mark}(h:aB (λ_=>True) 5 mG w v l):∃j:List (Mark×x6),j.map (·.1)=l/\mB w j/\∃d c,v=.slice d l.length c/\l.length<=c/\c<=9223372036854775807/\∀k (n:k<j.length),∃b o,d=some ⟨b,o,none⟩/\∀i u,(iq j[k])[i]? =some u->w.cell? ⟨b,o+k*5+i,none⟩=some u:=by (obtain⟨d,c,rfl,q,r,_,g⟩:=h;have s:∀k:Fin l.length,∃m,∃b o,d=some ⟨b,o,none⟩/\(∀i u,(iq (l[k],m))[i]? =some u->w.cell? ⟨b,o+k.1*5+i,none⟩=some u)/\aB (λ_=>True) 1 dh w m l[k].aU:=λk=>by obtain⟨b,o,e,t,y,⟨m,z,A⟩,B,C⟩:=g k.1 k.2;refine⟨m,b,o,e,λi u a=>?_,A⟩;match i,a with|0,a=>cases a;exact t|1,a=>cases a;exact y|2,a=>cases a;exact z|3,a=>cases a;exact B|4,a=>cases a;exact C);obtain⟨f,p⟩:=Classical.axiomOfChoice s;refine⟨List.ofFn λk:Fin l.length=>(l[k],f k),?_,?_,d,c,rfl,q,r,λk n=>?_⟩;rw[List.map_ofFn];exact List.ofFn_getElem ..;intro x D;obtain⟨k,rfl⟩:=List.mem_ofFn.1 D;obtain⟨_,_,_,_,h⟩:=p k;exact h;rw[List.length_ofFn]at n;obtain⟨b,o,e,h,_⟩:=p ⟨k,n⟩;refine⟨b,o,e,?_⟩;rw[List.getElem_ofFn];exact h
def wR(b:List (Mark×x6)){w}(h:mB w b):∀u∈b.flatMap iq,u.oneCell'=true:=λu a=>by obtain⟨x,d,a⟩:=YX.1 a;obtain⟨f,c,e,_⟩:=h x d;simp only[iq,WO,WY,W7]at a;obtain rfl|rfl|rfl|rfl|rfl:=a;rfl;rfl;rw[e];rfl;rfl;rfl
def Od{w:xv}{B v}{c:List (Mark×x6)}(h:w.ownsRow B 38 5 v c.length (c.flatMap iq))(d:mB w c):aB (λ_=>True) 5 mG w v (c.map (·.1)):=uO (F:=iq) (λ_=>rfl) h λx e b o a=>⟨a 0 _ rfl,a 1 _ rfl,⟨x.2,a 2 _ rfl,d x e⟩,a 3 _ rfl,a 4 _ rfl⟩
def fT{w:xv}{B v}{l:List jd}(h:w.ownsRow B 69 4 v l.length (l.flatMap ia)):aB (λ_=>True) 4 j5 w v l:=by (have:=uO (F:=ia) (T:=id) (E:=j5) (λ_=>rfl) h λx _ b o a=>⟨a 0 _ rfl,a 1 _ rfl,a 2 _ rfl,a 3 _ rfl⟩);rwa[Zw]at this
def QW{w:xv}{B v}{l:List Int}(h:w.ownsRow B 3 1 v l.length (l.flatMap qP)):aB (λ_=>True) 1 dh w v l:=by have:=uO (F:=qP) (T:=id) (E:=dh) (λ_=>rfl) h λx _ b o a=>a 0 _ rfl;rwa[Zw]at this
def AE(l:List Int):∀u∈l.flatMap qP,u.oneCell'=true:=λu a=>by obtain⟨x,b,a⟩:=YX.1 a;simp only[qP,WO,WY,W7]at a;subst a;rfl
def Dq(l:List jd):∀u∈l.flatMap ia,u.oneCell'=true:=λu a=>by obtain⟨x,b,a⟩:=YX.1 a;simp only[ia,WO,WY,W7]at a;rcases a with rfl|rfl|rfl|rfl<;>rfl
def T8:(Tryz.prog.info? 38).map (λi=>(i.zero,i.size,i.bytes))=some (some (.agg #[.string .empty,.string .empty,.slice none 0 0,.i 0,.bool false]),5,72):=by kernel_rfl
def IG(fs):((Qs fs).info? 38).map (λi=>(i.zero,i.size,i.bytes))=some (some (.agg #[.string .empty,.string .empty,.slice none 0 0,.i 0,.bool false]),5,72):=T8
def T9:(Tryz.prog.info? 69).map (λi=>(i.zero,i.size,i.bytes))=some (some (.agg #[.i 0,.i 0,.i 0,.i 0]),4,32):=by kernel_rfl
def IH(fs):((Qs fs).info? 69).map (λi=>(i.zero,i.size,i.bytes))=some (some (.agg #[.i 0,.i 0,.i 0,.i 0]),4,32):=T9
def II{d:Type}{F:d->List x6}{a:Nat}(j:∀x,(F x).length=a)(m:0<a){w:xv}{b off c t:Nat}{l:List d}(n:l.length<=c)(o:t<=l.length) (h:∀k (f:k<l.length) i u,(F l[k])[i]? =some u->w.cell? ⟨b,off+k*a+i,none⟩=some u):Src w a (if c=t then some ⟨b,off,none⟩else some ⟨b,off+t*a,none⟩) (l.length-t) ((l.drop t).flatMap F):=by split;rename_i p;(have e:l.drop t=[]:=Xg (by omega);rw[e,show l.length-t=0 by omega];exact .some _ _ _ (by simp) λq u h=>by simp at h);(have:=AB (F:=F) j m (w:=w) (b:=b) (off:=off+t*a) (l:=l.drop t) λk f i u g=>by rw[List.getElem_drop]at g;have:=h (t+k) (by rw[WJ]at f;omega) i u g;rwa[show off+t*a+k*a=off+(t+k)*a by rw[YM];omega]);rwa[WJ]at this
def IJ{c:Type}{F:c->List x6}{a:Nat}(f:∀x,(F x).length=a)(g:0<a){w:xv}{b off t:Nat}{l:List c}(j:t<=l.length) (h:∀k (d:k<l.length) i u,(F l[k])[i]? =some u->w.cell? ⟨b,off+k*a+i,none⟩=some u):Src w a (some ⟨b,off,none⟩) t ((l.take t).flatMap F):=by (have:=AB (F:=F) f g (w:=w) (b:=b) (off:=off) (l:=l.take t) λk d i u e=>by rw[List.getElem_take]at e;exact h k (by rw[Xy]at d;omega) i u e);rwa[Xy,ZH j]at this
def oq(w:xv)(B:Nat)(h:B<=w.heap.size)(e:TypeId)(a:Nat):(w.alloc (.cells #[] e)).ownsRow B e a (.slice (some ⟨w.heap.size,0,none⟩) 0 0) 0 []:=⟨by simp,.inr ⟨w.heap.size,0,#[],rfl,h,Xh,Wv _,WB _,by simp,by simp⟩⟩
def ot{w:xv}{B e a v n xs}(h:w.ownsRow B e a v n xs)(c:0<n):∃g cap,v=.slice (some ⟨g,0,none⟩) n cap:=by obtain⟨rfl,d⟩|⟨g,cap,b,rfl,_⟩:=h.2;omega;exact⟨g,cap,rfl⟩
def aB.slice{b:Type}{K d E w v}{l:List b}(h:aB K d E w v l):∃a n c,v=.slice a n c:=by obtain⟨a,c,e,_⟩:=h;exact⟨a,_,c,e⟩
def dF{w a:xv}{v0 v1 v2 p i q r g j k:x6}{c:Case}{rules:List jd}{f:List (Mark×x6)}{kin:List Int}{s t:Nat}(day:Int)(b:ae w a) (u:eZ w #[v0,v1,v2,p,.string c.new.name,.string c.new.word,i,.i c.new.day,.bool c.new.known,q,r] c) (l:aB (λ_=>True) 4 j5 a g rules/\CV (λ_=>True) a true g) (m:a.ownsRow s 38 5 j f.length (f.flatMap iq)) (n:a.ownsRow t 3 1 k kin.length (kin.flatMap qP)) (d:mB w f):eZ a #[v0,v1,v2,g,.string c.new.name,.string c.new.word,i,.i day,.bool c.new.known,j,k] {c with rules:=rules,new:={c.new with day:=day},marks:=f.map (·.1),kin:=kin}:=by have h:=eZ.stays b u;obtain⟨w0,w1,w2,wr,wf,z,wk,e,x,_,y,_,_⟩:=h.1;simp only[aap,Y2,and_true,Zp]at e;obtain⟨rfl,rfl,rfl,_,rfl,_,_⟩:=e;refine⟨⟨_,_,_,_,_,_,_,rfl,x,l.1,y,Od m (d.stays b),QW n⟩,λv o=>?_⟩;simp only[Xs,WO,WY,W7]at o;have sh:=h.2;obtain rfl|rfl|rfl|rfl|rfl|rfl|rfl|rfl|rfl|rfl|rfl:=o;exact sh _ (by simp);exact sh _ (by simp);exact sh _ (by simp);exact l.2;exact .string _;exact .string _;exact sh _ (by simp);exact .int _ _;exact .bool _;exact kS m;exact kS n
def eZ.rules{w:xv}{v0 v1 v2 vr a b f n m d k:x6}{c:Case}(h:eZ w #[v0,v1,v2,vr,n,m,a,d,k,b,f] c):aB (λ_=>True) 4 j5 w vr c.rules/\CV (λ_=>True) w true vr:=by obtain⟨_,_,_,wr,_,_,_,e,_,g,_⟩:=h.1;simp only[aap,Y2,and_true,Zp]at e;obtain⟨_,_,_,rfl,_⟩:=e;exact⟨g,h.2 _ (by simp)⟩
def QX{w:xv}{M i:Nat}{a c:WZ}{u:x6}(h:∀k v,a[k]? =some v->w.cell? ⟨M,k,none⟩=some v)(f:c=a.setIfInBounds i u):∀k v,c[k]? =some v->(w.setCell ⟨M,i,none⟩ u).cell? ⟨M,k,none⟩=some v:=λk v b=>by subst f;by_cases e:i=k;subst e;(have d:i<a.size:=by have:=(WC.1 b).1;simpa using this);rw[ZK d]at b;cases b;exact World.cell?_setCell_same _ _ _ (h i _ (W4 d));rw[WK e]at b;rw[World.cell?_setCell_other _ _ _ _ (λh=>e (by cases h;rfl))];exact h k v b
structure eX(B:xv)(M:Nat)(a:WZ)(w:xv):Prop where
 be:Below B.heap.size B w
 le:B.heap.size<=M
 lt:M<w.heap.size
 cells:∀i v,a[i]? =some v->w.cell? ⟨M,i,none⟩=some v
 fz:∀i,w.frozen? ⟨M,i,none⟩=false
def eX.new{B w:xv}(h:Below B.heap.size B w)(a:WZ)(ty:TypeId):eX B w.heap.size a (w.alloc (.cells a ty)) where
 be:=h.alloc h.size _
 le:=h.size
 lt:=by simp
 cells i v hv:=aC w a ty i v hv
 fz i:=frozen_of_row _ _ _ _ _ Xh
def eX.later{B M a w w'}(h:eX B M a w)(b:Below w.heap.size w w'):eX B M a w' where
 be:=h.be.trans (b.mono h.be.size)
 le:=h.le
 lt:=Wy h.lt b.size
 cells i v hv:=(ae.below b).cell (h.cells i v hv)
 fz i:=(World.frozen?_of_block (b.block M h.lt)).trans (h.fz i)
def eX.store{B M a b w i u}(h:eX B M a w)(c:b=a.setIfInBounds i u):eX B M b (w.setCell ⟨M,i,none⟩ u) where
 be:=h.be.setCell h.le _
 le:=h.le
 lt:=by simpa using h.lt
 cells:=QX h.cells c
 fz j:=by rw[World.frozen?_setCell];exact h.fz j
def eX.other{B M a w g i u}(h:eX B M a w)(b:M<g):eX B M a (w.setCell ⟨g,i,none⟩ u) where
 be:=h.be.setCell (Yb (Zx h.le b)) _
 le:=h.le
 lt:=by simpa using h.lt
 cells j v hv:=by rw[World.cell?_setCell_other _ _ _ _ (λe=>by cases e;exact Zv _ b)];exact h.cells j v hv
 fz j:=by rw[World.frozen?_setCell];exact h.fz j
end Go.Proofs

import Derived.Deep.MidRow
import Derived.Test.YtaglpcmhopjebaaGreatDoorY17
set_option linter.all false
set_option maxRecDepth 100000
set_option maxHeartbeats 20000000
namespace Go.Proofs
structure Reaches(c o:Case):Prop where
 marks:o.marks.map (·.name)=c.marks.map (·.name)
 kin:o.kin.length=c.kin.length
 hit:∀(i:Nat) m k m' k',c.marks[i]? =some m->c.kin[i]? =some k->o.marks[i]? =some m'->o.kin[i]? =some k'->∀r∈c.rules,ig c m k r=⟨0,0,0⟩->∃r'∈o.rules,ig o m' k' r'=⟨0,0,0⟩
theorem vH{c m k}:∀(b:List ja) (i:Nat),(∃r∈b,ig c m k r=⟨0,0,0⟩)->∃x,dR c m k i b=some x
 | [],i,⟨r,hr,_⟩=>absurd hr Vf
 |a::b,i,⟨r,hr,h⟩=>by
  unfold dR;split
  .exact⟨_,rfl⟩
  .rename_i d
   obtain rfl|hr:=U8.1 hr
   .exact absurd h d
   .exact vH b (i+1) ⟨r,hr,h⟩
def Reaches.UE{c o:Case}(h:Reaches c o){i:Nat}{x}(e:fp c i=some x):∃y,fp o i=some y:=by unfold fp at e;split at e;rename_i m k d f;(obtain⟨⟨q,v⟩,g,rfl⟩:=Vi.1 e;obtain⟨_,j,l,_,_⟩:=qY _ _ _ _ g;have t:o.marks.length=c.marks.length:=by have:=Vj List.length h.marks;simpa using this);have u:=(Vt.1 d).1;have n:=(Vt.1 f).1;have a:=Vb (show i<o.marks.length by omega);have b:=Vb (show i<o.kin.length by rw[h.kin];exact n);obtain⟨⟨p,r⟩,s⟩:=vH (c:=o) o.rules 0 (h.hit i m k _ _ d f a b _ (US j) l);refine⟨⟨i,p,r⟩,?_⟩;unfold fp;rw[a,b];simp only[];rw[s];rfl;cases e
def bO(c:Case):List Zk:=(bc c).map λh=>((c.marks[h.mark.toNat]?).map (·.name)).getD .empty
def Reaches.listed{c o:Case}(h:Reaches c o){s}(a:s∈bO c):s∈bO o:=by (unfold bO at a⊢;obtain⟨x,d,rfl⟩:=VX.1 a;obtain⟨i,l,f,g⟩:=y6 d;obtain⟨y,b⟩:=h.UE g;obtain⟨j,k⟩:=BJ b;refine VX.2 ⟨y,Jf k b,?_⟩;have e:(o.marks.map (·.name))[i]? =(c.marks.map (·.name))[i]? :=by rw[h.marks]);rw[VL,VL]at e;rw[f,j,Yj,e]
def ew{c m k r}:ig c m k r=⟨0,0,0⟩↔m.day+1<=c.new.day/\r.least<=bz c.table r.kind c.new m/\(if m.known then min r.plain r.known else r.plain)<=k:=by unfold ig;simp only[BP.mk.injEq];omega
def Mp{c:Case}{d:Int}(e:c.new.day<=d):Reaches c {c with new:={c.new with day:=d}} where
 marks:=rfl
 kin:=rfl
 hit i m k m' k' h1 h2 h3 h4 r hr h:=by cases h1.symm.trans h3;cases h2.symm.trans h4;obtain⟨a,b,d⟩:=ew.1 h;exact⟨r,hr,ew.2 ⟨X7 a e,b,d⟩⟩
def y9{c:Case}{p:Nat}{r f:ja}(n:c.rules[p]? =some r)(q:f.kind=r.kind)(s:f.least<=r.least)(t:f.plain<=r.plain)(u:f.known<=r.known):Reaches c {c with rules:=c.rules.set p f} where
 marks:=rfl
 kin:=rfl
 hit i m k m' k' e1 e2 e3 e4 x hx h:=by
  cases e1.symm.trans e3;cases e2.symm.trans e4;obtain⟨a,b,d⟩:=ew.1 h;obtain⟨j,l,e⟩:=Wj hx;have o:(c.rules.set p f).length=c.rules.length:=WI;by_cases g:p=j
  .subst g
   rw[Vb l]at n;obtain rfl:x=r:=e.symm.trans (Vd n);refine⟨f,VC (i:=p) (by rw[List.getElem?_set_self l]),ew.2 ⟨a,?_,?_⟩⟩
   .rw[q]
    exact X7 s b
   .revert d
    split<;>omega
  .refine⟨x,VC (i:=j) ?_,ew.2 ⟨a,b,d⟩⟩
   rw[List.getElem?_set_ne g,Vb l,e]
def Jh{c:Case}(r:ja):Reaches c {c with rules:=c.rules++[r]} where
 marks:=rfl
 kin:=rfl
 hit i m k m' k' e1 e2 e3 e4 x hx h:=by cases e1.symm.trans e3;cases e2.symm.trans e4;exact⟨x,Xa _ hx,ew.2 (ew.1 h)⟩
def Gt{c:Case}{p:Nat}{q:Mark}(e:c.marks[p]? =some q):Reaches c {c with marks:=c.marks.set p {q with known:=true}} where
 marks:=by
  refine List.ext_getElem? λi=>?_;rw[VL,VL,Xz];split
  .rename_i h
   subst h;have:=(Vt.1 e).1;rw[UH this,e];rfl
  .rfl
 kin:=rfl
 hit i m k m' k' e1 e2 e3 e4 x hx h:=by
  cases e2.symm.trans e4;replace e3:(c.marks.set p {q with known:=true})[i]? =some m':=e3;obtain⟨a,b,d⟩:=ew.1 h;rw[Xz]at e3;split at e3
  .rename_i f
   subst f;cases e1.symm.trans e;have:=(Vt.1 e).1;rw[UH this]at e3;cases e3;refine⟨x,hx,ew.2 ⟨a,b,?_⟩⟩
   revert d
   simp only[UW];split<;>omega
  .cases e1.symm.trans e3
   exact⟨x,hx,ew.2 ⟨a,b,d⟩⟩
def Mq{c:Case}{p:Nat}{n e:Int}(g:c.kin[p]? =some n)(j:n<=e):Reaches c {c with kin:=c.kin.set p e} where
 marks:=rfl
 kin:=WI
 hit i m k m' k' e1 e2 e3 e4 x hx h:=by
  cases e1.symm.trans e3;replace e4:(c.kin.set p e)[i]? =some k':=e4;obtain⟨a,b,d⟩:=ew.1 h;refine⟨x,hx,ew.2 ⟨a,b,?_⟩⟩;rw[Xz]at e4;split at e4
  .rename_i f
   subst f;cases e2.symm.trans g;have:=(Vt.1 g).1;rw[UH this]at e4;cases e4;exact X7 d j
  .cases e2.symm.trans e4
   exact d
def Ji(c:Case):Reaches c c where
 marks:=rfl
 kin:=rfl
 hit i m k m' k' e1 e2 e3 e4 x hx h:=by cases e1.symm.trans e3;cases e2.symm.trans e4;exact⟨x,hx,h⟩
end Go.Proofs
namespace Go.Proofs
open Go.Tm Go.RowKit
theorem wV{f:Type}{F:f->List Zj}{a:Nat}(b:∀x,(F x).length=a):∀(l:List f) (k i:Nat) (c:k<l.length),i<a->(l.flatMap F)[k*a+i]? =(F l[k])[i]?
 | [],k,i,c,_=>absurd c (UX _)
 |x::l,0,i,_,d=>by rw[Wr,UR,VE,Wu (by rw[b];exact d)];rfl
 |x::l,k+1,i,c,d=>by
  have e:(k+1)*a+i-a=k*a+i:=by rw[Wc];omega
  rw[VE,XN (by rw[b,Wc];omega),b,e];exact wV b l k i (by simpa using c) d
theorem y8{a:Type}{F:a->List Zj}{b:Nat}(c:∀x,(F x).length=b):∀l:List a,(l.flatMap F).length=l.length*b
 | []=>by simp
 |x::l=>by rw[VE,U6,c,y8 c l,UM,Wc,W6]
def Pe{g:Type}{F:g->List Zj}{sz:Nat}(c:∀x,(F x).length=sz)(m:0<sz){w:x6}{b a:Nat}{l:List g} (h:∀k (d:k<l.length) i u,(F l[k])[i]? =some u->w.cell? ⟨b,a+k*sz+i,none⟩=some u):Src w sz (some ⟨b,a,none⟩) l.length (l.flatMap F):=
 .some _ _ _ (y8 c l) λj u n=>by
  have f:j<l.length*sz:=by have:=(Vt.1 n).1;rwa[y8 c]at this
  have d:j/sz<l.length:=(Nat.div_lt_iff_lt_mul m).2 f;have e:j/sz*sz+j%sz=j:=by rw[Nat.mul_comm];exact Nat.div_add_mod j sz
  have o:=wV c l (j/sz) (j%sz) d (Nat.mod_lt _ m);rw[e,n]at o;have p:=h _ d _ _ o.symm;rw[Wv,e]at p;rw[eE];exact p
def tD{c e:Type}{F:c->List Zj}{sz:Nat}(f:∀x,(F x).length=sz){T:c->e}{E:(Nat->Prop)->x6->Nat->Nat->e->Prop}{w:x6}{B ty v}{l:List c}(h:w.ownsRow B ty sz v l.length (l.flatMap F)) (m:∀x∈l,∀b o,(∀i u,(F x)[i]? =some u->w.cell? ⟨b,o+i,none⟩=some u)->E (λ_=>True) w b o (T x)):az (λ_=>True) sz E w v (l.map T):=
 uP (l:=l.map T) (xs:=l.flatMap F) (by rw[Vo];exact h) λg n k p=>by
  have a:k<l.length:=by simpa using p
  rw[WA];refine m _ (US a) g (k*sz) λi u j=>?_;have q:i<sz:=by have:=(Vt.1 j).1;rwa[f]at this
  have d:(k+1)*sz<=l.length*sz:=XQ _ a;rw[Wc]at d;rw[n _ (by rw[Vo];omega),wV f l k i a q,j]
def oa{w:x6}{B ty b v n xs}(h:w.ownsRow B ty b v n xs):CV (λ_=>True) w true v:=by obtain⟨rfl,_⟩|⟨g,cap,c,rfl,_,d,_⟩:=h.2;(exact .slice _ _ λa e=>by cases e);exact .slice _ _ λa e=>by cases e;exact⟨rfl,trivial,_,_,_,d⟩
def mh(x:Mark×Zj):List Zj:=[.string x.1.name,.string x.1.word,x.2,.i x.1.day,.bool x.1.known]
def gn(r:ja):List Zj:=[.i r.kind,.i r.least,.i r.plain,.i r.known]
def wK(n:Int):List Zj:=[.i n]
def lM(w:x6)(a:List (Mark×Zj)):Prop:=∀x∈a,az (λ_=>True) 1 cT w x.2 x.1.aP
def lM.stays{w w' us}(h:lM w us)(a:ae w w'):lM w' us:=λx b=>(h x b).ints a
def Jg{w v}{l:List Mark}(h:az (λ_=>True) 5 lQ w v l):∃j:List (Mark×Zj),j.map (·.1)=l/\lM w j/\∃d c,v=.slice d l.length c/\l.length<=c/\c<=9223372036854775807/\∀k (n:k<j.length),∃b o,d=some ⟨b,o,none⟩/\∀i u,(mh j[k])[i]? =some u->w.cell? ⟨b,o+k*5+i,none⟩=some u:=by (obtain⟨d,c,rfl,q,r,_,g⟩:=h;have s:∀k:Fin l.length,∃m,∃b o,d=some ⟨b,o,none⟩/\(∀i u,(mh (l[k],m))[i]? =some u->w.cell? ⟨b,o+k.1*5+i,none⟩=some u)/\az (λ_=>True) 1 cT w m l[k].aP:=λk=>by obtain⟨b,o,e,t,y,⟨m,z,A⟩,B,C⟩:=g k.1 k.2;refine⟨m,b,o,e,λi u a=>?_,A⟩;match i,a with|0,a=>cases a;exact t|1,a=>cases a;exact y|2,a=>cases a;exact z|3,a=>cases a;exact B|4,a=>cases a;exact C);obtain⟨f,p⟩:=Classical.axiomOfChoice s;refine⟨List.ofFn λk:Fin l.length=>(l[k],f k),?_,?_,d,c,rfl,q,r,λk n=>?_⟩;rw[List.map_ofFn];exact List.ofFn_getElem ..;intro x D;obtain⟨k,rfl⟩:=List.mem_ofFn.1 D;obtain⟨_,_,_,_,h⟩:=p k;exact h;rw[List.length_ofFn]at n;obtain⟨b,o,e,h,_⟩:=p ⟨k,n⟩;refine⟨b,o,e,?_⟩;rw[List.getElem_ofFn];exact h
def Mn(b:List (Mark×Zj)){w}(h:lM w b):∀u∈b.flatMap mh,u.oneCell'=true:=λu a=>by obtain⟨x,d,a⟩:=W8.1 a;obtain⟨f,c,e,_⟩:=h x d;simp only[mh,U8,Vf,Vh]at a;obtain rfl|rfl|rfl|rfl|rfl:=a;rfl;rfl;rw[e];rfl;rfl;rfl
def Mo{w:x6}{B v}{c:List (Mark×Zj)}(h:w.ownsRow B 38 5 v c.length (c.flatMap mh))(d:lM w c):az (λ_=>True) 5 lQ w v (c.map (·.1)):=tD (F:=mh) (λ_=>rfl) h λx e b o a=>⟨a 0 _ rfl,a 1 _ rfl,⟨x.2,a 2 _ rfl,d x e⟩,a 3 _ rfl,a 4 _ rfl⟩
def js{w:x6}{B v}{l:List ja}(h:w.ownsRow B 69 4 v l.length (l.flatMap gn)):az (λ_=>True) 4 iX w v l:=by (have:=tD (F:=gn) (T:=id) (E:=iX) (λ_=>rfl) h λx _ b o a=>⟨a 0 _ rfl,a 1 _ rfl,a 2 _ rfl,a 3 _ rfl⟩);rwa[XF]at this
def Pf{w:x6}{B v}{l:List Int}(h:w.ownsRow B 3 1 v l.length (l.flatMap wK)):az (λ_=>True) 1 cT w v l:=by have:=tD (F:=wK) (T:=id) (E:=cT) (λ_=>rfl) h λx _ b o a=>a 0 _ rfl;rwa[XF]at this
def Pg(l:List Int):∀u∈l.flatMap wK,u.oneCell'=true:=λu a=>by obtain⟨x,b,a⟩:=W8.1 a;simp only[wK,U8,Vf,Vh]at a;subst a;rfl
def BK(l:List ja):∀u∈l.flatMap gn,u.oneCell'=true:=λu a=>by obtain⟨x,b,a⟩:=W8.1 a;simp only[gn,U8,Vf,Vh]at a;rcases a with rfl|rfl|rfl|rfl<;>rfl
def Se:(Tryz.prog.info? 38).map (λi=>(i.zero,i.size,i.bytes))=some (some (.agg #[.string .empty,.string .empty,.slice none 0 0,.i 0,.bool false]),5,72):=by kernel_rfl
def Ph(fs):((Qs fs).info? 38).map (λi=>(i.zero,i.size,i.bytes))=some (some (.agg #[.string .empty,.string .empty,.slice none 0 0,.i 0,.bool false]),5,72):=Se
def Sf:(Tryz.prog.info? 69).map (λi=>(i.zero,i.size,i.bytes))=some (some (.agg #[.i 0,.i 0,.i 0,.i 0]),4,32):=by kernel_rfl
def Gs(fs):((Qs fs).info? 69).map (λi=>(i.zero,i.size,i.bytes))=some (some (.agg #[.i 0,.i 0,.i 0,.i 0]),4,32):=Sf
def uK(w:x6)(B:Nat)(h:B<=w.heap.size)(e:TypeId)(a:Nat):(w.alloc (.cells #[] e)).ownsRow B e a (.slice (some ⟨w.heap.size,0,none⟩) 0 0) 0 []:=⟨by simp,.inr ⟨w.heap.size,0,#[],rfl,h,Vm,UI _,UP _,by simp,by simp⟩⟩
def tE{w:x6}{B e a v n xs}(h:w.ownsRow B e a v n xs)(c:0<n):∃g cap,v=.slice (some ⟨g,0,none⟩) n cap:=by obtain⟨rfl,d⟩|⟨g,cap,b,rfl,_⟩:=h.2;omega;exact⟨g,cap,rfl⟩
def az.slice{b:Type}{K d E w v}{l:List b}(h:az K d E w v l):∃a n c,v=.slice a n c:=by obtain⟨a,c,e,_⟩:=h;exact⟨a,_,c,e⟩
def DM{w a:x6}{v0 v1 v2 p i q r g j k:Zj}{c:Case}{rules:List ja}{f:List (Mark×Zj)}{kin:List Int}{s t:Nat}(day:Int)(b:ae w a) (u:fJ w #[v0,v1,v2,p,.string c.new.name,.string c.new.word,i,.i c.new.day,.bool c.new.known,q,r] c) (l:az (λ_=>True) 4 iX a g rules/\CV (λ_=>True) a true g) (m:a.ownsRow s 38 5 j f.length (f.flatMap mh)) (n:a.ownsRow t 3 1 k kin.length (kin.flatMap wK)) (d:lM w f):fJ a #[v0,v1,v2,g,.string c.new.name,.string c.new.word,i,.i day,.bool c.new.known,j,k] {c with rules:=rules,new:={c.new with day:=day},marks:=f.map (·.1),kin:=kin}:=by have h:=fJ.stays b u;obtain⟨w0,w1,w2,wr,wf,z,wk,e,x,_,y,_,_⟩:=h.1;simp only[Yv,Xc,and_true,Xx]at e;obtain⟨rfl,rfl,rfl,_,rfl,_,_⟩:=e;refine⟨⟨_,_,_,_,_,_,_,rfl,x,l.1,y,Mo m (d.stays b),Pf n⟩,λv o=>?_⟩;simp only[VH,U8,Vf,Vh]at o;have sh:=h.2;obtain rfl|rfl|rfl|rfl|rfl|rfl|rfl|rfl|rfl|rfl|rfl:=o;exact sh _ (by simp);exact sh _ (by simp);exact sh _ (by simp);exact l.2;exact .string _;exact .string _;exact sh _ (by simp);exact .int _ _;exact .bool _;exact oa m;exact oa n
def fJ.rules{w:x6}{v0 v1 v2 vr a b f n m d k:Zj}{c:Case}(h:fJ w #[v0,v1,v2,vr,n,m,a,d,k,b,f] c):az (λ_=>True) 4 iX w vr c.rules/\CV (λ_=>True) w true vr:=by obtain⟨_,_,_,wr,_,_,_,e,_,g,_⟩:=h.1;simp only[Yv,Xc,and_true,Xx]at e;obtain⟨_,_,_,rfl,_⟩:=e;exact⟨g,h.2 _ (by simp)⟩
def Pj{w:x6}{M i:Nat}{a c:Zq}{u:Zj}(h:∀k v,a[k]? =some v->w.cell? ⟨M,k,none⟩=some v)(f:c=a.setIfInBounds i u):∀k v,c[k]? =some v->(w.setCell ⟨M,i,none⟩ u).cell? ⟨M,k,none⟩=some v:=λk v b=>by subst f;by_cases e:i=k;subst e;(have d:i<a.size:=by have:=(UO.1 b).1;simpa using this);rw[XU d]at b;cases b;exact World.cell?_setCell_same _ _ _ (h i _ (Va d));rw[UU e]at b;rw[World.cell?_setCell_other _ _ _ _ (λh=>e (by cases h;rfl))];exact h k v b
structure eN(B:x6)(M:Nat)(a:Zq)(w:x6):Prop where
 be:xv B w
 le:B.heap.size<=M
 lt:M<w.heap.size
 cells:∀i v,a[i]? =some v->w.cell? ⟨M,i,none⟩=some v
 fz:∀i,w.frozen? ⟨M,i,none⟩=false
def eN.new{B w:x6}(h:xv B w)(a:Zq)(ty:TypeId):eN B w.heap.size a (w.alloc (.cells a ty)) where
 be:=h.alloc h.size _
 le:=h.size
 lt:=by simp
 cells i v hv:=aC w a ty i v hv
 fz i:=frozen_of_row _ _ _ _ _ Vm
def eN.later{B M a w w'}(h:eN B M a w)(b:xv w w'):eN B M a w' where
 be:=h.be.trans (b.mono h.be.size)
 le:=h.le
 lt:=UL h.lt b.size
 cells i v hv:=(ae.below b).cell (h.cells i v hv)
 fz i:=(World.frozen?_of_block (b.block M h.lt)).trans (h.fz i)
def eN.store{B M a b w i u}(h:eN B M a w)(c:b=a.setIfInBounds i u):eN B M b (w.setCell ⟨M,i,none⟩ u) where
 be:=h.be.setCell h.le _
 le:=h.le
 lt:=by simpa using h.lt
 cells:=Pj h.cells c
 fz j:=by rw[World.frozen?_setCell];exact h.fz j
def eN.other{B M a w g i u}(h:eN B M a w)(b:M<g):eN B M a (w.setCell ⟨g,i,none⟩ u) where
 be:=h.be.setCell (Xe (Nat.lt_of_le_of_lt h.le b)) _
 le:=h.le
 lt:=by simpa using h.lt
 cells j v hv:=by rw[World.cell?_setCell_other _ _ _ _ (λe=>by cases e;exact X4 _ b)];exact h.cells j v hv
 fz j:=by rw[World.frozen?_setCell];exact h.fz j
end Go.Proofs

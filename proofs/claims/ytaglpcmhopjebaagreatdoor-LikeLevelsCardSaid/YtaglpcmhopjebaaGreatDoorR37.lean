import Derived.Conc.LeavingOf
import Derived.LaidSub
import Derived.MakeChecks
import Derived.OpenShut
import Derived.Shelf.Vars
import Derived.Test.YtaglpcmhopjebaaGreatDoorR32
import Derived.Test.YtaglpcmhopjebaaGreatDoorR35
set_option linter.all false
set_option maxRecDepth 100000
set_option maxHeartbeats 20000000
namespace Go.Proofs
open Go.Tm Go.RowKit
section
variable {G:Nat} {S:Kn}
def m7{w:World}{b o v}(h:w.cell? ⟨b,o,none⟩=some v):∃c e F,w.heap[b]? =some (.cells c e F)/\c[o]? =some v:=by unfold World.cell? at h;simp only[]at h;cases a:w.heap[b]? with|none=>rw[a]at h;cases h|some x=>rw[a]at h;cases x with|cells c e F=>exact⟨c,e,F,rfl,h⟩|_=>cases h
def jd{w:World}{b o c e F v}(h:w.heap[b]? =some (.cells c e F))(a:c[o]? =some v):w.cell? ⟨b,o,none⟩=some v:=by unfold World.cell?;simp only[h];exact a
def CV.self{K B:Nat->Prop}{w:World}(d:∀b,K b->(∃c e F,w.heap[b]? =some (.cells c e F))->B b){v}(h:CV K w true v):aw (idR G B) v v:=by cases h with|bool=>exact .bool _|int=>exact .int _ _|string=>exact .string _| @slice _ f l c g=>cases f with|none=>exact .iu _ _|some a=>obtain⟨b,o,p⟩:=a;obtain⟨k,i,j⟩:=g _ rfl;exact .slice _ _ (.mk ⟨rfl,d _ i j⟩)
def jx{B fz w}{b:Nat}{c e F}(h:w.heap[b]? =some (.cells c e F)):∃a,(cT (idR G B) fz w).heap[b]? =some (.cells (c.map (mask (idR G B))) e a):=by rw[fG,h];exact⟨_,rfl⟩
def Carry.mask{K B fz:Nat->Prop}{w:World}(i:∀b,K b->(∃c e F,w.heap[b]? =some (.cells c e F))->B b):Carry (λa b=>a=b) K K w (cT (idR G B) fz w) where
 fn _ _ _ h1 h2:=h1.symm.trans h2
 cell b b' o v hs hc hv:=by
  subst hs;obtain⟨c,e,F,h1,h2⟩:=m7 hc;obtain⟨j,f⟩:=jx (G:=G) (B:=B) (fz:=fz) h1;have d:∀v',Go.Tm.mask (idR G B) v=v'->(cT (idR G B) fz w).cell? ⟨b,o,none⟩=some v':=λv' e=>jd f (by rw[S9,h2,Tl,e]);cases hv with
  |bool=>exact⟨_,d _ (iL (.bool _)),.bool _⟩
  |int=>exact⟨_,d _ (iL (.int _ _)),.int _ _⟩
  |string=>exact⟨_,d _ (iL (.string _)),.string _⟩
  |empty g=>obtain⟨k,e⟩:=Gv (idR G B) g;exact⟨_,d _ e,.empty _ _⟩
  | @slice _ g l c h=>
   refine⟨_,d _ (iL (CV.self i (.slice _ _ h))),?_⟩;cases g with
   |none=>exact .iu _ _
   |some a=>obtain⟨b,o,p⟩:=a;obtain⟨h1,h2,n,e,F,f⟩:=h _ rfl;simp only[]at h1;subst h1;obtain⟨j,m⟩:=jx (G:=G) (B:=B) (fz:=fz) f;exact .slice _ _ rfl h2 ⟨_,_,_,m⟩
def TV.mask{K B fz w q v}(f:CV K w q v):TV (λa b=>a=b) K (cT (idR G B) fz w) q v v:=by cases f with|bool=>exact .bool _|int=>exact .int _ _|string=>exact .string _|empty=>exact .empty _ _| @slice _ g l c h=>cases g with|none=>exact .iu _ _|some a=>obtain⟨b,o,p⟩:=a;obtain⟨d,i,m,e,F,j⟩:=h _ rfl;simp only[]at d;subst d;obtain⟨n,k⟩:=jx (G:=G) (B:=B) (fz:=fz) j;exact .slice _ _ rfl i ⟨_,_,_,k⟩
def bI.mask{K B fz:Nat->Prop}{w:World}(d:∀b,K b->(∃c e F,w.heap[b]? =some (.cells c e F))->B b){sc c}(h:bI K w sc c):bI K (cT (idR G B) fz w) sc c:=h.carry (Carry.mask d) rfl λi v V f a g=>by rw[f]at a;cases a;exact TV.mask g
def fI.mask{K B fz:Nat->Prop}{w:World}{sc}(h:fI K w sc):fI K (cT (idR G B) fz w) sc:=λv a=>(TV.mask (h v a)).cv
def fI.stays{K w w' sc}(a:ae w w')(h:fI K w sc):fI K w' sc:=λv b=>(TV.self a (h v b)).cv
def fI.self{K B:Nat->Prop}{w:World}(a:∀b,K b->(∃c e F,w.heap[b]? =some (.cells c e F))->B b){sc}(h:fI K w sc):aw (idR G B) (.agg sc) (.agg sc):=.ET (aX.refl λv d=>(h v d).self a)
def named(π:Ren G)(R:Nat):Prop:=∃r,π r R
def TV.GK{π:Ren G}{K w W Pr}(i:bn S Pr π w W){q v V}(j:CV K w q v)(h:aw π v V):TV π.rel (named π) W q v V:=by cases j with|bool=>cases h;exact .bool _|int=>cases h;exact .int _ _|string=>cases h;exact .string _|empty k=>cases h<;>exact .empty _ _| @slice _ k l c d=>cases h with|iu=>exact .iu _ _|pN A=>exact absurd (d _ rfl).1 (by simp)| @slice a A _ _ m=>cases m with| @mk r s o p b=>obtain⟨f,x,y,e,F,n⟩:=d _ rfl;simp only[]at f;subst f;obtain⟨z,B,g,t,u⟩:=i.obj r s b;rw[n]at g;cases g;cases u;exact .slice _ _ b ⟨_,b⟩ ⟨_,_,_,t⟩
def Carry.rel{π:Ren G}{K:Nat->Prop}{w W:World}{Pr:Nat->Prop}(g:bn S Pr π w W):Carry π.rel K (named π) w W where
 fn:=π.fn
 cell b b' o v hs hc hv:=by
  obtain⟨c,e,F,i,j⟩:=m7 hc;obtain⟨m,n,h,k,l⟩:=g.obj b b' hs;rw[i]at h;cases h;cases l with
  | @cells _ C _ _ _ d _=>
   have a:=d.get o;rw[j]at a;cases f:C[o]? with
   |none=>rw[f]at a;cases a
   |some V=>
    rw[f]at a;cases a with
    |some r=>exact⟨V,jd k f,TV.GK g hv r⟩
def fI.rel{π:Ren G}{K w W Pr}(d:bn S Pr π w W){sc SC}(e:aw π (.agg sc) (.agg SC))(h:fI K w sc):fI (named π) W SC:=by cases e with| @agg _ _ f g=>intro V j;obtain⟨i,b⟩:=U4.1 j;have a:i<sc.size:=f▸(Sw.1 b).1;have c:=SV a;exact(TV.GK d (h _ (Tx c)) (g i _ V c b)).cv
def ui(w:World)(sc:Array Value)(c:Case):Prop:=bI (λ_=>True) w sc c/\fI (λ_=>True) w sc
def ui.stays{w w' sc c}(a:ae w w')(h:ui w sc c):ui w' sc c:=⟨h.1.stays a,h.2.stays a⟩
def bI.rel{π:Ren G}{K w W Pr}(a:bn S Pr π w W){sc A c}(d:aw π (.agg sc) A)(h:bI K w sc c):∃b,A=.agg b/\bI (named π) W b c:=by cases d with| @agg _ C e f=>exact⟨C,rfl,h.carry (Carry.rel a) e.symm λi v V g j k=>TV.GK a k (f i v V g j)⟩
end
structure iO(w:World):Prop where
 kinds:fX w
 len:gP w
 cells:∀g,g<5->∃c e F,w.heap[g]? =some (.cells c e F)
 size:Tryz.prog.globals.size<=w.heap.size
def iO.stays{w w'}(h:iO w)(a:ae w w')(b:w.heap.size<=w'.heap.size):iO w':=⟨h.kinds.stays a,h.len.stays a,λg d=>by obtain⟨c,e,F,f⟩:=h.cells g d;exact⟨c,e,F,a _ _ _ _ f⟩,Sq h.size b⟩
def zY(k):eH k≠74:=by (unfold eH;repeat' split);all_goals decide
section
variable {G:Nat} {S:Kn}
def zZ(π:Ren G)(f:Nat)(a:f≠74):aw π (.func (.func f) #[] #[]) (.func (.func f) #[] #[]):=.func (.func f a) rfl (λi x X h=>by simp at h) rfl (λi x X h=>by simp at h)
def oW{B fz w b o v}(h:w.cell? ⟨b,o,none⟩=some v)(a:aw (idR G B) v v):(cT (idR G B) fz w).cell? ⟨b,o,none⟩=some v:=by obtain⟨c,e,F,d,f⟩:=m7 h;obtain⟨i,g⟩:=jx (G:=G) (B:=B) (fz:=fz) d;exact jd g (by rw[S9,f,Tl,iL a])
def iO.mask{B fz:Nat->Prop}{w:World}(h:iO w):iO (cT (idR G B) fz w) where
 kinds k hk:=oW (h.kinds k hk) (zZ _ _ (zY k))
 len:=h.len.elim λm a=>⟨m,oW a (.int _ _)⟩
 cells g hg:=by obtain⟨c,e,F,b⟩:=h.cells g hg;obtain⟨f,d⟩:=jx (G:=G) (B:=B) (fz:=fz) b;exact⟨_,_,_,d⟩
 size:=by
  have:(cT (idR G B) fz w).heap.size=w.heap.size:=by unfold cT;simp
  rw[this];exact h.size
def Et{π:Ren G}{Pr w W}(j:bn S Pr π w W){b d o v}(k:π b d)(h:w.cell? ⟨b,o,none⟩=some v):∃V,W.cell? ⟨d,o,none⟩=some V/\aw π v V:=by obtain⟨c,e,F,l,m⟩:=m7 h;obtain⟨q,s,i,n,p⟩:=j.obj b d k;rw[l]at i;cases i;cases p with| @cells _ C _ _ _ f _=>have a:=f.get o;rw[m]at a;cases g:C[o]? with|none=>rw[g]at a;cases a|some V=>rw[g]at a;cases a with|some r=>exact⟨V,jd n g,r⟩
def Mx{π:Ren G}{f:Nat}{V}(h:aw π (.func (.func f) #[] #[]) V):V=.func (.func f) #[] #[]:=by cases h with| @func fn i a A c C b d j e k=>cases b with|func=>have e1:A=#[]:=Wm d.symm;have g:C=#[]:=Wm e.symm;rw[e1,g]
def iO.rel{π:Ren Tryz.prog.globals.size}{Pr:Nat->Prop}{w W:World}(d:bn S Pr π w W)(f:∀g,g<5->π g g)(h:iO w):iO W where
 kinds k hk:=by obtain⟨V,a,b⟩:=Et d (f 0 (by decide)) (h.kinds k hk);rw[Mx b]at a;exact a
 len:=by obtain⟨m,i⟩:=h.len;obtain⟨V,a,b⟩:=Et d (f 2 (by decide)) i;cases b;exact⟨m,a⟩
 cells g hlt:=by obtain⟨c,e,F,j⟩:=h.cells g hlt;obtain⟨o,O,a,b,l⟩:=d.obj g g (f g hlt);rw[j]at a;cases a;cases l;exact⟨_,_,_,b⟩
 size:=d.gW
end
def dJ(w:World)(v:Value)(L:List Value):Prop:=∃sc c,v=.agg sc/\(bI (λ_=>True) w sc c/\fI (λ_=>True) w sc)/\OkC c/\(∀r∈c.rules,r.kind<=3)/\iO w/\L=gS (bV c)
def qq:oT dJ:=λw w' v L ⟨sc,c,h,f,i,j,b,k⟩ a=>by refine⟨sc,c,h,⟨f.1.stays a,f.2.stays a⟩,i,j,?_,k⟩;refine⟨b.kinds.stays a,b.len.stays a,λg l=>?_,?_⟩;obtain⟨c,e,F,d⟩:=b.cells g l;exact⟨c,e,F,a _ _ _ _ d⟩;rw[j6];obtain⟨c,e,F,d⟩:=b.cells 4 (by decide);exact(Sw.1 (a _ _ _ _ d)).1
theorem pM{c}(b:OkC c)(m)(d:OkM m)(kin):∀(a) (i) (k) (v),eE c m kin i a=some (k,v)->k<i+a.length/\0<=v/\v<=100000
 | [],i,k,v,h=>by cases h
 |r::a,i,k,v,h=>by
  unfold eE at h;split at h
  ·cases h
   have:=lA c.table r.kind c.new m b.new.fig d.fig;exact⟨by simp,this.1,this.2⟩
  ·have:=pM b m d kin a (i+1) k v h
   simp only[Ss];exact⟨by omega,this.2⟩
def MC{c}(a:OkC c){i x}(h:gZ c i=some x):ga c x:=by unfold gZ at h;split at h;rename_i m k e g;(have f:i<c.marks.length:=(TX.1 e).1;have b:=a.marks m (TL e);cases d:eE c m k 0 c.rules with|none=>rw[d]at h;cases h|some p=>obtain⟨q,v⟩:=p;rw[d]at h;cases h;obtain⟨j,l,n⟩:=pM a m b k c.rules 0 q v d;have:=a.E9;exact⟨⟨i,f,rfl⟩,by show(-1000:Int)<=(q:Int)/\(q:Int)<=1000;omega,by show(-1000000:Int)<=v/\v<=1000000;omega⟩);cases h
def Ev{c}(a:OkC c):∀x∈bV c,ga c x:=λx b=>by have:=(jW c).mem_iff.1 b;obtain⟨i,_,d⟩:=List.mem_filterMap.1 this;exact MC a d
section
variable {K:Nat->Prop} {W W':World}
def BP{b}(a:W'.heap[b]? =W.heap[b]?){o v}(h:W.cell? ⟨b,o,none⟩=some v):W'.cell? ⟨b,o,none⟩=some v:=(dh a).trans h
def TV.on(g:∀b,K b->W'.heap[b]? =W.heap[b]?){q v}(h:CV K W q v):TV (λa b=>a=b/\K a) K W' q v v:=by cases h with|bool=>exact .bool _|int=>exact .int _ _|string=>exact .string _|empty=>exact .empty _ _| @slice _ i l c j=>cases i with|none=>exact .iu _ _|some a=>obtain⟨b,o,p⟩:=a;obtain⟨f,d,m,e,F,k⟩:=j _ rfl;simp only[]at f;subst f;exact .slice _ _ ⟨rfl,d⟩ d ⟨_,_,_,(g b d).trans k⟩
def bI.on(e:∀b,K b->W'.heap[b]? =W.heap[b]?){sc c}(h:bI K W sc c):bI K W' sc c:=bI.carry (σ:=λa b=>a=b/\K a) ⟨λ_ _ _ f d=>f.1.symm.trans d.1,λb m o v j k g=>by obtain⟨rfl,l⟩:=j;exact⟨v,BP (e b l) k,TV.on e g⟩⟩ rfl (λi v V f d g=>by rw[f]at d;cases d;exact TV.on e g) h
end
def Ew{fs}(L:bP fs){c}(d:OkC c)(e:∀r∈c.rules,r.kind<=3):vc fs c:=λr b=>by (have g:=(d.rules r b).1;have h:=e r b;obtain⟨k,f⟩:=ex (r.kind.toNat);rw[<-f];have a:k<4:=by omega);match k,a with|0,_=>exact FL L|1,_=>exact Lr L|2,_=>exact Ls L|3,_=>exact FO L
def masked{π:Ren Tryz.prog.globals.size}{W W' w B fz sc c}(i:∀g,g<5->π g g)(d:iO W)(n:bI (named π) W sc c) (a:∀b,named π b->W'.heap[b]? =W.heap[b]?) (o:∀b,named π b->(∃c e F,W.heap[b]? =some (.cells c e F))->B b) (j:w.heap=(cT (idR Tryz.prog.globals.size B) fz W').heap):bI (named π) w sc c/\gP w/\fX w:=by (have e:∀(p:Addr),w.cell? p=(cT (idR Tryz.prog.globals.size B) fz W').cell? p:=λp=>by unfold World.cell?;rw[j]);refine⟨?_,?_,?_⟩;have q:=n.on a;(have r:bI (named π) (cT (idR Tryz.prog.globals.size B) fz W') sc c:=q.mask λb l s=>o b l (by rw[<-a b l];exact s);exact r.stays λb c e f h=>by rw[j];exact h);obtain⟨m,t⟩:=d.len;exact⟨m,(e _).trans (oW (BP (a 2 ⟨2,i 2 (by decide)⟩) t) (.int _ _))⟩;intro k u;exact(e _).trans (oW (BP (a 0 ⟨0,i 0 (by decide)⟩) (d.kinds k u)) (zZ _ _ (zY k)))
def JW{π:Ren Tryz.prog.globals.size}{xs:List Value}(h:∀x∈xs,∃k n,x=.int k n):xs.toArray.map (mask π)=xs.toArray:=by refine UK (by simp) λi b a=>?_;simp only[Array.getElem_map];obtain⟨k,n,e⟩:=h (xs.toArray[i]) (TC.1 (UL a));rw[e];exact iL (.int k n)
def GZ(k):∀x∈cJ jZ k,∃kd n,x=.int kd n:=λx b=>by obtain⟨l,c,a⟩:=VV.1 b;have:=VX c;subst this;simp[jZ]at a;subst a;exact⟨_,_,rfl⟩
def my:bP (fH nu):=oV nu
def xF:tx gy dJ:=by (rintro Pr π w W v A L Y F ⟨ab,c,rfl,⟨hc,G⟩,t,h3,H,rfl⟩ I;obtain⟨sc,rfl,J⟩:=hc.rel F Y;have Z:fI (named π) W sc:=G.rel F Y;have p:∀g,g<5->π g g:=λg M=>I g (SD M);have a:iO W:=H.rel F p;obtain⟨N,O,h9,P⟩:∃N O,sc[9]? =some (.slice N c.marks.length O)/\sc.size=11:=by obtain⟨v0,v1,v2,vr,vf,vm,vk,rfl,_,_,_,hm,_⟩:=J;obtain⟨ao,cm,rfl,_⟩:=hm;exact⟨ao,cm,rfl,rfl⟩);have Q:=t.sN;refine⟨sc,c.marks.length,uR c,λ_=>gS (bV c),named π,N,O,rfl,h9,by rw[P];kernel_rfl,by omega,λb m=>m,?_,?_,λ_ _=>rfl,tz _⟩;refine Jz (S:=lP) (fs:=fH nu) zW (λ_=>rfl) tE (by kernel_rfl) (λg d=>⟨⟨g,I g d⟩,a.cells g (Tf d)⟩) a.size (λB r=>Z.self r) λi hi w' W' B fz f r k=>?_;(obtain⟨m1,m2,m3⟩:=masked p a J f r k;exact(Rz my i w' m1 t hi (Ew my t h3) m2 m3).mono λe w2 ⟨u,s⟩=>⟨u,λb m=>s.block b m⟩);refine GB (S:=lP) (fs:=fH nu) zW (λ_=>rfl) tE (by kernel_rfl) (λg d=>⟨⟨g,I g d⟩,a.cells g (Tf d)⟩) a.size (λB r=>Z.self r) (λhs R=>?_) λhs R w' W' B fz v6 N0 f r o y k=>?_;obtain⟨l,rfl,z⟩:=zS R;exact⟨by unfold gS;rw[TB,TB,z.length_eq],tz _⟩;obtain⟨m1,m2,m3⟩:=masked p a J f r k;(obtain⟨l,rfl,z⟩:=zS R;have C:(gS l).length=l.length:=by unfold gS;rw[TB]);rw[C,gU]at o;rw[C];obtain⟨rfl,h0⟩|⟨g,cap,rfl,D,T,ad,af,ag⟩:=o.2;(refine(JF my w').mono λe w2 ⟨u,s⟩=>⟨u,λg cap e=>by(cases e),λb m _=>by rw[s]⟩);obtain⟨ak,U,V⟩:=y g rfl;(obtain⟨rest,h⟩:=ex (cJ jZ (cap-l.length));have j:w'.heap[g]? =some (.cells (bu l++rest).toArray 66 (0,0)):=by rw[k,fG,T,Tl];show some (Obj.cells ((bu l++cJ jZ (cap-l.length)).toArray.map (mask _)) 66 _)=_;rw[JW λx hx=>?_,h];congr 2;exact Sm U;obtain hx|hx:=Ud.1 hx;obtain⟨n,hn⟩:=sS l x hx;exact⟨_,n,hn⟩;exact GZ _ x hx);(have X:g<w'.heap.size:=(Sw.1 j).1;have an:l.length<=8:=by rw[z.length_eq,(jW c).length_eq];exact Sq (Wn _ _) (by rw[VP];exact Q));(have q:=Mm my (cap:=cap) (d0:=l.toArray) (rest:=rest) w' m1.days t (λb m D=>V (by rw[<-D];exact m)) (λx hx=>Ev t x (z.mem_iff.1 (by simpa using hx))) (by simp;omega) X ⟨Sp _,λ_ _ _=>rfl,by simpa using j⟩;have E:=En z;have hz:l.toArray.size=l.length:=by simp);(rw[hz]at q E;refine q.mono λe w2 ⟨u,s⟩=>⟨u,λg' aa e'=>?_,λb m ho=>s.other b m λe=>ho (by rw[e];rfl)⟩);cases e';rw[gU,s.row,E,h]
def iQ:bP (fH g74):=oV g74
def Ab{w w' v c}(h:fW w.heap.size w' v (bV c))(k:Below w.heap.size w w'):R77 (gS (bV c)) w v w':=by (refine⟨k.size,λb i=>k.block b i,?_⟩;have a:(gS (bV c)).length=(bV c).length:=by unfold gS;rw[TB]);rw[a,gU];obtain⟨⟨r,m⟩,n⟩:=h;by_cases f:bV c=[];exact .inl ⟨by rw[f];rfl,n f⟩;refine .inr ⟨λe=>f (by unfold gS at e;simpa using e),?_⟩;have l:0<(bV c).length:=TO.2 f;obtain⟨_,s⟩|⟨g,cap,o,e,t,p,x,y,z,q⟩:=m;omega;refine⟨⟨g,0,none⟩,cap,e,λj u d=>?_⟩;rw[show(Addr.add ⟨g,0,none⟩ j)=⟨g,0+j,none⟩ by simp[Addr.add];omega];refine cell_of_heap p _ _ ?_;rw[SF,<-TA];rw[<-q]at d;rw[VZ]at d;split at d;exact d;cases d
def J4(P a f2):ah (ah P a) f2=ah P f2:=rfl
def oE{c}(a:OkC c):(bV c).length<=8:=by rw[(jW c).length_eq];exact Sq (Wn _ _) (by rw[VP];exact a.sN)
def Ex{Post}:m6 gy (fH g74) Post dJ:=by have j:(fH g74)[77]? =some Tryz.f77:=(tA _ _).symm.trans (n77 iQ);refine El (S₁:=lP) (fs₁:=fH nu) (rP g74) j (by kernel_rfl) (by kernel_rfl) JO GQ (λ_=>rfl) tE (by kernel_rfl) qq ?_ ?_ ?_ ?_ ?_ ?_;rintro w v L ⟨sc,c,rfl,d,f,i,a,rfl⟩;exact a.size;rintro w v L ⟨sc,c,rfl,d,f,i,a,rfl⟩;refine⟨?_,tz _⟩;have:=oE f;unfold gS;rw[TB];omega;rintro w v L ⟨sc,c,rfl,d,f,i,a,rfl⟩ g m;exact a.cells g (Tf m);rintro w v L ⟨sc,c,rfl,d,f,i,a,rfl⟩;exact⟨⟨sc,c,rfl,⟨d.1.mask λb _ h=>h,d.2.mask⟩,f,i,a.mask,rfl⟩,d.2.self λb _ h=>h⟩;rintro w v L ⟨sc,c,rfl,d,f,i,a,rfl⟩;(exact(vU iQ w d.1 f).mono λe w' ⟨v,k,l,i⟩=>⟨v,k,Ab l i⟩);rintro w v L ⟨sc,c,rfl,d,f,i,a,rfl⟩;rw[J4];exact(vU my w d.1 f).mono λe w' ⟨v,k,l,i⟩=>⟨v,k⟩
end Go.Proofs
namespace Go.Proofs
open Go.Tm Go.RowKit Go.ChangeShapes Go.WideShapes Go.ChangeAt Go.WideElems Go.Conc
section
variable {H:Type} {enc:TypeId×Value->H}
def oD{a C os f fn s g b fresh d h}{X:World->Array Value->Prop} (E:∀(w w') (args),w.heap=w'.heap->X w args->X w' args) (own:ownKnob C.prog.godebug=none) (k:os.Started) (x:C.prog.funcs[f]? =some fn) (l:∃(w:World) (tape:Tape) (i:Input),w.os=os/\(w.forCall tape i).Shaped C.prog/\i.vars=[]/\Input.okWide C.prog (w.forCall tape i) .any w.heap.size f i/\((s.pre enc C.prog fn g b (w.forCall tape i).memory i.args/\X (w.forCall tape i).memory i.args)/\sizedMet enc C.prog fn (OpenSpec.ofChange s) b (w.forCall tape i).memory i.args)/\a.holds C.prog (lone (Frame.enter C.prog f i.args .normal) [] (w.forCall tape i))) (m:∀(W) (base) (args) (ds r) (c),(∀(j:Nat) t v,fn.params[j]? =some t->args[j]? =some v->Value.okWide C.prog W .any base t v)->DataW.Whole enc C.prog fn.params.toList s.vars b W args.toList ds r c->(DataW.weightsEach C.prog (fn.params.toList++s.plain.varTypes C.prog) (ds++r)).all (· <=reachBytes)=true->X W args->W.ShapedOpen C.prog->∃M last o w' u,runNT C.prog (M+1) (solo (G (Frame.enter C.prog f args .normal) []) W) #[]=(.ended o w',u)/\runN C.prog M (solo (G (Frame.enter C.prog f args .normal) []) W)=.next last/\step C.prog last=.ended o w'/\Conc.Good C.prog (λv F=>s.post enc C.prog fn b fresh d h W args v F) last o w' u):ReturnsInLeavingWide a C os f .any (λw args=>(s.pre enc C.prog fn g b w args/\X w args)/\sizedMet enc C.prog fn (OpenSpec.ofChange s) b w args) (s.post enc C.prog fn b fresh d h):=by refine returnsInLeavingWide_of_good own k l ?_;intro w tape i _ y _ z n _;obtain⟨_,_,_,A,p,_,_,_,_,q⟩:=z;have e:A=fn:=SZ (p.symm.trans x);subst e;obtain⟨⟨⟨ds,r,c,D,Q⟩,I⟩,J⟩:=n;have B:=DataW.Whole.of_heap (w':=w.forCall tape i) (by rfl) D;obtain⟨M,last,o,w',u,K,L,N,O⟩:=m (w.forCall tape i) w.heap.size i.args ds r c q B (J.weights D) (E _ _ _ (by rfl) I) y;exact⟨M,last,o,w',u,K,L,N,O.mono λv P=>ChangeSpec.post_blind P⟩
end
def Mz:Tryz.prog.globalNamed "touchmark/like.kinds" =some 0:=by kernel_rfl
def PR:(Tryz.prog.globals[0]?).map (·.type)=some 117:=by kernel_rfl
def Eu:Tryz.prog.cellsOf 116=2:=by kernel_rfl
def MA:Tryz.prog.cellsOf 114=1:=by kernel_rfl
def kindName(k:UInt8):List UInt8:=[116,111,117,99,104,109,97,114,107,47,108,105,107,101,46,107,105,110,100,115,36,k]
def xE:DataW Unit:=.agg [.agg [.lit (.string [108,101,116,116,101,114,115]),.iface "func" (.lit (.string (kindName 49)))],.agg [.lit (.string [115,111,117,110,100,115]),.iface "func" (.lit (.string (kindName 50)))], .agg [.lit (.string [109,101,97,110,115]),.iface "func" (.lit (.string (kindName 51)))],.agg [.lit (.string [116,117,114,110,101,100]),.iface "func" (.lit (.string (kindName 52)))], .agg [.lit (.string [99,117,116]),.iface "func" (.lit (.string (kindName 53)))],.agg [.lit (.string [102,105,103,117,114,101,115]),.iface "func" (.lit (.string (kindName 54)))]]
def bN(k:Nat):List UInt8:=kindName (49+k.toUInt8)
def MB(k)(a:k<6):((List.range Tryz.prog.funcs.size).filter λf=>(Tryz.prog.funcs[f]?).any (·.name.toUTF8.data.toList==bN k))=[eH k]:=by
 match k,a with
 |0,_=>(have h:((List.range Tryz.prog.funcs.size).filter λf=>(Tryz.prog.funcs[f]?).any (·.name.toUTF8.data.toList==bN 0))=[eH 0]:=by kernel_rfl);exact h
 |1,_=>(have h:((List.range Tryz.prog.funcs.size).filter λf=>(Tryz.prog.funcs[f]?).any (·.name.toUTF8.data.toList==bN 1))=[eH 1]:=by kernel_rfl);exact h
 |2,_=>(have h:((List.range Tryz.prog.funcs.size).filter λf=>(Tryz.prog.funcs[f]?).any (·.name.toUTF8.data.toList==bN 2))=[eH 2]:=by kernel_rfl);exact h
 |3,_=>(have h:((List.range Tryz.prog.funcs.size).filter λf=>(Tryz.prog.funcs[f]?).any (·.name.toUTF8.data.toList==bN 3))=[eH 3]:=by kernel_rfl);exact h
 |4,_=>(have h:((List.range Tryz.prog.funcs.size).filter λf=>(Tryz.prog.funcs[f]?).any (·.name.toUTF8.data.toList==bN 4))=[eH 4]:=by kernel_rfl);exact h
 |5,_=>(have h:((List.range Tryz.prog.funcs.size).filter λf=>(Tryz.prog.funcs[f]?).any (·.name.toUTF8.data.toList==bN 5))=[eH 5]:=by kernel_rfl);exact h
def yJ{l W}(h:laidMetH Tryz.prog l W)(z:("touchmark/like.kinds",DataW.iface "func table" xE)∈l):fX W:=by
 obtain⟨g,t,cs,fuel,p,A,B,C,D⟩:=h.funcs z;obtain rfl:=SZ (Mz.symm.trans A);obtain rfl:=SZ (PR.symm.trans B);obtain⟨xs,m,rfl,e,K,L,s⟩:=DataW.trod_array Tryz.underlying117 D;have E:xs.map (·.1)=[.agg [.lit (.string [108,101,116,116,101,114,115]),.held (bN 0)],.agg [.lit (.string [115,111,117,110,100,115]),.held (bN 1)],
  .agg [.lit (.string [109,101,97,110,115]),.held (bN 2)],.agg [.lit (.string [116,117,114,110,101,100]),.held (bN 3)],
  .agg [.lit (.string [99,117,116]),.held (bN 4)],.agg [.lit (.string [102,105,103,117,114,101,115]),.held (bN 5)]]:=by
  have e1:=(UH e).1;have v:xE.funcsOut=_:=e1;have e3:xE.funcsOut=.agg [.agg [.lit (.string [108,101,116,116,101,114,115]),.held (bN 0)],.agg [.lit (.string [115,111,117,110,100,115]),.held (bN 1)],
   .agg [.lit (.string [109,101,97,110,115]),.held (bN 2)],.agg [.lit (.string [116,117,114,110,101,100]),.held (bN 3)],
   .agg [.lit (.string [99,117,116]),.held (bN 4)],.agg [.lit (.string [102,105,103,117,114,101,115]),.held (bN 5)]]:=by
   simp[xE,DataW.funcsOut,DataW.funcsOutAll,kindName,bN]
  rw[e3]at v;exact(DataW.agg.inj v).symm
 intro k u;have c:=s k u;rw[Eu]at c;have f:k<xs.length:=by omega
 rw[Td f]at c;obtain⟨M,w,F,e1,a,_,i⟩:=trod_struct2 Tryz.underlying116 c;have o:∃x,(xs[k]).1=.agg [x,.held (bN k)]:=by (have d:(xs.map (·.1))[k]? =some (xs[k]).1:=by rw[T5,Td f];rfl);rw[E]at d;match k,u with|0,_=>exact⟨_,(SZ d).symm⟩|1,_=>exact⟨_,(SZ d).symm⟩|2,_=>exact⟨_,(SZ d).symm⟩|3,_=>exact⟨_,(SZ d).symm⟩|4,_=>exact⟨_,(SZ d).symm⟩|5,_=>exact⟨_,(SZ d).symm⟩
 obtain⟨x,o⟩:=o;rw[e1]at o;have G:w.1=.held (bN k):=by have:=DataW.agg.inj o;simp only[Vq,and_true]at this;exact this.2
 rw[Eu]at a;obtain⟨q,c1,j⟩:∃q c1,(cs.toList.drop (k*2)).take 2=[q,c1]:=by match(cs.toList.drop (k*2)).take 2,a with| [q,c1],_=>exact⟨q,c1,rfl⟩
 rw[j]at i;have n:DataW.trod (funcToken Tryz.prog) Tryz.prog W 0 (λ_=>true) true F 114 [c1]=some (.held (bN k),w.2):=by rw[<-G];have I:Tryz.prog.cellsOf 114=1:=MA;simpa[I]using i
 have J:c1=.func (.func (eH k)) #[] #[]:=func_of_trod (b:=116) (r:=[111,117,99,104,109,97,114,107,47,108,105,107,101,46,107,105,110,100,115,36,49+k.toUInt8]) Tryz.underlying114 (MB k u) n;rw[World.var?_cell Mz C (k*2+1),<-J,<-TA];have y:((cs.toList.drop (k*2)).take 2)[1]? =some c1:=by rw[j];rfl
 rw[VZ,Sn (by decide),Vf]at y;exact y
def JV(g)(a:g<5):∃zero t,(((begin Tryz.prog (λ_ _=>0) default).world.heap[g]?).bind Obj.row?)=some (zero,t):=by
 have h:(((begin Tryz.prog (λ_ _=>0) default).world.heap[g]?).bind Obj.row?).isSome=true:=by
  match g,a with
  |0,_=>(have h:(((begin Tryz.prog (λ_ _=>0) default).world.heap[0]?).bind Obj.row?).isSome=true:=by kernel_rfl);exact h
  |1,_=>(have h:(((begin Tryz.prog (λ_ _=>0) default).world.heap[1]?).bind Obj.row?).isSome=true:=by kernel_rfl);exact h
  |2,_=>(have h:(((begin Tryz.prog (λ_ _=>0) default).world.heap[2]?).bind Obj.row?).isSome=true:=by kernel_rfl);exact h
  |3,_=>(have h:(((begin Tryz.prog (λ_ _=>0) default).world.heap[3]?).bind Obj.row?).isSome=true:=by kernel_rfl);exact h
  |4,_=>(have h:(((begin Tryz.prog (λ_ _=>0) default).world.heap[4]?).bind Obj.row?).isSome=true:=by kernel_rfl);exact h
 obtain⟨⟨z,t⟩,b⟩:=Wd.1 h;exact⟨z,t,b⟩
def yK{W}(h:W.ShapedOpen Tryz.prog)(f:fX W):iO W:=by (have b:∀g,g<5->∃c e F,W.heap[g]? =some (.cells c e F):=λg d=>by obtain⟨z,t,i⟩:=JV g d;obtain⟨cs,a,_⟩:=h.1 g z t (by rw[j6];exact d) i;exact⟨cs,t,_,a⟩);refine⟨f,cell_of_shapedOpen_int (P:=Tryz.prog) (g:=2) (t:=3) (zero:=#[.int .i64 0]) h (Tf (by kernel_rfl)) (by kernel_rfl) rfl (by kernel_rfl) (by kernel_rfl) Tryz.underlying3,b,?_⟩;rw[j6];obtain⟨c,e,F,a⟩:=b 4 (by decide);exact(Sw.1 a).1
end Go.Proofs

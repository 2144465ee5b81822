import Derived.Conc.LeavingOf
import Derived.LaidSub
import Derived.MakeChecks
import Derived.OpenShut
import Derived.Shelf.Vars
import Derived.Test.YtaglpcmhopjebaaGreatDoorS24
set_option linter.all false
set_option maxRecDepth 100000
set_option maxHeartbeats 20000000
namespace Go.Proofs
open Go.Tm Go.RowKit
variable {fs:Array Func} (L:bM fs)
def CU(w:World):List Obj->World
 | []=>w
 |o::os=>CU (w.alloc o) os
theorem nI:∀(os) (w) (B),B<=w.heap.size->Below B w (CU w os)
 | [],w,B,_=>Below.refl _ _
 |o::os,w,B,h=>((Below.refl B w).alloc h o).trans (nI os (w.alloc o) B (by simp;omega))
theorem yx:∀(os) (w) (k),k<os.length->(CU w os).heap[w.heap.size+k]? =os[k]?
 |o::os,w,0,_=>by show(CU (w.alloc o) os).heap[w.heap.size+0]? =some o;rw[(nI os (w.alloc o) (w.heap.size+1) (by simp)).block _ (by omega)];exact Uc
 |o::os,w,k+1,h=>by have:=yx os (w.alloc o) k (by simpa using h);rw[show(w.alloc o).heap.size=w.heap.size+1 by simp]at this;rw[show w.heap.size+(k+1)=w.heap.size+1+k by omega];exact this
def NY(N:Nat):Array Value:=#[.slice (some ⟨N+1,0,none⟩) 5 5,.slice (some ⟨N+1+1+1,0,none⟩) 1 1,.slice (some ⟨N+1+1+1+1+1,0,none⟩) 1 1,.slice (some ⟨N+1+1+1+1+1+1,0,none⟩) 3 3,.string ⟨#[110,111,118,97]⟩,.string ⟨#[207,129,206,191,206,182,206,177]⟩,.slice none 0 0,.int .i64 9,.bool false,.slice (some ⟨N+1+1+1+1+1+1+1,0,none⟩) 4 4,.slice (some ⟨N+1+1+1+1+1+1+1+1,0,none⟩) 4 4]
def CW(N:Nat):List Obj:=[.cells #[.slice (some ⟨N+1,0,none⟩) 5 5,.slice (some ⟨N+1+1+1,0,none⟩) 1 1,.slice (some ⟨N+1+1+1+1+1,0,none⟩) 1 1,.slice (some ⟨N+1+1+1+1+1+1,0,none⟩) 3 3,.string ⟨#[110,111,118,97]⟩,.string ⟨#[207,129,206,191,206,182,206,177]⟩,.slice none 0 0,.int .i64 9,.bool false,.slice (some ⟨N+1+1+1+1+1+1+1,0,none⟩) 4 4,.slice (some ⟨N+1+1+1+1+1+1+1+1,0,none⟩) 4 4] 60, .cells #[.string ⟨#[207,129]⟩,.string ⟨#[114]⟩,.string ⟨#[206,191]⟩,.string ⟨#[111]⟩,.string ⟨#[206,182]⟩,.string ⟨#[122]⟩,.string ⟨#[206,177]⟩,.string ⟨#[97]⟩,.string ⟨#[206,178]⟩,.string ⟨#[118]⟩] 46, .cells #[.string ⟨#[122]⟩,.string ⟨#[115]⟩,.string ⟨#[104]⟩,.string ⟨#[]⟩] 51, .cells #[.string ⟨#[105,116]⟩,.slice (some ⟨N+1+1,0,none⟩) 2 2] 50, .cells #[.string ⟨#[114,111,122,97]⟩,.string ⟨#[114,111,115,101]⟩] 9, .cells #[.slice (some ⟨N+1+1+1+1,0,none⟩) 2 2] 92, .cells #[.int .i64 1,.int .i64 90,.int .i64 3,.int .i64 1,.int .i64 2,.int .i64 100,.int .i64 5,.int .i64 2,.int .i64 3,.int .i64 70,.int .i64 6,.int .i64 6] 69, .cells #[.string ⟨#[97,108,98,97]⟩,.string ⟨#[114,111,115,97]⟩,.slice none 0 0,.int .i64 1,.bool false,.string ⟨#[98,101,108,97]⟩,.string ⟨#[114,111,115,101]⟩,.slice none 0 0,.int .i64 3,.bool false,.string ⟨#[99,111,114,97]⟩,.string ⟨#[97,115,111,114]⟩,.slice none 0 0,.int .i64 2,.bool false,.string ⟨#[100,111,114,97]⟩,.string ⟨#[114,104,111,115,97]⟩,.slice none 0 0,.int .i64 9,.bool false] 38, .cells #[.int .i64 4,.int .i64 5,.int .i64 3,.int .i64 9] 3]
def mo{c:Type}{d:Nat}{E:(Nat->Prop)->World->Nat->Nat->c->Prop}{W:World}{b:Nat}{cs:Array Value}{e:TypeId}{F:Nat×Nat}{l:List c}{n:Nat}(h:W.heap[b]? =some (.cells cs e F))(g:n=l.length)(m:n<=1000)(i:∀k (f:k<l.length),E (λ_=>True) W b (k*d) l[k]):aD (λ_=>True) d E W (.slice (some ⟨b,0,none⟩) n n) l:=by subst g;refine⟨some ⟨b,0,none⟩,l.length,rfl,Tw _,by omega,.inr λa j=>?_,λk f=>⟨b,0,rfl,by rw[TF];exact i k f⟩⟩;cases j;exact⟨rfl,trivial,cs,e,F,h⟩
def te{a b E W}:aD (λ_=>True) b E W (.slice none 0 0) ([]:List a):=⟨none,0,rfl,Tw _,by omega,.inl rfl,λk c=>by(cases c)⟩
def K9{W:World}{N}(h:∀k,k<9->W.heap[N+k]? =(CW N)[k]?):bp (λ_=>True) W (NY N) exC:=by have d:W.heap[N+1]? =_:=h 1 (by decide);have e:W.heap[N+2]? =_:=h 2 (by decide);have g:W.heap[N+3]? =_:=h 3 (by decide);have i:W.heap[N+4]? =_:=h 4 (by decide);have j:W.heap[N+5]? =_:=h 5 (by decide);have c:W.heap[N+6]? =_:=h 6 (by decide);have b:W.heap[N+7]? =_:=h 7 (by decide);have f:W.heap[N+8]? =_:=h 8 (by decide);refine⟨_,_,_,_,_,_,_,rfl,⟨mo d rfl (by decide) ?_,mo g rfl (by decide) ?_,mo j rfl (by decide) ?_⟩,mo c rfl (by decide) ?_,te,mo b rfl (by decide) ?_,mo f rfl (by decide) ?_⟩;intro k a;have a:k<5:=a;(match k,a with|0,_=>exact⟨cell_of_heap d _ _ rfl,cell_of_heap d _ _ rfl⟩|1,_=>exact⟨cell_of_heap d _ _ rfl,cell_of_heap d _ _ rfl⟩|2,_=>exact⟨cell_of_heap d _ _ rfl,cell_of_heap d _ _ rfl⟩|3,_=>exact⟨cell_of_heap d _ _ rfl,cell_of_heap d _ _ rfl⟩|4,_=>exact⟨cell_of_heap d _ _ rfl,cell_of_heap d _ _ rfl⟩);intro k a;have a:k<1:=a;(match k,a with|0,_=>refine⟨cell_of_heap g _ _ rfl,_,cell_of_heap g _ _ rfl,mo e rfl (by decide) ?_⟩;intro k a;have a:k<2:=a;match k,a with|0,_=>exact⟨cell_of_heap e _ _ rfl,cell_of_heap e _ _ rfl⟩|1,_=>exact⟨cell_of_heap e _ _ rfl,cell_of_heap e _ _ rfl⟩);intro k a;have a:k<1:=a;(match k,a with|0,_=>refine⟨_,cell_of_heap j _ _ rfl,mo i rfl (by decide) ?_⟩;intro k a;have a:k<2:=a;match k,a with|0,_=>exact cell_of_heap i _ _ rfl|1,_=>exact cell_of_heap i _ _ rfl);intro k a;have a:k<3:=a;(match k,a with|0,_=>exact⟨cell_of_heap c _ _ rfl,cell_of_heap c _ _ rfl,cell_of_heap c _ _ rfl,cell_of_heap c _ _ rfl⟩|1,_=>exact⟨cell_of_heap c _ _ rfl,cell_of_heap c _ _ rfl,cell_of_heap c _ _ rfl,cell_of_heap c _ _ rfl⟩|2,_=>exact⟨cell_of_heap c _ _ rfl,cell_of_heap c _ _ rfl,cell_of_heap c _ _ rfl,cell_of_heap c _ _ rfl⟩);intro k a;have a:k<4:=a;(match k,a with|0,_=>exact⟨cell_of_heap b _ _ rfl,cell_of_heap b _ _ rfl,⟨_,cell_of_heap b _ _ rfl,te⟩,cell_of_heap b _ _ rfl,cell_of_heap b _ _ rfl⟩|1,_=>exact⟨cell_of_heap b _ _ rfl,cell_of_heap b _ _ rfl,⟨_,cell_of_heap b _ _ rfl,te⟩,cell_of_heap b _ _ rfl,cell_of_heap b _ _ rfl⟩|2,_=>exact⟨cell_of_heap b _ _ rfl,cell_of_heap b _ _ rfl,⟨_,cell_of_heap b _ _ rfl,te⟩,cell_of_heap b _ _ rfl,cell_of_heap b _ _ rfl⟩|3,_=>exact⟨cell_of_heap b _ _ rfl,cell_of_heap b _ _ rfl,⟨_,cell_of_heap b _ _ rfl,te⟩,cell_of_heap b _ _ rfl,cell_of_heap b _ _ rfl⟩);intro k a;have a:k<4:=a;match k,a with|0,_=>exact cell_of_heap f _ _ rfl|1,_=>exact cell_of_heap f _ _ rfl|2,_=>exact cell_of_heap f _ _ rfl|3,_=>exact cell_of_heap f _ _ rfl
def NZ{W:World}{N}(h:∀k,k<9->W.heap[N+k]? =(CW N)[k]?):iv (λ_=>True) W (NY N):=by (have b:∀k,0<k->k<9->∀q l c,CV (λ_=>True) W q (.slice (some ⟨N+k,0,none⟩) l c):=λk g e q l c=>.slice _ _ λa d=>by cases d;refine⟨rfl,trivial,?_⟩;rw[h k e];match k,g,e with|1,_,_|2,_,_|3,_,_|4,_,_|5,_,_|6,_,_|7,_,_|8,_,_=>exact⟨_,_,_,rfl⟩);intro v f;simp only[NY,Uy,TZ,Ue,Uf]at f;obtain rfl|rfl|rfl|rfl|rfl|rfl|rfl|rfl|rfl|rfl|rfl:=f;exact b 1 (by decide) (by decide) _ _ _;exact b 3 (by decide) (by decide) _ _ _;exact b 5 (by decide) (by decide) _ _ _;exact b 6 (by decide) (by decide) _ _ _;exact .string _;exact .string _;(exact .slice _ _ λa d=>by cases d);exact .int _ _;exact .bool _;exact b 7 (by decide) (by decide) _ _ _;exact b 8 (by decide) (by decide) _ _ _
def La(w:World):Calls (Qs fs) 50 #[] w λe w'=>∃sc,e=.returned (.agg sc)/\bp (λ_=>True) w' sc exC/\iv (λ_=>True) w' sc/\Below w.heap.size w w':=by go_enter (n50 L),Tryz.ntmps50;go_wp2;have b:=nI (CW w.heap.size) w w.heap.size (Tw _);have a:=λk (c:k<9)=>yx (CW w.heap.size) w k c;exact bodyPost_ret (v:=.agg (NY w.heap.size)) (by simp[results,Tryz.results50,go_sem, *];rfl) rfl ⟨NY w.heap.size,rfl,K9 a,NZ a,b⟩
end Go.Proofs
namespace Go.Proofs
open Go.Tm Go.RowKit
section
variable {G:Nat} {S:Kn}
def nE{w:World}{b o v}(h:w.cell? ⟨b,o,none⟩=some v):∃c e F,w.heap[b]? =some (.cells c e F)/\c[o]? =some v:=by unfold World.cell? at h;simp only[]at h;cases a:w.heap[b]? with|none=>rw[a]at h;cases h|some x=>rw[a]at h;cases x with|cells c e F=>exact⟨c,e,F,rfl,h⟩|_=>cases h
def jq{w:World}{b o c e F v}(h:w.heap[b]? =some (.cells c e F))(a:c[o]? =some v):w.cell? ⟨b,o,none⟩=some v:=by unfold World.cell?;simp only[h];exact a
def CV.self{K B:Nat->Prop}{w:World}(d:∀b,K b->(∃c e F,w.heap[b]? =some (.cells c e F))->B b){v}(h:CV K w true v):az (idR G B) v v:=by cases h with|bool=>exact .bool _|int=>exact .int _ _|string=>exact .string _| @slice _ f l c g=>cases f with|none=>exact .iM _ _|some a=>obtain⟨b,o,p⟩:=a;obtain⟨k,i,j⟩:=g _ rfl;exact .slice _ _ (.mk ⟨rfl,d _ i j⟩)
def jI{B fz w}{b:Nat}{c e F}(h:w.heap[b]? =some (.cells c e F)):∃a,(db (idR G B) fz w).heap[b]? =some (.cells (c.map (mask (idR G B))) e a):=by rw[fX,h];exact⟨_,rfl⟩
def Carry.mask{K B fz:Nat->Prop}{w:World}(i:∀b,K b->(∃c e F,w.heap[b]? =some (.cells c e F))->B b):Carry (λa b=>a=b) K K w (db (idR G B) fz w) where
 fn _ _ _ h1 h2:=h1.symm.trans h2
 cell b b' o v hs hc hv:=by
  subst hs;obtain⟨c,e,F,h1,h2⟩:=nE hc;obtain⟨j,f⟩:=jI (G:=G) (B:=B) (fz:=fz) h1;have d:∀v',Go.Tm.mask (idR G B) v=v'->(db (idR G B) fz w).cell? ⟨b,o,none⟩=some v':=λv' e=>jq f (by rw[T3,h2,Ud,e]);cases hv with
  |bool=>exact⟨_,d _ (ja (.bool _)),.bool _⟩
  |int=>exact⟨_,d _ (ja (.int _ _)),.int _ _⟩
  |string=>exact⟨_,d _ (ja (.string _)),.string _⟩
  |empty g=>obtain⟨k,e⟩:=Hd (idR G B) g;exact⟨_,d _ e,.empty _ _⟩
  | @slice _ g l c h=>
   refine⟨_,d _ (ja (CV.self i (.slice _ _ h))),?_⟩;cases g with
   |none=>exact .iM _ _
   |some a=>obtain⟨b,o,p⟩:=a;obtain⟨h1,h2,n,e,F,f⟩:=h _ rfl;simp only[]at h1;subst h1;obtain⟨j,m⟩:=jI (G:=G) (B:=B) (fz:=fz) f;exact .slice _ _ rfl h2 ⟨_,_,_,m⟩
def TV.mask{K B fz w q v}(f:CV K w q v):TV (λa b=>a=b) K (db (idR G B) fz w) q v v:=by cases f with|bool=>exact .bool _|int=>exact .int _ _|string=>exact .string _|empty=>exact .empty _ _| @slice _ g l c h=>cases g with|none=>exact .iM _ _|some a=>obtain⟨b,o,p⟩:=a;obtain⟨d,i,m,e,F,j⟩:=h _ rfl;simp only[]at d;subst d;obtain⟨n,k⟩:=jI (G:=G) (B:=B) (fz:=fz) j;exact .slice _ _ rfl i ⟨_,_,_,k⟩
def bp.mask{K B fz:Nat->Prop}{w:World}(d:∀b,K b->(∃c e F,w.heap[b]? =some (.cells c e F))->B b){sc c}(h:bp K w sc c):bp K (db (idR G B) fz w) sc c:=h.carry (Carry.mask d) rfl λi v V f a g=>by rw[f]at a;cases a;exact TV.mask g
def iv.mask{K B fz:Nat->Prop}{w:World}{sc}(h:iv K w sc):iv K (db (idR G B) fz w) sc:=λv a=>(TV.mask (h v a)).cv
def iv.stays{K w w' sc}(a:ae w w')(h:iv K w sc):iv K w' sc:=λv b=>(TV.self a (h v b)).cv
def iv.self{K B:Nat->Prop}{w:World}(a:∀b,K b->(∃c e F,w.heap[b]? =some (.cells c e F))->B b){sc}(h:iv K w sc):az (idR G B) (.agg sc) (.agg sc):=.FG (aY.refl λv d=>(h v d).self a)
def named(π:Ren G)(R:Nat):Prop:=∃r,π r R
def TV.Hr{π:Ren G}{K w W Pr}(i:bq S Pr π w W){q v V}(j:CV K w q v)(h:az π v V):TV π.rel (named π) W q v V:=by cases j with|bool=>cases h;exact .bool _|int=>cases h;exact .int _ _|string=>cases h;exact .string _|empty k=>cases h<;>exact .empty _ _| @slice _ k l c d=>cases h with|iM=>exact .iM _ _|qJ A=>exact absurd (d _ rfl).1 (by simp)| @slice a A _ _ m=>cases m with| @mk r s o p b=>obtain⟨f,x,y,e,F,n⟩:=d _ rfl;simp only[]at f;subst f;obtain⟨z,B,g,t,u⟩:=i.obj r s b;rw[n]at g;cases g;cases u;exact .slice _ _ b ⟨_,b⟩ ⟨_,_,_,t⟩
def Carry.rel{π:Ren G}{K:Nat->Prop}{w W:World}{Pr:Nat->Prop}(g:bq S Pr π w W):Carry π.rel K (named π) w W where
 fn:=π.fn
 cell b b' o v hs hc hv:=by
  obtain⟨c,e,F,i,j⟩:=nE hc;obtain⟨m,n,h,k,l⟩:=g.obj b b' hs;rw[i]at h;cases h;cases l with
  | @cells _ C _ _ _ d _=>
   have a:=d.get o;rw[j]at a;cases f:C[o]? with
   |none=>rw[f]at a;cases a
   |some V=>
    rw[f]at a;cases a with
    |some r=>exact⟨V,jq k f,TV.Hr g hv r⟩
def iv.rel{π:Ren G}{K w W Pr}(d:bq S Pr π w W){sc SC}(e:az π (.agg sc) (.agg SC))(h:iv K w sc):iv (named π) W SC:=by cases e with| @agg _ _ f g=>intro V j;obtain⟨i,b⟩:=VX.1 j;have a:i<sc.size:=f▸(TC.1 b).1;have c:=TW a;exact(TV.Hr d (h _ (Uq c)) (g i _ V c b)).cv
def pa(w:World)(sc:Array Value)(c:Case):Prop:=bp (λ_=>True) w sc c/\iv (λ_=>True) w sc
def pa.stays{w w' sc c}(a:ae w w')(h:pa w sc c):pa w' sc c:=⟨h.1.stays a,h.2.stays a⟩
def bp.rel{π:Ren G}{K w W Pr}(a:bq S Pr π w W){sc A c}(d:az π (.agg sc) A)(h:bp K w sc c):∃b,A=.agg b/\bp (named π) W b c:=by cases d with| @agg _ C e f=>exact⟨C,rfl,h.carry (Carry.rel a) e.symm λi v V g j k=>TV.Hr a k (f i v V g j)⟩
end
structure iI(w:World):Prop where
 kinds:gG w
 len:ie w
 cells:∀g,g<5->∃c e F,w.heap[g]? =some (.cells c e F)
 size:Tryz.prog.globals.size<=w.heap.size
def iI.stays{w w'}(h:iI w)(a:ae w w')(b:w.heap.size<=w'.heap.size):iI w':=⟨h.kinds.stays a,h.len.stays a,λg d=>by obtain⟨c,e,F,f⟩:=h.cells g d;exact⟨c,e,F,a _ _ _ _ f⟩,Tx h.size b⟩
def AH(k):eP k≠74:=by (unfold eP;repeat' split);all_goals decide
section
variable {G:Nat} {S:Kn}
def AI(π:Ren G)(f:Nat)(a:f≠74):az π (.func (.func f) #[] #[]) (.func (.func f) #[] #[]):=.func (.func f a) rfl (λi x X h=>by simp at h) rfl (λi x X h=>by simp at h)
def pK{B fz w b o v}(h:w.cell? ⟨b,o,none⟩=some v)(a:az (idR G B) v v):(db (idR G B) fz w).cell? ⟨b,o,none⟩=some v:=by obtain⟨c,e,F,d,f⟩:=nE h;obtain⟨i,g⟩:=jI (G:=G) (B:=B) (fz:=fz) d;exact jq g (by rw[T3,f,Ud,ja a])
def iI.mask{B fz:Nat->Prop}{w:World}(h:iI w):iI (db (idR G B) fz w) where
 kinds k hk:=pK (h.kinds k hk) (AI _ _ (AH k))
 len:=h.len.elim λm a=>⟨m,pK a (.int _ _)⟩
 cells g hg:=by obtain⟨c,e,F,b⟩:=h.cells g hg;obtain⟨f,d⟩:=jI (G:=G) (B:=B) (fz:=fz) b;exact⟨_,_,_,d⟩
 size:=by
  have:(db (idR G B) fz w).heap.size=w.heap.size:=by unfold db;simp
  rw[this];exact h.size
def E8{π:Ren G}{Pr w W}(j:bq S Pr π w W){b d o v}(k:π b d)(h:w.cell? ⟨b,o,none⟩=some v):∃V,W.cell? ⟨d,o,none⟩=some V/\az π v V:=by obtain⟨c,e,F,l,m⟩:=nE h;obtain⟨q,s,i,n,p⟩:=j.obj b d k;rw[l]at i;cases i;cases p with| @cells _ C _ _ _ f _=>have a:=f.get o;rw[m]at a;cases g:C[o]? with|none=>rw[g]at a;cases a|some V=>rw[g]at a;cases a with|some r=>exact⟨V,jq n g,r⟩
def Nw{π:Ren G}{f:Nat}{V}(h:az π (.func (.func f) #[] #[]) V):V=.func (.func f) #[] #[]:=by cases h with| @func fn i a A c C b d j e k=>cases b with|func=>have e1:A=#[]:=Xk d.symm;have g:C=#[]:=Xk e.symm;rw[e1,g]
def iI.rel{π:Ren Tryz.prog.globals.size}{Pr:Nat->Prop}{w W:World}(d:bq S Pr π w W)(f:∀g,g<5->π g g)(h:iI w):iI W where
 kinds k hk:=by obtain⟨V,a,b⟩:=E8 d (f 0 (by decide)) (h.kinds k hk);rw[Nw b]at a;exact a
 len:=by obtain⟨m,i⟩:=h.len;obtain⟨V,a,b⟩:=E8 d (f 2 (by decide)) i;cases b;exact⟨m,a⟩
 cells g hlt:=by obtain⟨c,e,F,j⟩:=h.cells g hlt;obtain⟨o,O,a,b,l⟩:=d.obj g g (f g hlt);rw[j]at a;cases a;cases l;exact⟨_,_,_,b⟩
 size:=d.gW
end
def Hz(c:Case):Prop:=c.new.aQ.Nodup/\∀m∈c.marks,m.aQ.Nodup
def dJ(w:World)(v:Value)(L:List Value):Prop:=∃sc c,v=.agg sc/\(bp (λ_=>True) w sc c/\iv (λ_=>True) w sc)/\OkC c/\Hz c/\iI w/\L=il (bn c)
def rv:pH dJ:=λw w' v L ⟨sc,c,h,f,i,j,b,k⟩ a=>by refine⟨sc,c,h,⟨f.1.stays a,f.2.stays a⟩,i,j,?_,k⟩;refine⟨b.kinds.stays a,b.len.stays a,λg l=>?_,?_⟩;obtain⟨c,e,F,d⟩:=b.cells g l;exact⟨c,e,F,a _ _ _ _ d⟩;rw[kr];obtain⟨c,e,F,d⟩:=b.cells 4 (by decide);exact(TC.1 (a _ _ _ _ d)).1
theorem qI{c}(b:OkC c)(m)(d:OkM m)(kin):∀(a) (i) (k) (v),eM c m kin i a=some (k,v)->k<i+a.length/\0<=v/\v<=100000
 | [],i,k,v,h=>by cases h
 |r::a,i,k,v,h=>by
  unfold eM at h;split at h
  .cases h
   have:=lR c.table r.kind c.new m b.new.fig d.fig;exact⟨by simp,this.1,this.2⟩
  .have:=qI b m d kin a (i+1) k v h
   simp only[TA];exact⟨by omega,this.2⟩
def NT{c}(a:OkC c){i x}(h:iw c i=some x):gI c x:=by unfold iw at h;split at h;rename_i m k e g;(have f:i<c.marks.length:=(UO.1 e).1;have b:=a.marks m (UC e);cases d:eM c m k 0 c.rules with|none=>rw[d]at h;cases h|some p=>obtain⟨q,v⟩:=p;rw[d]at h;cases h;obtain⟨j,l,n⟩:=qI a m b k c.rules 0 q v d;have:=a.FY;exact⟨⟨i,f,rfl⟩,by show(-1000:Int)<=(q:Int)/\(q:Int)<=1000;omega,by show(-1000000:Int)<=v/\v<=1000000;omega⟩);cases h
def Ft{c}(a:OkC c):∀x∈bn c,gI c x:=λx b=>by have:=(kj c).mem_iff.1 b;obtain⟨i,_,d⟩:=List.mem_filterMap.1 this;exact NT a d
section
variable {K:Nat->Prop} {W W':World}
def CO{b}(a:W'.heap[b]? =W.heap[b]?){o v}(h:W.cell? ⟨b,o,none⟩=some v):W'.cell? ⟨b,o,none⟩=some v:=(dk a).trans h
def TV.on(g:∀b,K b->W'.heap[b]? =W.heap[b]?){q v}(h:CV K W q v):TV (λa b=>a=b/\K a) K W' q v v:=by cases h with|bool=>exact .bool _|int=>exact .int _ _|string=>exact .string _|empty=>exact .empty _ _| @slice _ i l c j=>cases i with|none=>exact .iM _ _|some a=>obtain⟨b,o,p⟩:=a;obtain⟨f,d,m,e,F,k⟩:=j _ rfl;simp only[]at f;subst f;exact .slice _ _ ⟨rfl,d⟩ d ⟨_,_,_,(g b d).trans k⟩
def bp.on(e:∀b,K b->W'.heap[b]? =W.heap[b]?){sc c}(h:bp K W sc c):bp K W' sc c:=bp.carry (σ:=λa b=>a=b/\K a) ⟨λ_ _ _ f d=>f.1.symm.trans d.1,λb m o v j k g=>by obtain⟨rfl,l⟩:=j;exact⟨v,CO (e b l) k,TV.on e g⟩⟩ rfl (λi v V f d g=>by rw[f]at d;cases d;exact TV.on e g) h
end
def yu{fs}(L:bM fs){c}(d:OkC c)(b:Hz c):sT fs c:=λr e m f=>by (obtain⟨h,i,_⟩:=d.rules r e;obtain⟨k,g⟩:=ex (r.kind.toNat);rw[<-g];have a:k<6:=by omega);match k,a with|0,_=>exact(Mp L).at _ _|1,_=>exact(Qp L).at _ _|2,_=>exact(Qq L).at _ _|3,_=>exact(Mq L).at _ _|4,_=>exact(QR L).at _ _|5,_=>exact NS L b.1 (b.2 m f)
def masked{π:Ren Tryz.prog.globals.size}{W W' w B fz sc c}(i:∀g,g<5->π g g)(d:iI W)(n:bp (named π) W sc c) (a:∀b,named π b->W'.heap[b]? =W.heap[b]?) (o:∀b,named π b->(∃c e F,W.heap[b]? =some (.cells c e F))->B b) (j:w.heap=(db (idR Tryz.prog.globals.size B) fz W').heap):bp (named π) w sc c/\ie w/\gG w:=by (have e:∀(p:Addr),w.cell? p=(db (idR Tryz.prog.globals.size B) fz W').cell? p:=λp=>by unfold World.cell?;rw[j]);refine⟨?_,?_,?_⟩;have q:=n.on a;(have r:bp (named π) (db (idR Tryz.prog.globals.size B) fz W') sc c:=q.mask λb l s=>o b l (by rw[<-a b l];exact s);exact r.stays λb c e f h=>by rw[j];exact h);obtain⟨m,t⟩:=d.len;exact⟨m,(e _).trans (pK (CO (a 2 ⟨2,i 2 (by decide)⟩) t) (.int _ _))⟩;intro k u;exact(e _).trans (pK (CO (a 0 ⟨0,i 0 (by decide)⟩) (d.kinds k u)) (AI _ _ (AH k)))
def KT{π:Ren Tryz.prog.globals.size}{xs:List Value}(h:∀x∈xs,∃k n,x=.int k n):xs.toArray.map (mask π)=xs.toArray:=by refine VF (by simp) λi b a=>?_;simp only[Array.getElem_map];obtain⟨k,n,e⟩:=h (xs.toArray[i]) (Uy.1 (VG a));rw[e];exact ja (.int k n)
def Ir(k):∀x∈cP kp k,∃kd n,x=.int kd n:=λx b=>by obtain⟨l,c,a⟩:=WY.1 b;have:=W4 c;subst this;simp[kp]at a;subst a;exact⟨_,_,rfl⟩
def mS:bM (fY nV):=pJ nV
def yv:uf gQ dJ:=by (rintro Pr π w W v A L Y F ⟨ab,c,rfl,⟨hc,G⟩,t,h3,H,rfl⟩ I;obtain⟨sc,rfl,J⟩:=hc.rel F Y;have Z:iv (named π) W sc:=G.rel F Y;have p:∀g,g<5->π g g:=λg M=>I g (TD M);have a:iI W:=H.rel F p;obtain⟨N,O,h9,P⟩:∃N O,sc[9]? =some (.slice N c.marks.length O)/\sc.size=11:=by obtain⟨v0,v1,v2,vr,vf,vm,vk,rfl,_,_,_,hm,_⟩:=J;obtain⟨ao,cm,rfl,_⟩:=hm;exact⟨ao,cm,rfl,rfl⟩);have Q:=t.tD;refine⟨sc,c.marks.length,vM c,λ_=>il (bn c),named π,N,O,rfl,h9,by rw[P];kernel_rfl,by omega,λb m=>m,?_,?_,λ_ _=>rfl,ug _⟩;refine Kk (S:=mj) (fs:=fY nV) AF (λ_=>rfl) um (by kernel_rfl) (λg d=>⟨⟨g,I g d⟩,a.cells g (Ua d)⟩) a.size (λB r=>Z.self r) λi hi w' W' B fz f r k=>?_;(obtain⟨m1,m2,m3⟩:=masked p a J f r k;exact(SI mS i w' m1 t hi (yu mS t h3) m2 m3).mono λe w2 ⟨u,s⟩=>⟨u,λb m=>s.block b m⟩);refine Hj (S:=mj) (fs:=fY nV) AF (λ_=>rfl) um (by kernel_rfl) (λg d=>⟨⟨g,I g d⟩,a.cells g (Ua d)⟩) a.size (λB r=>Z.self r) (λhs R=>?_) λhs R w' W' B fz v6 N0 f r o y k=>?_;obtain⟨l,rfl,z⟩:=AA R;exact⟨by unfold il;rw[Um,Um,z.length_eq],ug _⟩;obtain⟨m1,m2,m3⟩:=masked p a J f r k;(obtain⟨l,rfl,z⟩:=AA R;have C:(il l).length=l.length:=by unfold il;rw[Um]);rw[C,im]at o;rw[C];obtain⟨rfl,h0⟩|⟨g,cap,rfl,D,T,ad,af,ag⟩:=o.2;(refine(Kr mS w').mono λe w2 ⟨u,s⟩=>⟨u,λg cap e=>by(cases e),λb m _=>by rw[s]⟩);obtain⟨ah,U,V⟩:=y g rfl;(obtain⟨rest,h⟩:=ex (cP kp (cap-l.length));have j:w'.heap[g]? =some (.cells (bw l++rest).toArray 66 (0,0)):=by rw[k,fX,T,Ud];show some (Obj.cells ((bw l++cP kp (cap-l.length)).toArray.map (mask _)) 66 _)=_;rw[KT λx hx=>?_,h];congr 2;exact Tu U;obtain hx|hx:=UU.1 hx;obtain⟨n,hn⟩:=tI l x hx;exact⟨_,n,hn⟩;exact Ir _ x hx);(have X:g<w'.heap.size:=(TC.1 j).1;have ak:l.length<=8:=by rw[z.length_eq,(kj c).length_eq];exact Tx (Xl _ _) (by rw[WU];exact Q));(have q:=Nk mS (cap:=cap) (d0:=l.toArray) (rest:=rest) w' m1.days t (λb m D=>V (by rw[<-D];exact m)) (λx hx=>Ft t x (z.mem_iff.1 (by simpa using hx))) (by simp;omega) X ⟨Tw _,λ_ _ _=>rfl,by simpa using j⟩;have E:=E3 z;have hz:l.toArray.size=l.length:=by simp);(rw[hz]at q E;refine q.mono λe w2 ⟨u,s⟩=>⟨u,λg' aa e'=>?_,λb m ho=>s.other b m λe=>ho (by rw[e];rfl)⟩);cases e';rw[im,s.row,E,h]
def fZ:bM (fY g74):=pJ g74
def AP{w w' v c}(h:dZ w.heap.size w' v (bn c))(k:Below w.heap.size w w'):R77 (il (bn c)) w v w':=by (refine⟨k.size,λb i=>k.block b i,?_⟩;have a:(il (bn c)).length=(bn c).length:=by unfold il;rw[Um]);rw[a,im];obtain⟨⟨r,m⟩,n⟩:=h;by_cases f:bn c=[];exact .inl ⟨by rw[f];rfl,n f⟩;refine .inr ⟨λe=>f (by unfold il at e;simpa using e),?_⟩;have l:0<(bn c).length:=UF.2 f;obtain⟨_,s⟩|⟨g,cap,o,e,t,p,x,y,z,q⟩:=m;omega;refine⟨⟨g,0,none⟩,cap,e,λj u d=>?_⟩;rw[show(Addr.add ⟨g,0,none⟩ j)=⟨g,0+j,none⟩ by simp[Addr.add];omega];refine cell_of_heap p _ _ ?_;rw[TF,<-Ut];rw[<-q]at d;rw[W6]at d;split at d;exact d;cases d
def K6(P a f2):ai (ai P a) f2=ai P f2:=rfl
def pn{c}(a:OkC c):(bn c).length<=8:=by rw[(kj c).length_eq];exact Tx (Xl _ _) (by rw[WU];exact a.tD)
def Fu{Post}:nD gQ (fY g74) Post dJ:=by have j:(fY g74)[77]? =some Tryz.f77:=(uh _ _).symm.trans (n77 fZ);refine E1 (i1:=mj) (fs1:=fY nV) (sU g74) j (by kernel_rfl) (by kernel_rfl) KA Hy (λ_=>rfl) um (by kernel_rfl) rv ?_ ?_ ?_ ?_ ?_ ?_;rintro w v L ⟨sc,c,rfl,d,f,i,a,rfl⟩;exact a.size;rintro w v L ⟨sc,c,rfl,d,f,i,a,rfl⟩;refine⟨?_,ug _⟩;have:=pn f;unfold il;rw[Um];omega;rintro w v L ⟨sc,c,rfl,d,f,i,a,rfl⟩ g m;exact a.cells g (Ua m);rintro w v L ⟨sc,c,rfl,d,f,i,a,rfl⟩;exact⟨⟨sc,c,rfl,⟨d.1.mask λb _ h=>h,d.2.mask⟩,f,i,a.mask,rfl⟩,d.2.self λb _ h=>h⟩;rintro w v L ⟨sc,c,rfl,d,f,i,a,rfl⟩;(exact(oy fZ w d.1 f).mono λe w' ⟨v,k,l,i⟩=>⟨v,k,AP l i⟩);rintro w v L ⟨sc,c,rfl,d,f,i,a,rfl⟩;rw[K6];exact(oy mS w d.1 f).mono λe w' ⟨v,k,l,i⟩=>⟨v,k⟩
def FD{c}(h:bG c=0):dH c.table=0/\aI 0 6 ej c.rules=0/\bT c.new=0/\aI 0 8 (fu c.new.name) c.marks=0/\aI c.marks.length c.marks.length oc c.kin=0:=by rw[FC]at h;split at h;rename_i a;exact absurd h a;rename_i b;split at h;rename_i a;exact absurd h a;rename_i d;split at h;rename_i a;exact absurd h a;rename_i e;split at h;rename_i a;exact absurd h a;rename_i f;exact⟨by simpa using b,by simpa using d,by simpa using e,by simpa using f,h⟩
def fQ{n a hi:Int}(h:au n a hi=true):a<=n/\n<=hi:=by unfold au at h;simpa using h
def Iw{b seen m}(h:fu b seen m=0):bT m=0:=by unfold fu at h;simp only[]at h;split at h;rename_i a;exact absurd h a;rename_i a;simpa using a
def mr{c}(h:bG c=0):OkC c/\Hz c:=by (obtain⟨p,i,j,l,o⟩:=FD h;have t:=(eB i).1;have u:=(eB l).1;have v:=(eB o).1;have g:∀m∈c.marks,bT m=0:=λm g=>by obtain⟨_,h⟩:=lp l g;exact Iw h);refine⟨⟨QP p,NI j,λm k=>NI (g m k),by omega,by omega,by omega,λr q=>?_,λn s=>?_⟩,Fh j,λm k=>Fh (g m k)⟩;obtain⟨_,h⟩:=lp i q;unfold ej at h;split at h;cases h;rename_i f;simp only[US,not_or,Bool.not_eq_true,Bool.not_eq_false']at f;obtain⟨⟨⟨a,b⟩,d⟩,e⟩:=f;have a:=fQ a;have b:=fQ b;have d:=fQ d;have e:=fQ e;exact⟨a.1,a.2,b.1,b.2,d.1,d.2,e.1,e.2⟩;obtain⟨_,h⟩:=lp o s;unfold oc at h;split at h;cases h;rename_i f;simp only[Bool.not_eq_true,Bool.not_eq_false']at f;exact fQ f
end Go.Proofs
namespace Go.Proofs
open Go.Tm Go.RowKit Go.ChangeShapes Go.WideShapes Go.ChangeAt Go.WideElems Go.Conc
section
variable {H:Type} {enc:TypeId×Value->H}
def pd{a C os f fn s g b fresh d h}{X:World->Array Value->Prop} (E:∀(w w') (args),w.heap=w'.heap->X w args->X w' args) (own:ownKnob C.prog.godebug=none) (k:os.Started) (x:C.prog.funcs[f]? =some fn) (l:∃(w:World) (tape:Tape) (i:Input),w.os=os/\(w.forCall tape i).Shaped C.prog/\i.vars=[]/\Input.okWide C.prog (w.forCall tape i) .any w.heap.size f i/\((s.pre enc C.prog fn g b (w.forCall tape i).memory i.args/\X (w.forCall tape i).memory i.args)/\sizedMet enc C.prog fn (OpenSpec.ofChange s) b (w.forCall tape i).memory i.args)/\a.holds C.prog (lone (Frame.enter C.prog f i.args .normal) [] (w.forCall tape i))) (m:∀(W) (base) (args) (ds r) (c),(∀(j:Nat) t v,fn.params[j]? =some t->args[j]? =some v->Value.okWide C.prog W .any base t v)->DataW.Whole enc C.prog fn.params.toList s.vars b W args.toList ds r c->(DataW.weightsEach C.prog (fn.params.toList++s.plain.varTypes C.prog) (ds++r)).all (· <=reachBytes)=true->X W args->W.ShapedOpen C.prog->∃M last o w' u,runNT C.prog (M+1) (solo (G (Frame.enter C.prog f args .normal) []) W) #[]=(.ended o w',u)/\runN C.prog M (solo (G (Frame.enter C.prog f args .normal) []) W)=.next last/\step C.prog last=.ended o w'/\Conc.Good C.prog (λv F=>s.post enc C.prog fn b fresh d h W args v F) last o w' u):ReturnsInLeavingWide a C os f .any (λw args=>(s.pre enc C.prog fn g b w args/\X w args)/\sizedMet enc C.prog fn (OpenSpec.ofChange s) b w args) (s.post enc C.prog fn b fresh d h):=by refine returnsInLeavingWide_of_good own k l ?_;intro w tape i _ y _ z n _;obtain⟨_,_,_,A,p,_,_,_,_,q⟩:=z;have e:A=fn:=TY (p.symm.trans x);subst e;obtain⟨⟨⟨ds,r,c,D,Q⟩,I⟩,J⟩:=n;have B:=DataW.Whole.of_heap (w':=w.forCall tape i) (by rfl) D;obtain⟨M,last,o,w',u,K,L,N,O⟩:=m (w.forCall tape i) w.heap.size i.args ds r c q B (J.weights D) (E _ _ _ (by rfl) I) y;exact⟨M,last,o,w',u,K,L,N,O.mono λv P=>ChangeSpec.post_blind P⟩
end
def Nz:Tryz.prog.globalNamed "touchmark/like.kinds" =some 0:=by kernel_rfl
def QM:(Tryz.prog.globals[0]?).map (·.type)=some 117:=by kernel_rfl
def E9:Tryz.prog.cellsOf 116=2:=by kernel_rfl
def NA:Tryz.prog.cellsOf 114=1:=by kernel_rfl
def kindName(k:UInt8):List UInt8:=[116,111,117,99,104,109,97,114,107,47,108,105,107,101,46,107,105,110,100,115,36,k]
def yi:DataW Unit:=.agg [.agg [.lit (.string [108,101,116,116,101,114,115]),.iface "func" (.lit (.string (kindName 49)))],.agg [.lit (.string [115,111,117,110,100,115]),.iface "func" (.lit (.string (kindName 50)))], .agg [.lit (.string [109,101,97,110,115]),.iface "func" (.lit (.string (kindName 51)))],.agg [.lit (.string [116,117,114,110,101,100]),.iface "func" (.lit (.string (kindName 52)))], .agg [.lit (.string [99,117,116]),.iface "func" (.lit (.string (kindName 53)))],.agg [.lit (.string [102,105,103,117,114,101,115]),.iface "func" (.lit (.string (kindName 54)))]]
def bR(k:Nat):List UInt8:=kindName (49+k.toUInt8)
def NB(k)(a:k<6):((List.range Tryz.prog.funcs.size).filter λf=>(Tryz.prog.funcs[f]?).any (·.name.toUTF8.data.toList==bR k))=[eP k]:=by
 match k,a with
 |0,_=>(have h:((List.range Tryz.prog.funcs.size).filter λf=>(Tryz.prog.funcs[f]?).any (·.name.toUTF8.data.toList==bR 0))=[eP 0]:=by kernel_rfl);exact h
 |1,_=>(have h:((List.range Tryz.prog.funcs.size).filter λf=>(Tryz.prog.funcs[f]?).any (·.name.toUTF8.data.toList==bR 1))=[eP 1]:=by kernel_rfl);exact h
 |2,_=>(have h:((List.range Tryz.prog.funcs.size).filter λf=>(Tryz.prog.funcs[f]?).any (·.name.toUTF8.data.toList==bR 2))=[eP 2]:=by kernel_rfl);exact h
 |3,_=>(have h:((List.range Tryz.prog.funcs.size).filter λf=>(Tryz.prog.funcs[f]?).any (·.name.toUTF8.data.toList==bR 3))=[eP 3]:=by kernel_rfl);exact h
 |4,_=>(have h:((List.range Tryz.prog.funcs.size).filter λf=>(Tryz.prog.funcs[f]?).any (·.name.toUTF8.data.toList==bR 4))=[eP 4]:=by kernel_rfl);exact h
 |5,_=>(have h:((List.range Tryz.prog.funcs.size).filter λf=>(Tryz.prog.funcs[f]?).any (·.name.toUTF8.data.toList==bR 5))=[eP 5]:=by kernel_rfl);exact h
def zm{l W}(h:laidMetH Tryz.prog l W)(z:("touchmark/like.kinds",DataW.iface "func table" yi)∈l):gG W:=by
 obtain⟨g,t,cs,fuel,p,A,B,C,D⟩:=h.funcs z;obtain rfl:=TY (Nz.symm.trans A);obtain rfl:=TY (QM.symm.trans B);obtain⟨xs,m,rfl,e,K,L,s⟩:=DataW.trod_array Tryz.underlying117 D;have E:xs.map (·.1)=[.agg [.lit (.string [108,101,116,116,101,114,115]),.held (bR 0)],.agg [.lit (.string [115,111,117,110,100,115]),.held (bR 1)],
  .agg [.lit (.string [109,101,97,110,115]),.held (bR 2)],.agg [.lit (.string [116,117,114,110,101,100]),.held (bR 3)],
  .agg [.lit (.string [99,117,116]),.held (bR 4)],.agg [.lit (.string [102,105,103,117,114,101,115]),.held (bR 5)]]:=by
  have e1:=(VD e).1;have v:yi.funcsOut=_:=e1;have e3:yi.funcsOut=.agg [.agg [.lit (.string [108,101,116,116,101,114,115]),.held (bR 0)],.agg [.lit (.string [115,111,117,110,100,115]),.held (bR 1)],
   .agg [.lit (.string [109,101,97,110,115]),.held (bR 2)],.agg [.lit (.string [116,117,114,110,101,100]),.held (bR 3)],
   .agg [.lit (.string [99,117,116]),.held (bR 4)],.agg [.lit (.string [102,105,103,117,114,101,115]),.held (bR 5)]]:=by
   simp[yi,DataW.funcsOut,DataW.funcsOutAll,kindName,bR]
  rw[e3]at v;exact(DataW.agg.inj v).symm
 intro k u;have c:=s k u;rw[E9]at c;have f:k<xs.length:=by omega
 rw[T2 f]at c;obtain⟨M,w,F,e1,a,_,i⟩:=trod_struct2 Tryz.underlying116 c;have o:∃x,(xs[k]).1=.agg [x,.held (bR k)]:=by (have d:(xs.map (·.1))[k]? =some (xs[k]).1:=by rw[UY,T2 f];rfl);rw[E]at d;match k,u with|0,_=>exact⟨_,(TY d).symm⟩|1,_=>exact⟨_,(TY d).symm⟩|2,_=>exact⟨_,(TY d).symm⟩|3,_=>exact⟨_,(TY d).symm⟩|4,_=>exact⟨_,(TY d).symm⟩|5,_=>exact⟨_,(TY d).symm⟩
 obtain⟨x,o⟩:=o;rw[e1]at o;have G:w.1=.held (bR k):=by have:=DataW.agg.inj o;simp only[Wr,and_true]at this;exact this.2
 rw[E9]at a;obtain⟨q,c1,j⟩:∃q c1,(cs.toList.drop (k*2)).take 2=[q,c1]:=by match(cs.toList.drop (k*2)).take 2,a with| [q,c1],_=>exact⟨q,c1,rfl⟩
 rw[j]at i;have n:DataW.trod (funcToken Tryz.prog) Tryz.prog W 0 (λ_=>true) true F 114 [c1]=some (.held (bR k),w.2):=by rw[<-G];have I:Tryz.prog.cellsOf 114=1:=NA;simpa[I]using i
 have J:c1=.func (.func (eP k)) #[] #[]:=func_of_trod (b:=116) (r:=[111,117,99,104,109,97,114,107,47,108,105,107,101,46,107,105,110,100,115,36,49+k.toUInt8]) Tryz.underlying114 (NB k u) n;rw[World.var?_cell Nz C (k*2+1),<-J,<-Ut];have y:((cs.toList.drop (k*2)).take 2)[1]? =some c1:=by rw[j];rfl
 rw[W6,Tv (by decide),Wc]at y;exact y
def KG(g)(a:g<5):∃zero t,(((begin Tryz.prog (λ_ _=>0) default).world.heap[g]?).bind Obj.row?)=some (zero,t):=by
 have h:(((begin Tryz.prog (λ_ _=>0) default).world.heap[g]?).bind Obj.row?).isSome=true:=by
  match g,a with
  |0,_=>(have h:(((begin Tryz.prog (λ_ _=>0) default).world.heap[0]?).bind Obj.row?).isSome=true:=by kernel_rfl);exact h
  |1,_=>(have h:(((begin Tryz.prog (λ_ _=>0) default).world.heap[1]?).bind Obj.row?).isSome=true:=by kernel_rfl);exact h
  |2,_=>(have h:(((begin Tryz.prog (λ_ _=>0) default).world.heap[2]?).bind Obj.row?).isSome=true:=by kernel_rfl);exact h
  |3,_=>(have h:(((begin Tryz.prog (λ_ _=>0) default).world.heap[3]?).bind Obj.row?).isSome=true:=by kernel_rfl);exact h
  |4,_=>(have h:(((begin Tryz.prog (λ_ _=>0) default).world.heap[4]?).bind Obj.row?).isSome=true:=by kernel_rfl);exact h
 obtain⟨⟨z,t⟩,b⟩:=Xe.1 h;exact⟨z,t,b⟩
def zn{W}(h:W.ShapedOpen Tryz.prog)(f:gG W):iI W:=by (have b:∀g,g<5->∃c e F,W.heap[g]? =some (.cells c e F):=λg d=>by obtain⟨z,t,i⟩:=KG g d;obtain⟨cs,a,_⟩:=h.1 g z t (by rw[kr];exact d) i;exact⟨cs,t,_,a⟩);refine⟨f,cell_of_shapedOpen_int (P:=Tryz.prog) (g:=2) (t:=3) (zero:=#[.int .i64 0]) h (Ua (by kernel_rfl)) (by kernel_rfl) rfl (by kernel_rfl) (by kernel_rfl) Tryz.underlying3,b,?_⟩;rw[kr];obtain⟨c,e,F,a⟩:=b 4 (by decide);exact(TC.1 a).1
end Go.Proofs
namespace Go.Proofs
open Go.Tm Go.RowKit
variable {fs:Array Func} (L:bM fs)
def fD(c:Case)(j:Int):Int:=if bG c≠0 then bG c else if !au j 0 ((c.marks.length:Int)-1)then 6 else 0
def nL(c:Case)(j:Int):List A4:=if fD c j=0 then((c.marks[j.toNat]?.bind λm=>c.kin[j.toNat]?.map λn=>eX c m n).getD [])else[]
def AY{c:Case}{j:Nat}(h:bG c=0)(b:j<c.marks.length)(d:j<c.kin.length):fD c j=0/\nL c j=eX c c.marks[j] c.kin[j]:=by (have a:fD c j=0:=by unfold fD au;rw[Tu (by simpa using h),TD (by omega),TD (by omega)];rfl);refine⟨a,(Tv a).trans ?_⟩;rw[Int.toNat_natCast,T2 b,T2 d];rfl
def Ol{K:Nat->Prop}{sc:Array Value}{c:Case}(j:Int)(w:World)(hc:bp K w sc c)(I:nJ c):Calls (Qs fs) 39 #[.agg sc,.int .i64 j] w λe w'=>∃v,e=.returned (.tuple #[v,.int .i64 (fD c j)])/\w'.ownsRow w.heap.size 86 3 v (nL c j).length (qE (nL c j))/\Below w.heap.size w w':=by
 have e32:=e32 L;have e60:=e60 L;have e85:=e85 L;have aa:=I.2.2.2.1;have x:=λw1 (O:ae w w1)=>ks L w1 (hc.stays O) I;have a:=λ(ok:OkC c) (i k:Nat) (hi:i<c.marks.length) (hk:k<c.rules.length) J (I:ae w J)=>IG L i k J (hc.stays I) ok hi hk (by rw[ok.yI];exact hi);obtain⟨v0,v1,v2,vr,vf,vm,vk,rfl,ht,hr,hf,ab,ad⟩:=hc;obtain⟨ar,cr,rfl,_⟩:=hr;obtain⟨am,cm,rfl,_⟩:=ab;obtain⟨w1,C⟩:=ex (w.alloc (.cells #[v0,v1,v2,.slice ar c.rules.length cr,.string c.new.name,.string c.new.word,vf,.int .i64 c.new.day,.bool c.new.known,.slice am c.marks.length cm,vk] 60));obtain⟨O,B1,ct⟩:=fP w w1 C;obtain⟨N,hN⟩:=ex (w.heap.size);rw[<-hN]at ct;have D:=x w1 O;have y:Hid _:=B1;have af:Hid _:=O;have ag:Hid _:=a;have HU:Hid (∀J,ae w1 J->∀i v,(#[v0,v1,v2,.slice ar c.rules.length cr,.string c.new.name,.string c.new.word,vf,.int .i64 c.new.day,.bool c.new.known,.slice am c.marks.length cm,vk]:Array Value)[i]? =some v->J.cell? ⟨N,i,none⟩=some v):=λJ hb i v h=>hb.cell (ct i v h);obtain⟨a0,a1,a2,a3,a4,a5,a6,a7,a8,a9,E⟩:=eC ct;have F:fD c j=if bG c≠0 then bG c else if !au j 0 ((c.marks.length:Int)-1)then 6 else 0:=rfl
 have Q:fD c j≠0->nL c j=[]:=λh=>Tu h;have hK:=mr (c:=c);have hA:=λ(jn:Nat) (h:bG c=0) (z:jn<c.marks.length)=>AY h z (by rw[(mr h).1.yI];exact z);obtain⟨f,hf⟩:=ex (bG c);rw[<-hf]at D F hK;have HF:Hid _:=F;have R:Hid _:=Q;have HK:Hid _:=hK;have HA:Hid (f=0->bG c=0):=λh=>hf▸h;have ah:Hid _:=hA;obtain⟨i0,hi,S,T,U⟩:=info_parts (Ff fs);have ak:Hid (c.rules.length<=40):=I.2.2.1;clear ht hf ad O B1 ct I x a F Q hK hA;go_enter (n39 L),Tryz.ntmps39;go_upto_region 1 with fail;rw[<-C,<-hN];clear C hN;go_wp2_with fail
 refine D.mono ?_;clear D;rintro e w2 ⟨rfl,V⟩;have d:Hid _:=V;clear V a0 a1 a2 a3 a4 a5 a6 a7 a8 a9 E;by_cases A:f=0;case neg=>
  have k1:(f !=0)=true:=by simpa using A
  have l:Hid (fD c j=f):=HF.out.trans (Tv A);have G:Hid (nL c j=[]):=R.out (by rw[l.out];exact A);clear A;go_wp2
  go_ret2
  exact⟨.slice none 0 0,by rw[l.out];rfl,by rw[G.out];exact World.ownsRow_nil _ _ _ _,y.out.trans (d.out.mono y.out.size)⟩
 have an:Hid (bG c=0):=HA.out A;have HF:Hid _:=HF.out.trans (Tu (by simpa using A));have m:Hid _:=(HK.out A).1;subst A;have g:=vi L j 0 ((c.marks.length:Int)-1) w2;have ao:IntKind.i64.wrap ((c.marks.length:Int)-1)=(c.marks.length:Int)-1:=wrap_i64 _ (by omega);obtain⟨_,_,_,_,_,_,_,_,_,b9,_⟩:=eC (HU.out w2 (ae.below d.out));by_cases z:0<=j/\j<=(c.marks.length:Int)-1;case neg=>
  have B:au j 0 ((c.marks.length:Int)-1)=false:=by
   cases e:au j 0 ((c.marks.length:Int)-1)with
   |false=>rfl
   |true=>exact absurd (fQ e) z
  have H:=HF.out;rw[B]at H g;have l:Hid (fD c j=6):=H;have G:Hid (nL c j=[]):=R.out (by rw[l.out];decide);clear z B H;go_wp2_with (go_at_call 60;refine g.mono ?_;clear g;rintro e w3 ⟨rfl,rfl⟩)
  go_ret2
  exact⟨.slice none 0 0,by rw[l.out];rfl,by rw[G.out];exact World.ownsRow_nil _ _ _ _,y.out.trans (d.out.mono y.out.size)⟩
 obtain⟨jn,rfl⟩:∃n:Nat,j=n:=⟨j.toNat,by omega⟩
 have B:au jn 0 ((c.marks.length:Int)-1)=true:=by unfold au;rw[TD z.1,TD z.2];rfl
 rw[B]at g;have q:Hid (jn<c.marks.length):=by rw[Hid];omega
 have HL:=ah.out jn an.out q.out;have W:Hid _:=HL;clear B z HL;go_wp2_with (go_at_call 60;refine g.mono ?_;clear g;rintro e w3 ⟨rfl,rfl⟩);have X:Hid (ae w1 w3/\w.heap.size<=w3.heap.size):=⟨ae.below d.out,(y.out.trans (d.out.mono y.out.size)).size⟩
 clear b9 ao;go_loopw [7,8] (λo s wr=>∃(k:Nat) (Y:Value),k<=c.rules.length/\s=.int .i64 k/\Y=o/\wr.ownsRow w3.heap.size 86 3 Y k (qE ((eX c (c.marks[jn]'q.out) (c.kin[jn]'(by rw[m.out.yI];exact q.out))).take k))/\Below w3.heap.size w3 wr) (λ_ s _=>c.rules.length-(intOf s).toNat);case atStart=>exact⟨0,_,TE _,rfl,rfl,World.ownsRow_nil _ _ _ _,Below.refl _ _⟩
 case round=>
  obtain⟨k,Y,hk,rfl,rfl,H,b⟩:=hrel;have p:ae w1 wr:=X.out.1.trans (ae.below b);have HW:Hid (ae w1 wr/\Below w3.heap.size w3 wr):=⟨p,b⟩
  have Z:Hid _:=H;obtain⟨a0,a1,a2,a3,a4,a5,a6,a7,a8,a9,E⟩:=eC (HU.out wr p);have aa:=ak.out;obtain t|hge:=Ty k c.rules.length
  ·(have bk:(k:Int)<(c.rules.length:Int):=by omega);have a:=ag.out m.out jn k q.out t wr (ae.trans af.out p);have HT:Hid _:=qG (kJ c (c.marks[jn]'q.out) (c.kin[jn]'(by rw[m.out.yI];exact q.out))) c.rules k t;obtain⟨r,hr⟩:=ex (kJ c (c.marks[jn]'q.out) (c.kin[jn]'(by rw[m.out.yI];exact q.out)) c.rules[k]);rw[<-hr]at HT a;obtain⟨q0,q1,q2⟩:=r;unfold zG at a;have HM:Hid (k+1<=c.rules.length/\c.rules.length-(k+1)<c.rules.length-k):=⟨t,by omega⟩
   clear hr p b H t;go_wp2_with (first
    |(go_at_call 85;refine a.mono ?_;clear a;rintro e w4 ⟨rfl,u⟩;have M:Hid ((w4.alloc (.cells #[.int .i64 q0,.int .i64 q1,.int .i64 q2] 86)).ownsRow w3.heap.size 86 3 Y k _/\Src (w4.alloc (.cells #[.int .i64 q0,.int .i64 q1,.int .i64 q2] 86)) 3 (some ⟨w4.heap.size,0,none⟩) 1 [.int .i64 q0,.int .i64 q1,.int .i64 q2]/\Below w3.heap.size w3 (w4.alloc (.cells #[.int .i64 q0,.int .i64 q1,.int .i64 q2] 86))):=⟨fo Z.out ((ae.below u).trans (ae.alloc _ _)),wX (e:=86) (f:=(0,0)) Uc,(HW.out.2.trans (u.mono HW.out.2.size)).alloc (HW.out.2.trans (u.mono HW.out.2.size)).size _⟩;clear u a0 a1 a2 a3 a4 a5 a6 a7 a8 a9 E)
    |(at_builtin;refine et (P:=Qs fs) (.tmp 28) (.tmp 33) 76 (by rfl) w3.heap.size 86 i0 _ 3 24 Tryz.underlying76 hi S T U rfl (by decide) Y k _ (by rfl) M.out.1 (some ⟨w4.heap.size,0,none⟩) 1 1 _ (by rfl) M.out.2.1 pC (by simp only[maxLen];omega) (by omega) M.out.2.2.size (by rfl) ?_;intro v7 w7 ax ay bb))
   have aM:=M.out.2.2.grown ay M.out.2.2.size (ey M.out.1);refine⟨⟨k+1,v7,HM.out.1,by go_num,rfl,?_,aM⟩,by simpa[intOf]using HM.out.2⟩;unfold eX;rw[HT.out,sW];exact ax
  have hx:decide ((k:Int)<(c.rules.length:Int))=false:=Tz (by omega);have bm:¬k<c.rules.length:=by omega
  have ba:k=c.rules.length:=by omega
  subst ba;clear p b H hge;go_wp2
  go_ret2
  have h:=Z.out;rw[Vt (by unfold eX;rw[Um];exact Tw _)]at h;have hl:(eX c (c.marks[jn]'q.out) (c.kin[jn]'(by rw[m.out.yI];exact q.out))).length=c.rules.length:=by unfold eX;rw[Um]
  have B:Below w.heap.size w w3:=y.out.trans (d.out.mono y.out.size);refine⟨_,by rw[W.out.1];rfl,?_,B.trans (HW.out.2.mono B.size)⟩;rw[W.out.2,hl];exact nG h X.out.2
def Om{K:Nat->Prop}{sc:Array Value}{c:Case}(j:Int)(w:World)(D:bp K w sc c)(r:bG c=0->sT fs c)(R:ie w)(s:gG w):Calls (Qs fs) 38 #[.agg sc,.int .i64 j] w λe w'=>∃v,e=.returned (.tuple #[v,.int .i64 (fD c j)])/\w'.ownsRow w.heap.size 86 3 v (nL c j).length (qE (nL c j))/\Below w.heap.size w w':=by (have a:fD c j=if bG c≠0 then bG c else if !au j 0 ((c.marks.length:Int)-1)then 6 else 0:=rfl);by_cases o:fD c j=0;rw[o]at a;(have t:bG c=0:=by by_cases h:bG c=0;exact h;rw[Tv h]at a;exact a.symm);(rw[Tu (by simpa using t)]at a;have p:au j 0 ((c.marks.length:Int)-1)=true:=by cases e:au j 0 ((c.marks.length:Int)-1)with|true=>rfl|false=>rw[e]at a;cases a);(have p:=fQ p;obtain⟨n,rfl⟩:∃n:Nat,j=n:=⟨j.toNat,by omega⟩);(have S:=(mr t).1;have E:n<c.marks.length:=by omega);(have u:n<c.kin.length:=by rw[S.yI];exact E);rw[o,(AY t E u).2];exact CK L n w D S t E u (r t) R s;(have T:nL c j=[]:=Tu o;rw[T];have e37:=e37 L;have e51:=e51 L;have e52:=e52 L;have e63:=e63 L;have G:=λq (H:ae w q)=>iq L q (D.stays H);obtain⟨v0,v1,v2,Y,Z,vm,vk,rfl,ht,hr,hf,I,J⟩:=D;obtain⟨am,cm,rfl,m1,m2,_⟩:=I;obtain⟨w1,k⟩:=ex (w.alloc (.cells #[v0,v1,v2,Y,.string c.new.name,.string c.new.word,Z,.int .i64 c.new.day,.bool c.new.known,.slice am c.marks.length cm,vk] 60));obtain⟨U,V,ct⟩:=fP w w1 k;have aa:IntKind.i64.wrap ((c.marks.length:Int)-1)=(c.marks.length:Int)-1:=wrap_i64 _ (by omega);obtain⟨N,M⟩:=ex (w.heap.size);have d:=λq (H:ae w1 q)=>eC λi v h=>H.cell (ct i v h);rw[<-M]at d;obtain⟨f,l⟩:=ex (bG c);obtain⟨z,m⟩:=ex (au j 0 ((c.marks.length:Int)-1));rw[<-l,<-m]at a;obtain⟨b,p⟩:∃b:Int,b=if(!z)=true then 6 else 0:=⟨_,rfl⟩);(rw[<-p]at a;simp only[<-l]at G;have A:=λx:al w w1=>al.calls (G x.val (U.trans x.st));have B:∀x:al w w1,Calls (Qs fs) 63 #[.int .i64 j,.int .i64 0,.int .i64 ((c.marks.length:Int)-1)] x.val λe w'=>e=.returned (.bool z)/\∃y:al w w1,w'=y.val:=λx=>by have h:=dC fs (n63 L) j 0 ((c.marks.length:Int)-1) x.val;rw[show(decide ((0:Int)<=j)&&decide (j<=(c.marks.length:Int)-1))=z from m.symm]at h;exact al.same h);(have C:∀x:al w w1,Calls (Qs fs) 52 #[.bool (!z),.int .i64 6] x.val λe w'=>e=.returned (.int .i64 b)/\∃y:al w w1,w'=y.val:=λx=>by rw[p];exact al.same (dR L (!z) 6 x.val));(have g:=λwx=>cW L f b wx;rw[<-a]at g;have l0:=λx:al w w1=>(d x.val x.st).1;have l1:=λx:al w w1=>(d x.val x.st).2.1;have l2:=λx:al w w1=>(d x.val x.st).2.2.1;have l3:=λx:al w w1=>(d x.val x.st).2.2.2.1;have l4:=λx:al w w1=>(d x.val x.st).2.2.2.2.1;have l5:=λx:al w w1=>(d x.val x.st).2.2.2.2.2.1;have l6:=λx:al w w1=>(d x.val x.st).2.2.2.2.2.2.1;have l7:=λx:al w w1=>(d x.val x.st).2.2.2.2.2.2.2.1;have l8:=λx:al w w1=>(d x.val x.st).2.2.2.2.2.2.2.2.1;have l9:=λx:al w w1=>(d x.val x.st).2.2.2.2.2.2.2.2.2.1;have O:=λx:al w w1=>(d x.val x.st).2.2.2.2.2.2.2.2.2.2;have W:Hid _:=V;obtain⟨F,X⟩:=ex (fD c j);rw[<-X]at o g⊢;have k1:(F !=0)=true:=by simpa using o);(clear ht hf J hr ct V U r R s G d a T o X l m p;go_enter (n38 L),Tryz.ntmps38;go_upto_region 1 with fail;rw[<-k,<-M];clear k M;refine aX (w0:=w) (w1:=w1) 10 (by kernel_rfl) (by kernel_rfl) (ae.refl _) W.out ?_;simp only[T9,T5,Uh,Ub];haveI P:Nonempty (al w w1):=⟨⟨w1,ae.refl _,W.out⟩⟩);(repeat (go_big_quiet_step (first|(go_at_call 37;exact A _)|(go_at_call 63;exact B _)|(go_at_call 52;exact C _))));refine wpQuiet_nil ?_;rintro q ⟨⟨_,Sy,Q⟩,rfl⟩;have HY:Hid (Below w.heap.size w (q.alloc (.cells #[.int .i64 f,.int .i64 b] 29))):=Q.alloc Q.size _;clear A B C l0 l1 l2 l3 l4 l5 l6 l7 l8 l9 O P Sy Q;go_wp2_with (go_at_call 51;refine(g _).mono ?_;clear g;rintro e w4 ⟨rfl,rfl⟩);(go_ret2);exact⟨.slice none 0 0,rfl,World.ownsRow_nil _ _ _ _,HY.out⟩
end Go.Proofs

import Derived.Test.YtaglpcmhopjebaaGreatDoorU38
set_option linter.all false
set_option maxRecDepth 100000
set_option maxHeartbeats 20000000
namespace Go.Proofs
open Go.Tm Go.RowKit Go.ChangeShapes Go.WideShapes Go.ChangeAt Go.WideElems Go.Conc
theorem JC{a:Type}{Q:Nat->a->Prop}:∀(n),(∀i,i<n->∃x,Q i x)->∃l:List a,l.length=n/\∀i (h:i<l.length),Q i l[i]
 |0,_=>⟨[],rfl,λi h=>absurd h (Ut _)⟩
 |n+1,h=>by
  obtain⟨l,b,c⟩:=JC n λi hi=>h i (by omega);obtain⟨x,d⟩:=h n (by omega);refine⟨l++[x],by simp[b],λi hi=>?_⟩;rw[List.getElem_append];split
  ·exact c i _
  ·have:i=n:=by simp at hi;omega
   subst this;simpa using d
def qz(W:World)(V:Value)(a:World):Prop:=V=.bool true/\a.os=W.os/\a.output=W.output/\W.heap.size<=a.heap.size/\∀b,b<W.heap.size->a.heap[b]? =W.heap[b]?
def qz.below{W a V}(h:qz W V a):Below W.heap.size W {a with os:=W.os,tape:=W.tape,output:=W.output}:=⟨rfl,rfl,rfl,h.2.2.2.1,h.2.2.2.2⟩
def laidOut:laidOutB Tryz.prog=true:=by kernel_rfl
def qz.kept{W a V}(h:qz W V a)(may):W.keptBut a may:=by refine⟨h.2.1,h.2.2.1,λi hi=>?_⟩;rw[h.2.2.2.2 i hi];split<;>simp_all
def qz.trod{H enc W c V}(h:qz W V c){t}(f:Tryz.prog.readableRec t=true)(a:t<Tryz.prog.types.size){v}{d:DataW H}{ps} (g:DataW.Trod enc Tryz.prog W 0 (λ_=>true) true t v d ps) (e:∀x∈ps,x.block<W.heap.size):DataW.Trod enc Tryz.prog c 0 (λb=>decide (b<W.heap.size)) true t v d ps:=
 DataW.Trod.of_heap (w:={c with os:=W.os,tape:=W.tape,output:=W.output}) (w':=c) (by rfl) (Below.trod laidOut f a g h.below e)
def TV.heap{σ b w' a q v V}(d:w'.heap=a.heap)(h:TV σ b w' q v V):TV σ b a q v V:=by cases h with|bool=>exact .bool _|int=>exact .int _ _|string=>exact .string _|iL=>exact .iL _ _|slice l c e f g=>exact .slice l c e f (d▸g)|empty=>exact .empty _ _
def Carry.heap{σ K c w w' a}(d:w'.heap=a.heap)(h:Carry σ K c w w'):Carry σ K c w a where
 fn:=h.fn
 cell b b' o v h1 h2 h3:=by obtain⟨f,e,g⟩:=h.cell b b' o v h1 h2 h3;exact⟨f,(by unfold World.cell? at e⊢;rw[<-d];exact e),g.heap d⟩
inductive OK(W:World):Value->Prop
 |one {v}:CV TT W true v->OK W v
 |agg {cs:Array Value}:fV TT W cs->OK W (.agg cs)
def yI{W:World}{f:FuncId}(p:gP.ent f=true){args:Array Value}(d:gQ W)(r:∀x∈args,OK W x) (j:∀w:World,w.heap.size=W.heap.size->Carry (λa b=>a=b) TT TT W w->(∀q v,CV TT W q v->TV (λa b=>a=b) TT w q v v)->gQ w->Calls (Qs FM) f args w λe w'=>(e=.returned (.bool true)/\Below w.heap.size w w')\/∃v L,e=.panicked (fQ v)/\dH w' v L):b9 Tryz.prog (qz W) (crowd #[G (Frame.enter Tryz.prog f args .normal) []] W none) #[]:=by let B:Nat->Prop:=λx=>∃c e F,W.heap[x]? =some (.cells c e F);have k:∀b,TT b->(∃c e F,W.heap[b]? =some (.cells c e F))->B b:=λb _ h=>h;refine Ob (W:=W) (B:=B) p (λx l=>?_) d.size (d.cells 0 (by decide)) (λg h=>d.cells g h) (λx l=>?_) λPr w m=>?_;obtain⟨c,e,F,s⟩:=l;exact⟨_,s,.inl ⟨c,e,F,rfl⟩⟩;(cases r x l with|one h=>exact h.self k|agg h=>refine .agg rfl λi x X l o=>?_;rw[l]at o;cases o;exact(h x (UZ l)).self k);(have same:∀x:Nat,(dj (idR gN B) Pr W).heap[x]? =w.heap[x]? :=λx=>by rw[m]);(have t:ae (dj (idR gN B) Pr W) w:=λx c e F h=>(same x).symm.trans h;have n:w.heap.size=W.heap.size:=by rw[m,kW]);have h:=j w n ((Carry.mask (G:=gN) (fz:=Pr) k).heap m.symm) (λq v h=>(TV.mask (G:=gN) (B:=B) (fz:=Pr) h).heap m.symm) ((d.mask).stays t (by rw[kW,n];exact Ue _));rw[n]at h;exact h
section
variable {H:Type} {enc:TypeId×Value->H} {W:World}
def iK(t:TypeId)(d:DataW H):Prop:=∀n∈d.weights Tryz.prog t,n<=reachBytes
theorem pb{P e n}:∀{l:List (DataW H)} {d},d∈l->n∈d.weights P e->n∈DataW.weightsAll P e l
 |a::r,d,c,b=>by
  unfold DataW.weightsAll;obtain rfl|h:=UC.1 c
  ·exact WL _ b
  ·exact XE _ (pb h b)
theorem jT{P n}:∀{ts:List TypeId} {l:List (DataW H)} {i:Nat} {t d},ts[i]? =some t->l[i]? =some d->n∈d.weights P t->n∈DataW.weightsEach P ts l
 |t0::ts,d0::l,0,t,d,a,b,c=>by cases a;cases b;unfold DataW.weightsEach;exact WL _ c
 |t0::ts,d0::l,i+1,t,d,a,b,c=>by unfold DataW.weightsEach;exact XE _ (jT (i:=i) a b c)
def iK.field{t fs}{xs:List (DataW H×List MemPlace)}(a:Tryz.prog.underlying t=some (.struct fs))(h:iK t (.agg (xs.map (·.1)))){i:Nat}{f:Field}{x}(b:fs[i]? =some f)(c:xs[i]? =some x):iK f.type x.1:=λn e=>by refine h n ?_;unfold DataW.weights;rw[a];exact jT (i:=i) (t:=f.type) (d:=x.1) (by rw[VH,Vg,b];rfl) (by rw[VH,c];rfl) e
def iK.elem{t e}{xs a:List (DataW H×List MemPlace)}(b:Tryz.prog.underlying t=some (.slice e))(h:iK t (.slice (xs.map (·.1)) (a.map (·.1)))){x}(c:x∈xs):iK e x.1:=λn d=>by refine h n ?_;unfold DataW.weights;rw[b];exact W6 _ (WL _ (pb (List.mem_map_of_mem c) d))
def Reads{c:Type}(enc:TypeId×Value->H)(W:World)(e:TypeId)(d:Nat)(E:(Nat->Prop)->World->Nat->Nat->c->Prop)(R:c->Prop):Prop:=∀(fuel:Nat) (cs:List Value) (x:DataW H×List MemPlace) (b a:Nat),DataW.trod enc Tryz.prog W 0 (λ_=>true) true fuel e cs=some x->(∀i,i<d->W.cell? ⟨b,a+i,none⟩=cs[i]?)->cs.length=d->iK e x.1->∃y:c,E TT W b a y/\R y
def LF{w:World}{a:Addr}{v}(h:w.cell? a=some v):a.spot=none/\∃c e F,w.heap[a.block]? =some (.cells c e F):=by unfold World.cell? at h;split at h;rename_i c e F b;split at h;cases h;rename_i d;exact⟨by simpa using d,_,_,_,b⟩;cases h
def mZ{C:Type}{t e B E}{R:C->Prop}(P:Tryz.prog.underlying t=some (.slice e))(D:Tryz.prog.cellsOf e=B)(T:0<B)(U:Reads enc W e B E R){fuel:Nat}{v x} (h:DataW.trod enc Tryz.prog W 0 (λ_=>true) true fuel t [v]=some x) (V:iK t x.1):∃l:List C,aE TT B E W v l/\∀y∈l,R y:=by obtain⟨g,_⟩|⟨a,len,cap,G,rest,n,rfl,g,rfl,_,X,Y,Q,q,I,_⟩:=DataW.trod_slice P h;cases g;exact⟨[],⟨none,0,rfl,Ue _,by decide,.inl rfl,λk m=>absurd m (by simp)⟩,λy r=>by cases r⟩;cases g;subst D;by_cases Z:cap=0;subst Z;(obtain rfl:len=0:=by omega);exact⟨[],⟨some a,0,rfl,Ue _,by decide,.inl rfl,λk m=>absurd m (by simp)⟩,λy r=>by cases r⟩;(have o:∃cs,W.cells? 0 a (Tryz.prog.cellsOf e)=some cs:=by by_cases J:0<len;have d:=q 0 J;rw[UG (by omega),Vy]at d;obtain⟨cs,d,_⟩:=d;rw[Wh]at d;exact⟨cs,d⟩;obtain⟨d,K⟩:=I rfl;have s:=K 0 (by omega);rw[UG (by omega),Vy]at s;obtain⟨cs,s,_⟩:=s;rw[show len+0=0 by omega,Wh]at s;exact⟨cs,s⟩);(obtain⟨cs,m⟩:=o;obtain⟨_,aa,L⟩:=World.cells?_some m;have u:=L 0 T;rw[UG (by omega)]at u;obtain⟨M,f⟩:=LF u;obtain⟨b,p,w⟩:=a;have M:w=none:=M;subst M;have f:∃c e F,W.heap[b]? =some (.cells c e F):=f;have z:∀i,i<len->∃y:C,E TT W b (p+i*Tryz.prog.cellsOf e) y/\R y:=λi hi=>by have d:=q i hi;rw[UG (by omega),Vy]at d;obtain⟨cs,d,K⟩:=d;rw[eR]at d;obtain⟨_,N,O⟩:=World.cells?_some d;exact U _ cs _ b _ K (λj hj=>by have:=O j hj;rw[eR]at this;exact this) N (V.elem P (Up _)));obtain⟨l,A,S⟩:=JC len z;refine⟨l,⟨some ⟨b,p,none⟩,cap,by rw[A],by rw[A];exact X,by unfold maxLen at Y;omega,.inr λa h=>?_,λk m=>⟨b,p,rfl,(S k m).1⟩⟩,λy r=>?_⟩;cases h;exact⟨rfl,trivial,f⟩;obtain⟨i,hi,rfl⟩:=V7 r;exact(S i hi).2
end
def yJ:Tryz.prog.cellsOf 9=1:=by kernel_rfl
def LG:Tryz.prog.cellsOf 46=2:=by kernel_rfl
def LH:Tryz.prog.cellsOf 51=2:=by kernel_rfl
def LI:Tryz.prog.cellsOf 50=2:=by kernel_rfl
def LJ:Tryz.prog.cellsOf 48=1:=by kernel_rfl
def LK:Tryz.prog.cellsOf 92=1:=by kernel_rfl
def LM:Tryz.prog.cellsOf 22=1:=by kernel_rfl
def LN:Tryz.prog.cellsOf 23=1:=by kernel_rfl
def LP:Tryz.prog.cellsOf 24=1:=by kernel_rfl
def LQ:Tryz.prog.cellsOf 26=3:=by kernel_rfl
section
variable {H:Type} {enc:TypeId×Value->H} {W:World}
def pG{t:TypeId}{s:ByteArray}(h:iK (H:=H) t (.lit (.string s.data.toList))):s.size<=140737488351232:=by have:=h s.data.toList.length (by unfold DataW.weights;exact VG.2 rfl);rw[Lib.size_eq];exact Uf this (by decide)
def LS:Reads enc W 9 1 kG λs=>s.size<=140737488351232:=by intro fuel cs x b a h c e d;obtain⟨s,rfl,rfl,_⟩:=DataW.trod_string Tryz.underlying9 h;exact⟨s,c 0 (by decide),pG d⟩
def yK{e n0 o q r s t u v w y}(d:Tryz.prog.underlying e=some (.struct #[⟨n0,9,0,o,q,r,s⟩,⟨t,9,1,u,v,w,y⟩])):Reads enc W e 2 dA λp=>p.1.size<=140737488351232/\p.2.size<=140737488351232:=by (intro fuel cs x b z h g A j;obtain⟨xs,m,rfl,rfl,_,f,k⟩:=DataW.trod_struct d h;obtain⟨a,c,rfl⟩:∃a c,cs=[a,c]:=by match cs,A with| [a,c],_=>exact⟨a,c,rfl⟩);(obtain⟨x0,x1,rfl⟩:∃x0 x1,xs=[x0,x1]:=by match xs,f with| [x0,x1],_=>exact⟨x0,x1,rfl⟩);have l:DataW.trod enc Tryz.prog W 0 (λ_=>true) true m 9 (([a,c].drop 0).take (Tryz.prog.cellsOf 9))=some x0:=k 0 _ rfl;have n:DataW.trod enc Tryz.prog W 0 (λ_=>true) true m 9 (([a,c].drop 1).take (Tryz.prog.cellsOf 9))=some x1:=k 1 _ rfl;have B:iK 9 x0.1:=j.field d (i:=0) rfl rfl;have C:iK 9 x1.1:=j.field d (i:=1) rfl rfl;rw[yJ]at l n;obtain⟨D,e0,rfl,_⟩:=DataW.trod_string Tryz.underlying9 l;obtain⟨E,e1,rfl,_⟩:=DataW.trod_string Tryz.underlying9 n;cases e0;cases e1;exact⟨(D,E),⟨g 0 (by decide),g 1 (by decide)⟩,pG B,pG C⟩
def C9:Reads enc W 50 2 eZ λt=>t.name.size<=140737488351232/\∀p∈t.aP,p.1.size<=140737488351232/\p.2.size<=140737488351232:=by (intro fuel cs x b n h e o f;obtain⟨xs,m,rfl,rfl,_,d,g⟩:=DataW.trod_struct Tryz.underlying50 h;obtain⟨c,a,rfl⟩:∃c a,cs=[c,a]:=by match cs,o with| [c,a],_=>exact⟨c,a,rfl⟩);(obtain⟨x0,x1,rfl⟩:∃x0 x1,xs=[x0,x1]:=by match xs,d with| [x0,x1],_=>exact⟨x0,x1,rfl⟩);have j:DataW.trod enc Tryz.prog W 0 (λ_=>true) true m 9 (([c,a].drop 0).take (Tryz.prog.cellsOf 9))=some x0:=g 0 _ rfl;have k:DataW.trod enc Tryz.prog W 0 (λ_=>true) true m 48 (([c,a].drop 1).take (Tryz.prog.cellsOf 48))=some x1:=g 1 _ rfl;have q:iK 9 x0.1:=f.field Tryz.underlying50 (i:=0) rfl rfl;have r:iK 48 x1.1:=f.field Tryz.underlying50 (i:=1) rfl rfl;rw[yJ]at j;rw[LJ]at k;obtain⟨s,e0,rfl,_⟩:=DataW.trod_string Tryz.underlying9 j;cases e0;obtain⟨l,u,v⟩:=mZ Tryz.underlying48 LH (by decide) (yK Tryz.underlying51) k r;exact⟨⟨s,l⟩,⟨e 0 (by decide),a,e 1 (by decide),u⟩,pG q,v⟩
def FT:Reads enc W 92 1 jJ λg=>∀s∈g,s.size<=140737488351232:=by (intro fuel cs x b c h d e f;obtain⟨a,rfl⟩:∃a,cs=[a]:=by match cs,e with| [a],_=>exact⟨a,rfl⟩);obtain⟨l,i,j⟩:=mZ Tryz.underlying92 yJ (by decide) LS h f;exact⟨l,⟨a,d 0 (by decide),i⟩,j⟩
def tf{t e v i}(j:Tryz.prog.underlying t=some (.slice e))(g:Cell.okWide Tryz.prog W .any i t v):CV TT W true v:=by (have b:Cell.ok Tryz.prog W .any i t v:=by unfold Cell.okWide at g;rw[j]at g;exact g);unfold Cell.ok at b;rw[j]at b;split at b<;>simp_all;(exact .slice _ _ λa h=>by cases h);rename_i a len cap _;obtain⟨_,_,_,d,row,cells,f,_⟩:=b;refine .slice _ _ λk h=>?_;cases h;refine⟨d,trivial,?_⟩;unfold World.shape? at f;split at f;rename_i c e F h;exact⟨c,e,F,h⟩;cases f
def ry{v:Value}{d p q}(a:Value.okWide Tryz.prog W .any q 26 v)(r:DataW.Trod enc Tryz.prog W 0 (λ_=>true) true 26 v d p)(c:iK 26 d):∃v0 v1 v2 t,v=.agg #[v0,v1,v2]/\IsTable TT W v0 v1 v2 t/\o9 t/\fV TT W #[v0,v1,v2]:=by (obtain⟨fuel,e⟩:=r;unfold Value.okWide at a;rw[Tryz.underlying26]at a;obtain⟨cs,rfl,b,ts,k,_,f⟩:=a;rw[LQ]at b;obtain⟨cs⟩:=cs;obtain⟨v0,v1,v2,rfl⟩:∃v0 v1 v2,cs=[v0,v1,v2]:=by match cs,b with| [s,u,w],_=>exact⟨s,u,w,rfl⟩);(have g:Tryz.prog.cellTypes Tryz.prog.depth 26=some [22,23,24]:=by kernel_rfl);(rw[g]at k;cases k;obtain⟨_,e0,x⟩:=f 0 v0 rfl;obtain⟨_,e1,y⟩:=f 1 v1 rfl;obtain⟨_,z,A⟩:=f 2 v2 rfl;cases e0;cases e1;cases z;obtain⟨xs,m,rfl,B,_,h,j⟩:=DataW.trod_struct Tryz.underlying26 e;cases B;obtain⟨x0,x1,x2,rfl⟩:∃x0 x1 x2,xs=[x0,x1,x2]:=by match xs,h with| [x0,x1,x2],_=>exact⟨x0,x1,x2,rfl⟩);have l:DataW.trod enc Tryz.prog W 0 (λ_=>true) true m 22 (([v0,v1,v2].drop 0).take (Tryz.prog.cellsOf 22))=some x0:=j 0 _ rfl;have n:DataW.trod enc Tryz.prog W 0 (λ_=>true) true m 23 (([v0,v1,v2].drop 1).take (Tryz.prog.cellsOf 23))=some x1:=j 1 _ rfl;have o:DataW.trod enc Tryz.prog W 0 (λ_=>true) true m 24 (([v0,v1,v2].drop 2).take (Tryz.prog.cellsOf 24))=some x2:=j 2 _ rfl;have C:iK 22 x0.1:=c.field Tryz.underlying26 (i:=0) rfl rfl;have D:iK 23 x1.1:=c.field Tryz.underlying26 (i:=1) rfl rfl;have E:iK 24 x2.1:=c.field Tryz.underlying26 (i:=2) rfl rfl;rw[LM]at l;rw[LN]at n;rw[LP]at o;obtain⟨F,r0,k0⟩:=mZ Tryz.underlying22 LG (by decide) (yK Tryz.underlying46) l C;obtain⟨a1,G,k1⟩:=mZ Tryz.underlying23 LI (by decide) C9 n D;obtain⟨I,J,K⟩:=mZ Tryz.underlying24 LK (by decide) FT o E;refine⟨v0,v1,v2,⟨F,a1,I⟩,rfl,⟨r0,G,J⟩,⟨k0,k1,K⟩,λv a=>?_⟩;simp only[U8,UC,UR,US]at a;obtain rfl|rfl|rfl:=a;exact tf Tryz.underlying22 x;exact tf Tryz.underlying23 y;exact tf Tryz.underlying24 A
end
def IV:Tryz.prog.cellsOf 181=1:=by kernel_rfl
section
variable {H:Type} {enc:TypeId×Value->H} {W:World}
def LU:Reads enc W 181 1 uA λ_=>True:=by (intro fuel cs x b c h d e f;obtain⟨n,rfl,rfl,a⟩:=DataW.trod_int Tryz.underlying181 h;simp only[Lit.wf,Un,Uu]at a;have m1:IntKind.u16.min=0:=by decide);(have m2:IntKind.u16.max=65535:=by decide);exact⟨n,⟨d 0 (by decide),by omega,by omega⟩,trivial⟩
def rz{v:Value}{d p b}(c:Value.okWide Tryz.prog W .any b 44 v)(f:DataW.Trod enc Tryz.prog W 0 (λ_=>true) true 44 v d p)(g:iK 44 d):∃l:List Int,aE TT 1 uA W v l/\CV TT W true v:=by (obtain⟨fuel,a⟩:=f;obtain⟨e,len,cap,rfl⟩:=okWide_slice Tryz.underlying44 c;have i:DataW.trod enc Tryz.prog W 0 (λ_=>true) true fuel 44 [.slice e len cap]=some (d,p):=a;have o:Cell.okWide Tryz.prog W .any b 44 (.slice e len cap):=by have h:=c;simp only[Value.okWide,Tryz.underlying44]at h;exact h);obtain⟨l,r,_⟩:=mZ Tryz.underlying44 IV (by decide) LU i g;exact⟨l,r,tf Tryz.underlying44 o⟩
def pc{w w':World}{v l}(d:Carry (λa b=>a=b) TT TT w w')(f:∀q v,CV TT w q v->TV (λa b=>a=b) TT w' q v v)(h:aE TT 1 uA w v l):aE TT 1 uA w' v l:=h.carry (λb g o x e c=>by obtain⟨v,i,j⟩:=d.cell b g o _ e c.1 (.int _ x);cases j;exact⟨i,c.2⟩) (f _ _ h.cv)
def je{ts:List TypeId}{ds c:List (DataW H)}{e}(h:(DataW.weightsEach Tryz.prog (ts++e) (ds++c)).all (· <=reachBytes)=true){i:Nat}{t d}(a:ts[i]? =some t)(b:ds[i]? =some d):iK t d:=λn f=>UF (UJ.1 h n (jT (i:=i) (Wa (Vl.1 a).1▸a) (Wa (Vl.1 b).1▸b) f))
end
def yL{n:Int}(h:(Lit.int .u8 n).wf=true):0<=n/\n<256:=by (simp only[Lit.wf,Un,Uu]at h;have m1:IntKind.u8.min=0:=by decide);(have m2:IntKind.u8.max=255:=by decide);omega
end Go.Proofs
namespace Go.Proofs
open Go.Tm Go.RowKit
variable {fs:Array Func} (L:bT fs)
def zC(s r:ByteArray)(w:World)(g:s.size<=1000)(d:r.size<=1000):Calls (Qs fs) 243 #[.string s,.string r] w λe w'=>e=.returned (.bool (r.data.toList.isSuffixOf s.data.toList))/\w'=w:=by
 have b:Hid _:=Lib.hasSuffix_raw s r;obtain h|h:=Uh s.size r.size
 ·have f:decide ((r.size:Int)<=(s.size:Int))=false:=Uj (by omega);have c:decide (r.size<=s.size)=false:=Uj (by omega);have a:Hid (r.data.toList.isSuffixOf s.data.toList=false):=by have:=b.out;rw[Uj (by omega),Xe]at this;exact this.symm
  clear h b;go_enter (n243 L),Tryz.ntmps243;go_wp2;go_ret;exact⟨by rw[a.out];rfl,rfl⟩
 have f:(r.size:Int)<=(s.size:Int):=by omega
 have c:r.size<=s.size:=h;have a:Hid (((s.extract (s.size-r.size) s.size).toList==r.toList)=r.data.toList.isSuffixOf s.data.toList):=by have:=b.out;rw[Um h,WC]at this;exact this
 clear h b;go_enter (n243 L),Tryz.ntmps243;go_wp2;go_ret;exact⟨by rw[<-a.out];rfl,rfl⟩
def vq(s r:ByteArray)(w:World)(d:s.size<=1000)(a:r.size<=1000):Calls (Qs fs) 239 #[.string s,.string r] w λe w'=>e=.returned (.bool (r.data.toList.isSuffixOf s.data.toList))/\w'=w:=by have SH:=SH L;have c:=zC L s r w d a;obtain⟨z,b⟩:=ex (r.data.toList.isSuffixOf s.data.toList);rw[<-b]at c⊢;clear b;go_enter (n239 L),Tryz.ntmps239;go_wp2_with (first|(go_at_call 243;refine c.mono ?_;clear c;rintro e w2 ⟨rfl,rfl⟩));go_ret;exact⟨rfl,rfl⟩
def wH{x y:ByteArray}(h:¬y.size<x.size):pI x.data.toList y.data.toList=if x.size<3 then 0 else if(!x.data.toList.isPrefixOf y.data.toList&& !x.data.toList.isSuffixOf y.data.toList)=true then 0 else(100*x.size:Int)/y.size:=by unfold pI;rw[<-Lib.size_eq,<-Lib.size_eq,Uc h];simp only[];rw[<-Lib.size_eq,<-Lib.size_eq];by_cases a:x.size<3;rw[Ud a,Um a];rfl;rw[Uc a,Uj a];simp only[WK]
def Qp{K:Nat->Prop}{v0 v1 v2:Value}{t:Table}{m1 m2:Array Value}{one two:Mark}(w:World)(ht:IsTable K w v0 v1 v2 t)(C:OkT t)(p:bW K w m1 one)(q:bW K w m2 two)(o1:OkM one)(o2:OkM two):Calls (Qs fs) 238 #[.agg #[v0,v1,v2],.agg m1,.agg m2] w λe w'=>e=.returned (.int .i64 (pI (aL t.aq one.word.data.toList) (aL t.aq two.word.data.toList)))/\Below w.heap.size w w':=by
 have e53:=e53 L;have OY:=OY L;have SE:=SE L;obtain⟨f1,rfl,r1⟩:=p;obtain⟨f2,rfl,r2⟩:=q;obtain⟨w1,j⟩:=ex (((w.alloc (.cells #[v0,v1,v2] 100)).alloc (.cells #[.string one.name,.string one.word,f1,.int .i64 one.day,.bool one.known] 38)).alloc (.cells #[.string two.name,.string two.word,f2,.int .i64 two.day,.bool two.known] 38));obtain⟨S1,B1,ct,c1,c2⟩:=eW w _ _ _ _ _ _ w1 j;have D:=ct 0 _ rfl;have E:=ct 1 _ rfl;have F:=ct 2 _ rfl;have a1:=c1 1 _ rfl;have G:=c2 1 _ rfl;have hT:=ht.stays S1;obtain⟨N0,H⟩:=ex (w.heap.size);obtain⟨N1,p⟩:=ex (w.heap.size+1);obtain⟨N2,q⟩:=ex (w.heap.size+1+1);rw[<-q]at G;rw[<-p]at a1;rw[<-H]at D E F;have BW:Hid (Below w.heap.size w w1):=B1;have k:=df C one.word.data.toList;have l:=df C two.word.data.toList;rw[<-Lib.size_eq,<-aR]at k l;have I:∀(s:ByteArray),s.size<=16->∀x:aj w w1,Calls (Qs fs) 53 #[.agg #[v0,v1,v2],.string s] x.val λe w'=>e=.returned (.string (bs (aL t.aq s.data.toList)))/\∃y:aj w w1,w'=y.val:=λs hs x=>aj.calls (qQ L s x.val (hT.stays x.st).1 C.lets (by omega));have J:=I one.word o1.word;have M:=I two.word o2.word;have N:=o1.word;have O:=o2.word;obtain⟨A,P⟩:=ex (bs (aL t.aq one.word.data.toList));obtain⟨B,Q⟩:=ex (bs (aL t.aq two.word.data.toList));have r:A.data.toList=aL t.aq one.word.data.toList:=by rw[P,bu]
 have u:B.data.toList=aL t.aq two.word.data.toList:=by rw[Q,bu]
 rw[<-P]at k J;rw[<-Q]at l M;rw[<-r,<-u];obtain⟨zz,a⟩:=ex (pI A.data.toList B.data.toList);rw[<-a];have aa:A.size<=48:=by omega
 have ab:B.size<=48:=by omega
 have R:=λx:aj w w1=>x.cell D;have S:=λx:aj w w1=>x.cell E;have T:=λx:aj w w1=>x.cell F;have U:=λx:aj w w1=>x.cell a1;have V:=λx:aj w w1=>x.cell G;clear P Q r u k l N O I hT ht r1 r2 ct c1 c2 S1 B1;go_enter (n238 L),Tryz.ntmps238;go_upto_region 1 with fail;rw[<-j,<-q,<-p,<-H];clear j H p q;refine aY (w0:=w) (w1:=w1) (by kernel_rfl) (by kernel_rfl) (ae.refl _) BW.out ?_;haveI W:Nonempty (aj w w1):=⟨⟨w1,ae.refl _,BW.out⟩⟩
 repeat (go_big_quiet_step (first|(go_at_call 53;exact J _)|(go_at_call 53;exact M _)))
 refine wpQuiet_nil ?_;rintro i ⟨⟨_,Sx,Bx⟩,rfl⟩;have z:Hid _:=Bx;clear J M R S T U V W D E F a1 G Bx Sx;obtain v|hge:=Uh B.size A.size
 ·have m:(B.size:Int)<(A.size:Int):=by omega
  go_upto_region 4 with fail;have c:¬A.size<B.size:=by omega
  have a:=a.trans (zF v);clear v m;by_cases h:B.size<3
  ·(have n:(B.size:Int)<3:=by omega);have g:zz=0:=a.trans ((wH c).trans (Ud h));subst g;clear h a c;go_wp2;go_ret;exact⟨rfl,z.out⟩
  have n:decide ((B.size:Int)<3)=false:=Uj (by omega);have g:=a.trans ((wH c).trans (Uc h));have X:(A.size:Int)≠0:=by omega
  have d:=λi=>od L A B i;have f:=λi=>vq L A B i (by omega) (by omega);obtain⟨Y,e1⟩:=ex (B.data.toList.isPrefixOf A.data.toList);obtain⟨Z,o⟩:=ex (B.data.toList.isSuffixOf A.data.toList);simp only[<-e1]at d;simp only[<-o]at f;rw[<-e1,<-o]at g;have HV:Hid _:=g;clear e1 o h g a c;cases Y<;>cases Z;all_goals (
   go_wp2_with (first|(go_at_call 133;refine(d _).mono ?_;rintro e w' ⟨rfl,b⟩;rw[b];clear b)|(go_at_call 239;refine(f _).mono ?_;rintro e w' ⟨rfl,b⟩;rw[b];clear b))
   go_ret;exact⟨by rw[HV.out];rfl,z.out⟩)
 have m:decide ((B.size:Int)<(A.size:Int))=false:=Uj (by omega);go_upto_region 4 with fail;have c:¬B.size<A.size:=by omega
 clear hge m;by_cases h:A.size<3
 ·have n:(A.size:Int)<3:=by omega
  have g:zz=0:=a.trans ((wH c).trans (Ud h));subst g;clear h a c;go_wp2;go_ret;exact⟨rfl,z.out⟩
 have n:decide ((A.size:Int)<3)=false:=Uj (by omega);have g:=a.trans ((wH c).trans (Uc h));have X:(B.size:Int)≠0:=by omega
 have d:=λi=>od L B A i;have f:=λi=>vq L B A i (by omega) (by omega);obtain⟨Y,e1⟩:=ex (A.data.toList.isPrefixOf B.data.toList);obtain⟨Z,o⟩:=ex (A.data.toList.isSuffixOf B.data.toList);simp only[<-e1]at d;simp only[<-o]at f;rw[<-e1,<-o]at g;have HV:Hid _:=g;clear e1 o h g a c;cases Y<;>cases Z;all_goals (
  go_wp2_with (first|(go_at_call 133;refine(d _).mono ?_;rintro e w' ⟨rfl,b⟩;rw[b];clear b)|(go_at_call 239;refine(f _).mono ?_;rintro e w' ⟨rfl,b⟩;rw[b];clear b))
  go_ret;exact⟨by rw[HV.out];rfl,z.out⟩)
def Rv:fZ fs 4:=λK v0 v1 v2 t m1 m2 one two w a b c d e f g=>Qp L w a b c d e f
end Go.Proofs
namespace Go.Proofs
open Go.Tm Go.RowKit
def FW{m:Mark}(h:dB m=0):m.aW.Nodup:=by rw[FU]at h;split at h;cases h;split at h;cases h;split at h;rename_i f;exact absurd h f;rename_i e;(have e:aT 0 5 codeF m.aW=0:=by simpa using e);(have k:=(eN e).2;generalize m.aW=l at*;have step:∀j (c:j+1<l.length),l[j]<l[j+1]:=λj c=>by have:=k (j+1) c;rw[BP l j (by omega)]at this;split at this;cases this;split at this;cases this;rename_i g;(have g:¬l[j+1]<=l[j]:=by simpa using g);omega);(have mono:∀(d i:Nat) (c:i+d+1<l.length),l[i]<l[i+d+1]:=by intro d;induction d with|zero=>exactλi c=>step i c|succ d n=>intro i c;have a:=n i (by omega);have b:=step (i+d+1) (by omega);exact Int.lt_trans a b);rw[List.nodup_iff_pairwise_ne,X6];intro i j hi c o p;have:=mono (j-i-1) i (by omega);simp only[show i+(j-i-1)+1=j by omega]at this;omega
def JD{fs}(L:bT fs){t k one two}(h:fh t k one two=0)(n:Nat)(d:k=n):yx fs n one two:=by (obtain⟨_,e,a,b⟩:=tj h;have c:n<6:=by omega);match n,c with|0,_=>exact(G4 L).at _ _|1,_=>exact(ML L).at _ _|2,_=>exact(MM L).at _ _|3,_=>exact(G5 L).at _ _|4,_=>exact(Rv L).at _ _|5,_=>exact Ow L (FW a) (FW b)
def pH{w}(n:ByteArray)(x:Bs):bW (λ_=>True) w #[.string n,.string (bs x),.slice none 0 0,.int .i64 0,.bool false] (jU n x):=⟨_,rfl,lL⟩
def Qq{x:Bs}{k:Nat}(a:k<x.length):(bs x).extract 0 k++⟨#[120]⟩++(bs x).extract (k+1) (bs x).size=bs (x.take k++120::x.drop (k+1)):=by (have e0:(bs x).extract 0 k=bs (x.take k):=by have:=rq [] (bs x) 0 k;rw[bu]at this;exact(lP (by rw[uE];rfl)).symm.trans this);have e1:(⟨#[120]⟩:ByteArray)=bs [120]:=rfl;rw[e0,e1,NX,Qb,bu,Vn];rfl
def Qr{x:Bs}{k:Nat}(a:k<x.length)(h:x.all aQ=true):(x.take k++120::x.drop (k+1)).all aQ=true/\(x.take k++120::x.drop (k+1)).length=x.length:=by refine⟨?_,by rw[Uw,Ug,Ve,Uq];omega⟩;rw[UJ]at h⊢;intro c hc;rw[Vx,UC]at hc;obtain hc|rfl|hc:=hc;exact h c (List.mem_of_mem_take hc);rfl;exact h c (List.mem_of_mem_drop hc)
def lq{p:Prop}(h:p:=by
 refine(HS.out _ HW.out).mono ?_;rintro e g (⟨rfl,b⟩|⟨v,d,rfl,c⟩)
 ·have a:Hid _:=b
  clear b;go_wp2;go_ret;exact .inl ⟨rfl,HW.out.trans (a.out.mono HW.out.size)⟩
 ·have f:Hid _:=c
  clear c;exact lg rfl (.inr ⟨v,d,rfl,f.out⟩)):p:=h
def OP{w w':World}{N:Nat}{v0 v1 v2:Value}{ty:TypeId}(h:w'.heap[N]? =some (.cells #[v0,v1,v2] ty))(a:w.heap.size<=N)(b:Below w.heap.size w w'):∃w4,w4=w'.setCell ⟨N,0,none⟩ (.slice none 0 0)/\Below w.heap.size w w4/\∀i v,(#[.slice none 0 0,v1,v2]:Array Value)[i]? =some v->w4.cell? ⟨N,i,none⟩=some v:=by (refine⟨_,rfl,b.setCell (p:=⟨N,0,none⟩) a _,λi v c=>?_⟩;have e:(w'.setCell ⟨N,0,none⟩ (.slice none 0 0)).heap[N]? =some (.cells #[.slice none 0 0,v1,v2] ty):=by simp[World.setCell,U5,h]);exact cell_of_heap e i v c
def IY{v0 v1 v2 v:Value}{t:Table}{V:List Int}(at_:Int)(w)(ha:0<=at_/\at_<256)(ht:IsTable (λ_=>True) w v0 v1 v2 t)(hr:o9 t)(hp:aE (λ_=>True) 1 uA w v V)(F:gQ w):Calls (Qs FM) 10 #[.agg #[v0,v1,v2],v,.int .u8 at_] w λe w'=>(e=.returned (.bool true)/\Below w.heap.size w w')\/∃v L,e=.panicked (fQ v)/\dH w' v L:=by
 have L:=fP;have e16:=e16 L;have e17:∀(a:Array Value) (w:World),(callFunc 17 a).run (Qs FM) w=.ok (.enter 17 a) w:=e17 L;have e21:=e21 L;have e25:=e25 L;have e28:=e28 L;obtain⟨G,P,rfl,_⟩:=id ht.2.1;obtain⟨w1,H⟩:=ex (w.alloc (.cells #[v0,.slice G t.au.length P,v2] 26));have S1:ae w w1:=by rw[H];exact ae.alloc _ _
 have B1:Below w.heap.size w w1:=by rw[H];exact aF _ _
 have J:w1.heap[w.heap.size]? =some (.cells #[v0,.slice G t.au.length P,v2] 26):=by rw[H];exact UT
 obtain⟨N,hN⟩:=ex (w.heap.size);rw[<-hN]at J;have ct:∀i v,(#[v0,.slice G t.au.length P,v2]:Array Value)[i]? =some v->w1.cell? ⟨N,i,none⟩=some v:=λi v h=>cell_of_heap J i v h;have aa:=ht.stays S1;have a7:=F.stays S1 B1.size;have ab:=IT L w1 aa hr;have qs:=λw2 (s:Below w.heap.size w w2)=>C7 w2 (F.stays (ae.below s) s.size);have C:=λ(hz:uz t) w2 (s:Below w.heap.size w w2)=>mv L w2 (ht.stays (ae.below s)) hz;have ad:=λ(m:Nat) (hm:m<1000) D (s:Below w.heap.size w D)=>IU L m D (hp.stays (ae.below s) λx y o z e h=>by subst e;exact⟨(ae.below s).cell h.1,h.2⟩) hm;have l:=λ(n m:ByteArray) (x y:Bs) D (s:Below w.heap.size w D)=>FV L 0 D (v0:=.slice none 0 0) (t:=bare t) ⟨lL,(ht.stays (ae.below s)).2.1,(ht.stays (ae.below s)).2.2⟩ (pH n x) (pH m y) (λh n hn=>JD L h n hn) (F.len.stays (ae.below s)) (F.kinds.stays (ae.below s));obtain⟨f,hf⟩:=ex (bj t);simp only[<-hf]at C;have Q:Hid _:=B1;have HS:Hid _:=qs;have a8:Hid _:=C;have af:Hid _:=ad;have ag:Hid _:=l;have HF:Hid _:=hf;have HN:Hid (w.heap.size<=N):=by rw[hN];exact Ue _
 have HH:Hid (∀D,Below w1.heap.size w1 D->D.heap[N]? =some (.cells #[v0,.slice G t.au.length P,v2] 26)):=λD s=>(ae.below s) _ _ _ _ J;have HA:Hid _:=ha;have W:=ct 0 _ rfl;have a1:=ct 1 _ rfl;have X:=ct 2 _ rfl;clear ht aa hr F a7 S1 B1 ct hp qs C ad l hf J ha;go_enter (n10 L),Tryz.ntmps10;go_upto_region 1 with fail;rw[<-H,<-hN];clear H hN;go_wp2_with fail
 refine ab.mono ?_;clear ab;rintro e w2 ⟨z,rfl,hz,ak⟩;have u:Hid _:=ak;clear ak W a1 X;cases z with
 |true=>have HW:Hid (Below w.heap.size w w2):=Q.out.trans (u.out.mono Q.out.size);clear hz;go_wp2_with fail;exact lq
 |false=>
 have C:=a8.out (hz rfl) w2 (Q.out.trans (u.out.mono Q.out.size));have W:=cell_of_heap (HH.out w2 u.out) 0 _ rfl;have a1:=cell_of_heap (HH.out w2 u.out) 1 _ rfl;have X:=cell_of_heap (HH.out w2 u.out) 2 _ rfl;clear hz;go_wp2_with fail
 refine C.mono ?_;clear C;rintro e w3 ⟨rfl,an⟩;have I:Hid (Below w1.heap.size w1 w3):=u.out.trans (an.mono u.out.size);clear an W a1 X;by_cases h0:f=0;case neg=>
  have hfb:(f !=0)=true:=by simpa using h0
  have HW:Hid (Below w.heap.size w w3):=Q.out.trans (I.out.mono Q.out.size);clear h0;go_wp2_with fail
  exact lq
 have HT:Hid (bj t=0):=HF.out.symm.trans h0;subst h0;obtain⟨w4,ao,Y,ar⟩:=OP (HH.out w3 I.out) HN.out (Q.out.trans (I.out.mono Q.out.size));have n0:=cell_of_heap (HH.out w3 I.out) 0 _ rfl;have g0:=frozen_of_heap (HH.out w3 I.out) 0;have g:Hid (Below w.heap.size w w4):=Y;have HU:Hid (∀D,Below w4.heap.size w4 D->∀i v,(#[.slice none 0 0,.slice G t.au.length P,v2]:Array Value)[i]? =some v->D.cell? ⟨N,i,none⟩=some v):=λD s i v h=>(ae.below s).cell (ar i v h);have R:=af.out 0 (by decide) w4 Y;clear Y ar;go_upto_region 4 with fail;rw[<-ao];clear ao n0 g0;go_upto_region 5 with(first
  |(go_at_call 28;refine R.mono ?_;clear R;rintro e w5 ⟨c,rfl,l1,b1,Z⟩;have B5:Below w4.heap.size w4 w5:=Z;have S:=af.out 20 (by decide) w5 (g.out.trans (Z.mono g.out.size)))
  |(go_at_call 28;refine S.mono ?_;clear S;rintro e w6 ⟨r,rfl,l2,b2,ax⟩))
 have B6:Below w4.heap.size w4 w6:=B5.trans (ax.mono B5.size);have E:Hid _:=B6;have HX:Hid (c.length<=16/\c.all aQ=true/\r.length<=16/\r.all aQ=true):=⟨l1,b1,l2,b2⟩
 clear B5 B6 Z ax l1 b1 l2 b2;by_cases T:c=[];case pos=>
  have k1:(((bs c).size:Int)==0)=true:=by rw[T];rfl
  have HW:Hid (Below w.heap.size w w6):=g.out.trans (E.out.mono g.out.size);clear T;go_wp2_with fail
  exact lq
 have k1:(((bs c).size:Int)==0)=false:=Wj (by rw[aR];exactλe=>T (UH (by omega)));by_cases c2:r=[];case pos=>
  have k2:(((bs r).size:Int)==0)=true:=by rw[c2];rfl
  have HW:Hid (Below w.heap.size w w6):=g.out.trans (E.out.mono g.out.size);clear T c2;go_wp2_with fail
  exact lq
 have k2:(((bs r).size:Int)==0)=false:=Wj (by rw[aR];exactλe=>c2 (UH (by omega)));by_cases P:c.length<r.length;case pos=>
  have k3:((bs c).size:Int)<((bs r).size:Int):=by rw[aR,aR];omega
  have HW:Hid (Below w.heap.size w w6):=g.out.trans (E.out.mono g.out.size);clear T c2 P;go_wp2_with fail
  exact lq
 have k3:decide (((bs c).size:Int)<((bs r).size:Int))=false:=Uj (by rw[aR,aR];omega);have K:Hid ((bs c).size=c.length):=aR _;obtain⟨k,hk⟩:∃k:Nat,at_% ((bs c).size:Int)=k:=⟨(at_% ((bs c).size:Int)).toNat,by (have h1:(1:Int)<=(bs c).size:=by rw[aR];rcases U4 c.length with h|h;exact absurd (UH h) T;omega);have:=XT at_ (b:=((bs c).size:Int)) (by omega);omega⟩
 have M:k<(bs c).size:=by (have h1:(1:Int)<=(bs c).size:=by rw[aR];rcases U4 c.length with h|h;exact absurd (UH h) T;omega);have:=WU at_ (b:=((bs c).size:Int)) (by omega);omega
 have ba:=HA.out.1;have bb:=HA.out.2;have ay:(bs c).size<=16:=by rw[aR];exact HX.out.1
 go_upto_region 8 with fail;rw[hk];have bk:(k:Int)<((bs c).size:Int):=by omega
 clear hk ba bb T k1 k2 k3;refine aY (w0:=w6) (w1:=w6) (by kernel_rfl) (by kernel_rfl) (ae.refl _) (Below.refl _ _) ?_;haveI bm:Nonempty (aj w6 w6):=⟨⟨w6,ae.refl _,Below.refl _ _⟩⟩
 repeat (go_big_quiet_step (fail))
 refine wpQuiet_nil ?_;rintro w7 ⟨⟨_,Sz,Bz⟩,rfl⟩;rw[Qq (by rw[<-K.out];exact M)];obtain⟨y,hy⟩:=ex (c.take k++120::c.drop (k+1));rw[<-hy];obtain⟨g1,g2,g3,g4⟩:=HX.out;obtain⟨O,aM⟩:=Qr (x:=c) (k:=k) (by rw[<-K.out];exact M) g2;have j:=IX (a:=c) (b:=r) (k:=k) (y:=120) c2 (by omega) (by rw[<-K.out];exact M);rw[<-hy]at O aM j;have e1:=pd (t:=t) (n:=⟨#[97]⟩) (m:=⟨#[98]⟩) HT.out rfl rfl g1 g3 g2 g4;have e2:=pd (t:=t) (n:=⟨#[99]⟩) (m:=⟨#[98]⟩) HT.out rfl rfl (by omega) g3 O g4;have e3:=im (t:=t) (k:=0) (n:=⟨#[97]⟩) (m:=⟨#[98]⟩) HT.out (by decide) rfl rfl g1 g3 g2 g4;have e4:=im (t:=t) (k:=0) (n:=⟨#[99]⟩) (m:=⟨#[98]⟩) HT.out (by decide) rfl rfl (by omega) g3 O g4;obtain⟨p,hp⟩:=ex (bH c r);obtain⟨q,hq⟩:=ex (bH y r);have bp:=fI c r;have bq:=fI y r;rw[<-hp]at j e1 bp;rw[<-hq]at j e2 bq;rw[<-K.out]at j;have HE:Hid (nI (bare t) 0 (jU ⟨#[97]⟩ c) (jU ⟨#[98]⟩ r)=p/\fh (bare t) 0 (jU ⟨#[97]⟩ c) (jU ⟨#[98]⟩ r)=0/\nI (bare t) 0 (jU ⟨#[99]⟩ y) (jU ⟨#[98]⟩ r)=q/\fh (bare t) 0 (jU ⟨#[99]⟩ y) (jU ⟨#[98]⟩ r)=0):=⟨e1,e3,e2,e4⟩
 have HR:Hid _:=j;have HP:Hid ((0<=p/\p<=100)/\0<=q/\q<=100):=⟨bp,bq⟩
 clear g1 g2 g3 g4 O aM hp hq j e1 e2 e3 e4 bp bq c2 P hy;have A:Hid (Below w4.heap.size w4 w7):=E.out.trans (Bz.mono E.out.size);clear bm Sz Bz bk E;have W:=HU.out w7 A.out 0 _ rfl;have a1:=HU.out w7 A.out 1 _ rfl;have X:=HU.out w7 A.out 2 _ rfl;have l:=ag.out ⟨#[97]⟩ ⟨#[98]⟩ c r w7 (g.out.trans (A.out.mono g.out.size));rw[HE.out.1,HE.out.2.1]at l;go_upto_region 10 with(first|(go_at_call 25;refine l.mono ?_;clear l;rintro e w8 ⟨rfl,a6⟩))
 have B:Hid (Below w4.heap.size w4 w8):=A.out.trans (a6.mono A.out.size);clear a6 W a1 X A;have W:=HU.out w8 B.out 0 _ rfl;have a1:=HU.out w8 B.out 1 _ rfl;have X:=HU.out w8 B.out 2 _ rfl;have l:=ag.out ⟨#[99]⟩ ⟨#[98]⟩ y r w8 (g.out.trans (B.out.mono g.out.size));rw[HE.out.2.2.1,HE.out.2.2.2]at l;go_upto_region 11 with(first|(go_at_call 25;refine l.mono ?_;clear l;rintro e bo ⟨rfl,U⟩))
 have HW:Hid (Below w.heap.size w bo):=g.out.trans ((B.out.trans (U.mono B.out.size)).mono g.out.size);clear U W a1 X B;have n1:1<=(bs c).size:=by omega
 have p1:=HP.out.1;have p2:=HP.out.2;have d1:0<=(100:Int)/((bs c).size:Int):=Xr (by decide) (by omega);have d2:(100:Int)/((bs c).size:Int)<=100:=Int.ediv_le_self _ (by decide);go_upto_region 12 with fail;have j:=HR.out;obtain⟨d,hd⟩:=ex ((100:Int)/((bs c).size:Int)+1);have d3:1<=d/\d<=101:=by omega
 rw[<-hd]at j⊢;have b1:p-d<=q:=by omega
 have b2:q<=p+d:=by omega
 clear hd j d1 d2 M ay n1;go_wp2_with fail;exact lq
end Go.Proofs

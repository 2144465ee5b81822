import Derived.Test.YtaglpcmhopjebaaGreatDoorT38
set_option linter.all false
set_option maxRecDepth 100000
set_option maxHeartbeats 20000000
namespace Go.Proofs
open Go.Tm Go.RowKit Go.ChangeShapes Go.WideShapes Go.ChangeAt Go.WideElems Go.Conc
theorem IH{a:Type}{Q:Nat->a->Prop}:∀(n),(∀i,i<n->∃x,Q i x)->∃l:List a,l.length=n/\∀i (h:i<l.length),Q i l[i]
 |0,_=>⟨[],rfl,λi h=>absurd h (Tt _)⟩
 |n+1,h=>by
  obtain⟨l,c,d⟩:=IH n λi b=>h i (by omega);obtain⟨x,e⟩:=h n (by omega);refine⟨l++[x],by simp[c],λi b=>?_⟩;rw[List.getElem_append];split
  ·exact d i _
  ·have:i=n:=by simp at b;omega
   subst this;simpa using e
def uw(W:World)(V:Value)(a:World):Prop:=V=.bool true/\a.os=W.os/\a.output=W.output/\W.heap.size<=a.heap.size/\∀b,b<W.heap.size->a.heap[b]? =W.heap[b]?
def uw.below{W a V}(h:uw W V a):Below W.heap.size W {a with os:=W.os,tape:=W.tape,output:=W.output}:=⟨rfl,rfl,rfl,h.2.2.2.1,h.2.2.2.2⟩
def laidOut:laidOutB Tryz.prog=true:=by kernel_rfl
def uw.kept{W a V}(h:uw W V a)(may):W.keptBut a may:=by refine⟨h.2.1,h.2.2.1,λi b=>?_⟩;rw[h.2.2.2.2 i b];split<;>simp_all
def uw.trod{H enc W c V}(h:uw W V c){t}(f:Tryz.prog.readableRec t=true)(a:t<Tryz.prog.types.size){v}{d:DataW H}{ps} (g:DataW.Trod enc Tryz.prog W 0 (λ_=>true) true t v d ps) (e:∀x∈ps,x.block<W.heap.size):DataW.Trod enc Tryz.prog c 0 (λb=>decide (b<W.heap.size)) true t v d ps:=
 DataW.Trod.of_heap (w:={c with os:=W.os,tape:=W.tape,output:=W.output}) (w':=c) (by rfl) (Below.trod laidOut f a g h.below e)
def TV.heap{σ b w' a q v V}(d:w'.heap=a.heap)(h:TV σ b w' q v V):TV σ b a q v V:=by cases h with|bool=>exact .bool _|int=>exact .int _ _|string=>exact .string _|iq=>exact .iq _ _|slice l c e f g=>exact .slice l c e f (d▸g)|empty=>exact .empty _ _
def Carry.heap{σ K c w w' a}(d:w'.heap=a.heap)(h:Carry σ K c w w'):Carry σ K c w a where
 fn:=h.fn
 cell b b' o v h1 h2 h3:=by obtain⟨f,e,g⟩:=h.cell b b' o v h1 h2 h3;exact⟨f,(by unfold World.cell? at e⊢;rw[<-d];exact e),g.heap d⟩
inductive NH(W:World):Value->Prop
 |one {v}:CV TT W true v->NH W v
 |agg {cs:Array Value}:fJ TT W cs->NH W (.agg cs)
def NI{W:World}{f:FuncId}(p:gy.ent f=true){args:Array Value}(d:iM W)(r:∀x∈args,NH W x) (j:∀w:World,w.heap.size=W.heap.size->Carry (λa b=>a=b) TT TT W w->(∀q v,CV TT W q v->TV (λa b=>a=b) TT w q v v)->iM w->Calls (Qs FM) f args w λe w'=>(e=.returned (.bool true)/\Below w.heap.size w w')\/∃v L,e=.panicked (iz v)/\dK w' v L):da Tryz.prog (uw W) (crowd #[G (Frame.enter Tryz.prog f args .normal) []] W none) #[]:=by let B:Nat->Prop:=λx=>∃c e F,W.heap[x]? =some (.cells c e F);have k:∀b,TT b->(∃c e F,W.heap[b]? =some (.cells c e F))->B b:=λb _ h=>h;refine M8 (W:=W) (B:=B) p (λx l=>?_) d.size (d.cells 0 (by decide)) (λg h=>d.cells g h) (λx l=>?_) λPr w m=>?_;obtain⟨c,e,F,s⟩:=l;exact⟨_,s,.inl ⟨c,e,F,rfl⟩⟩;(cases r x l with|one h=>exact h.self k|agg h=>refine .agg rfl λi x X l o=>?_;rw[l]at o;cases o;exact(h x (TU l)).self k);(have same:∀x:Nat,(cZ (idR gN B) Pr W).heap[x]? =w.heap[x]? :=λx=>by rw[m]);(have t:ae (cZ (idR gN B) Pr W) w:=λx c e F h=>(same x).symm.trans h;have n:w.heap.size=W.heap.size:=by rw[m,kJ]);have h:=j w n ((Carry.mask (G:=gN) (fz:=Pr) k).heap m.symm) (λq v h=>(TV.mask (G:=gN) (B:=B) (fz:=Pr) h).heap m.symm) ((d.mask).stays t (by rw[kJ,n];exact SU _));rw[n]at h;exact h
section
variable {H:Type} {enc:TypeId×Value->H} {W:World}
def gU(t:TypeId)(d:DataW H):Prop:=∀n∈d.weights Tryz.prog t,n<=reachBytes
theorem oJ{P e n}:∀{l:List (DataW H)} {d},d∈l->n∈d.weights P e->n∈DataW.weightsAll P e l
 |a::r,d,c,b=>by
  unfold DataW.weightsAll;obtain rfl|h:=Ts.1 c
  ·exact Vo _ b
  ·exact Wm _ (oJ h b)
theorem jF{P n}:∀{ts:List TypeId} {l:List (DataW H)} {i:Nat} {t d},ts[i]? =some t->l[i]? =some d->n∈d.weights P t->n∈DataW.weightsEach P ts l
 |t0::ts,d0::l,0,t,d,a,b,c=>by cases a;cases b;unfold DataW.weightsEach;exact Vo _ c
 |t0::ts,d0::l,i+1,t,d,a,b,c=>by unfold DataW.weightsEach;exact Wm _ (jF (i:=i) a b c)
def gU.field{t fs}{xs:List (DataW H×List MemPlace)}(a:Tryz.prog.underlying t=some (.struct fs))(h:gU t (.agg (xs.map (·.1)))){i:Nat}{f:Field}{x}(b:fs[i]? =some f)(c:xs[i]? =some x):gU f.type x.1:=λn e=>by refine h n ?_;unfold DataW.weights;rw[a];exact jF (i:=i) (t:=f.type) (d:=x.1) (by rw[Ut,T1,b];rfl) (by rw[Ut,c];rfl) e
def gU.elem{t e}{xs a:List (DataW H×List MemPlace)}(b:Tryz.prog.underlying t=some (.slice e))(h:gU t (.slice (xs.map (·.1)) (a.map (·.1)))){x}(c:x∈xs):gU e x.1:=λn d=>by refine h n ?_;unfold DataW.weights;rw[b];exact VD _ (Vo _ (oJ (List.mem_map_of_mem c) d))
def Reads{c:Type}(enc:TypeId×Value->H)(W:World)(e:TypeId)(d:Nat)(E:(Nat->Prop)->World->Nat->Nat->c->Prop)(R:c->Prop):Prop:=∀(fuel:Nat) (cs:List Value) (x:DataW H×List MemPlace) (b a:Nat),DataW.trod enc Tryz.prog W 0 (λ_=>true) true fuel e cs=some x->(∀i,i<d->W.cell? ⟨b,a+i,none⟩=cs[i]?)->cs.length=d->gU e x.1->∃y:c,E TT W b a y/\R y
def KC{w:World}{a:Addr}{v}(h:w.cell? a=some v):a.spot=none/\∃c e F,w.heap[a.block]? =some (.cells c e F):=by unfold World.cell? at h;split at h;rename_i c e F b;split at h;cases h;rename_i d;exact⟨by simpa using d,_,_,_,b⟩;cases h
def mD{C:Type}{t e B E}{R:C->Prop}(Q:Tryz.prog.underlying t=some (.slice e))(D:Tryz.prog.cellsOf e=B)(U:0<B)(V:Reads enc W e B E R){fuel:Nat}{v x} (h:DataW.trod enc Tryz.prog W 0 (λ_=>true) true fuel t [v]=some x) (X:gU t x.1):∃l:List C,aE TT B E W v l/\∀y∈l,R y:=by obtain⟨g,_⟩|⟨a,len,cap,G,rest,n,rfl,g,rfl,_,Y,Z,S,q,I,_⟩:=DataW.trod_slice Q h;cases g;exact⟨[],⟨none,0,rfl,SU _,by decide,.inl rfl,λk m=>absurd m (by simp)⟩,λy r=>by cases r⟩;cases g;subst D;by_cases hc:cap=0;subst hc;(obtain rfl:len=0:=by omega);exact⟨[],⟨some a,0,rfl,SU _,by decide,.inl rfl,λk m=>absurd m (by simp)⟩,λy r=>by cases r⟩;(have o:∃cs,W.cells? 0 a (Tryz.prog.cellsOf e)=some cs:=by by_cases J:0<len;have d:=q 0 J;rw[TA (by omega),Ul]at d;obtain⟨cs,d,_⟩:=d;rw[UP]at d;exact⟨cs,d⟩;obtain⟨d,K⟩:=I rfl;have s:=K 0 (by omega);rw[TA (by omega),Ul]at s;obtain⟨cs,s,_⟩:=s;rw[show len+0=0 by omega,UP]at s;exact⟨cs,s⟩);(obtain⟨cs,m⟩:=o;obtain⟨_,aa,L⟩:=World.cells?_some m;have u:=L 0 U;rw[TA (by omega)]at u;obtain⟨M,f⟩:=KC u;obtain⟨b,p,w⟩:=a;have M:w=none:=M;subst M;have f:∃c e F,W.heap[b]? =some (.cells c e F):=f;have z:∀i,i<len->∃y:C,E TT W b (p+i*Tryz.prog.cellsOf e) y/\R y:=λi N=>by have d:=q i N;rw[TA (by omega),Ul]at d;obtain⟨cs,d,K⟩:=d;rw[e9]at d;obtain⟨_,O,P⟩:=World.cells?_some d;exact V _ cs _ b _ K (λj hj=>by have:=P j hj;rw[e9]at this;exact this) O (X.elem Q (Ti _)));obtain⟨l,A,T⟩:=IH len z;refine⟨l,⟨some ⟨b,p,none⟩,cap,by rw[A],by rw[A];exact Y,by unfold maxLen at Z;omega,.inr λa h=>?_,λk m=>⟨b,p,rfl,(T k m).1⟩⟩,λy r=>?_⟩;cases h;exact⟨rfl,trivial,f⟩;obtain⟨i,N,rfl⟩:=UR r;exact(T i N).2
end
def sg:Tryz.prog.cellsOf 9=1:=by kernel_rfl
def KD:Tryz.prog.cellsOf 46=2:=by kernel_rfl
def KE:Tryz.prog.cellsOf 51=2:=by kernel_rfl
def KF:Tryz.prog.cellsOf 50=2:=by kernel_rfl
def KG:Tryz.prog.cellsOf 48=1:=by kernel_rfl
def KH:Tryz.prog.cellsOf 92=1:=by kernel_rfl
def KI:Tryz.prog.cellsOf 22=1:=by kernel_rfl
def KJ:Tryz.prog.cellsOf 23=1:=by kernel_rfl
def KL:Tryz.prog.cellsOf 24=1:=by kernel_rfl
def KM:Tryz.prog.cellsOf 26=3:=by kernel_rfl
section
variable {H:Type} {enc:TypeId×Value->H} {W:World}
def o9{t:TypeId}{s:ByteArray}(h:gU (H:=H) t (.lit (.string s.data.toList))):s.size<=140737488351232:=by have:=h s.data.toList.length (by unfold DataW.weights;exact UE.2 rfl);rw[Lib.size_eq];exact SV this (by decide)
def KN:Reads enc W 9 1 ks λs=>s.size<=140737488351232:=by intro fuel cs x b a h c e d;obtain⟨s,rfl,rfl,_⟩:=DataW.trod_string Tryz.underlying9 h;exact⟨s,c 0 (by decide),o9 d⟩
def xU{e n0 o q r s t u v w y}(d:Tryz.prog.underlying e=some (.struct #[⟨n0,9,0,o,q,r,s⟩,⟨t,9,1,u,v,w,y⟩])):Reads enc W e 2 dB λp=>p.1.size<=140737488351232/\p.2.size<=140737488351232:=by (intro fuel cs x b z h g A j;obtain⟨xs,m,rfl,rfl,_,f,k⟩:=DataW.trod_struct d h;obtain⟨a,c,rfl⟩:∃a c,cs=[a,c]:=by match cs,A with| [a,c],_=>exact⟨a,c,rfl⟩);(obtain⟨x0,x1,rfl⟩:∃x0 x1,xs=[x0,x1]:=by match xs,f with| [x0,x1],_=>exact⟨x0,x1,rfl⟩);have l:DataW.trod enc Tryz.prog W 0 (λ_=>true) true m 9 (([a,c].drop 0).take (Tryz.prog.cellsOf 9))=some x0:=k 0 _ rfl;have n:DataW.trod enc Tryz.prog W 0 (λ_=>true) true m 9 (([a,c].drop 1).take (Tryz.prog.cellsOf 9))=some x1:=k 1 _ rfl;have B:gU 9 x0.1:=j.field d (i:=0) rfl rfl;have C:gU 9 x1.1:=j.field d (i:=1) rfl rfl;rw[sg]at l n;obtain⟨D,e0,rfl,_⟩:=DataW.trod_string Tryz.underlying9 l;obtain⟨E,e1,rfl,_⟩:=DataW.trod_string Tryz.underlying9 n;cases e0;cases e1;exact⟨(D,E),⟨g 0 (by decide),g 1 (by decide)⟩,o9 B,o9 C⟩
def Cd:Reads enc W 50 2 fA λt=>t.name.size<=140737488351232/\∀p∈t.aU,p.1.size<=140737488351232/\p.2.size<=140737488351232:=by (intro fuel cs x b n h e o f;obtain⟨xs,m,rfl,rfl,_,d,g⟩:=DataW.trod_struct Tryz.underlying50 h;obtain⟨c,a,rfl⟩:∃c a,cs=[c,a]:=by match cs,o with| [c,a],_=>exact⟨c,a,rfl⟩);(obtain⟨x0,x1,rfl⟩:∃x0 x1,xs=[x0,x1]:=by match xs,d with| [x0,x1],_=>exact⟨x0,x1,rfl⟩);have j:DataW.trod enc Tryz.prog W 0 (λ_=>true) true m 9 (([c,a].drop 0).take (Tryz.prog.cellsOf 9))=some x0:=g 0 _ rfl;have k:DataW.trod enc Tryz.prog W 0 (λ_=>true) true m 48 (([c,a].drop 1).take (Tryz.prog.cellsOf 48))=some x1:=g 1 _ rfl;have q:gU 9 x0.1:=f.field Tryz.underlying50 (i:=0) rfl rfl;have r:gU 48 x1.1:=f.field Tryz.underlying50 (i:=1) rfl rfl;rw[sg]at j;rw[KG]at k;obtain⟨s,e0,rfl,_⟩:=DataW.trod_string Tryz.underlying9 j;cases e0;obtain⟨l,u,v⟩:=mD Tryz.underlying48 KE (by decide) (xU Tryz.underlying51) k r;exact⟨⟨s,l⟩,⟨e 0 (by decide),a,e 1 (by decide),u⟩,o9 q,v⟩
def EP:Reads enc W 92 1 js λg=>∀s∈g,s.size<=140737488351232:=by (intro fuel cs x b c h d e f;obtain⟨a,rfl⟩:∃a,cs=[a]:=by match cs,e with| [a],_=>exact⟨a,rfl⟩);obtain⟨l,i,j⟩:=mD Tryz.underlying92 sg (by decide) KN h f;exact⟨l,⟨a,d 0 (by decide),i⟩,j⟩
def si{t e v i}(j:Tryz.prog.underlying t=some (.slice e))(g:Cell.okWide Tryz.prog W .any i t v):CV TT W true v:=by (have b:Cell.ok Tryz.prog W .any i t v:=by unfold Cell.okWide at g;rw[j]at g;exact g);unfold Cell.ok at b;rw[j]at b;split at b<;>simp_all;(exact .slice _ _ λa h=>by cases h);rename_i a len cap _;obtain⟨_,_,_,d,row,cells,f,_⟩:=b;refine .slice _ _ λk h=>?_;cases h;refine⟨d,trivial,?_⟩;unfold World.shape? at f;split at f;rename_i c e F h;exact⟨c,e,F,h⟩;cases f
def Hm{v:Value}{d p q}(a:Value.okWide Tryz.prog W .any q 26 v)(r:DataW.Trod enc Tryz.prog W 0 (λ_=>true) true 26 v d p)(c:gU 26 d):∃v0 v1 v2 t,v=.agg #[v0,v1,v2]/\IsTable TT W v0 v1 v2 t/\Ca t/\fJ TT W #[v0,v1,v2]:=by (obtain⟨fuel,e⟩:=r;unfold Value.okWide at a;rw[Tryz.underlying26]at a;obtain⟨cs,rfl,b,ts,k,_,f⟩:=a;rw[KM]at b;obtain⟨cs⟩:=cs;obtain⟨v0,v1,v2,rfl⟩:∃v0 v1 v2,cs=[v0,v1,v2]:=by match cs,b with| [s,u,w],_=>exact⟨s,u,w,rfl⟩);(have g:Tryz.prog.cellTypes Tryz.prog.depth 26=some [22,23,24]:=by kernel_rfl);(rw[g]at k;cases k;obtain⟨_,e0,x⟩:=f 0 v0 rfl;obtain⟨_,e1,y⟩:=f 1 v1 rfl;obtain⟨_,z,A⟩:=f 2 v2 rfl;cases e0;cases e1;cases z;obtain⟨xs,m,rfl,B,_,h,j⟩:=DataW.trod_struct Tryz.underlying26 e;cases B;obtain⟨x0,x1,x2,rfl⟩:∃x0 x1 x2,xs=[x0,x1,x2]:=by match xs,h with| [x0,x1,x2],_=>exact⟨x0,x1,x2,rfl⟩);have l:DataW.trod enc Tryz.prog W 0 (λ_=>true) true m 22 (([v0,v1,v2].drop 0).take (Tryz.prog.cellsOf 22))=some x0:=j 0 _ rfl;have n:DataW.trod enc Tryz.prog W 0 (λ_=>true) true m 23 (([v0,v1,v2].drop 1).take (Tryz.prog.cellsOf 23))=some x1:=j 1 _ rfl;have o:DataW.trod enc Tryz.prog W 0 (λ_=>true) true m 24 (([v0,v1,v2].drop 2).take (Tryz.prog.cellsOf 24))=some x2:=j 2 _ rfl;have C:gU 22 x0.1:=c.field Tryz.underlying26 (i:=0) rfl rfl;have D:gU 23 x1.1:=c.field Tryz.underlying26 (i:=1) rfl rfl;have E:gU 24 x2.1:=c.field Tryz.underlying26 (i:=2) rfl rfl;rw[KI]at l;rw[KJ]at n;rw[KL]at o;obtain⟨F,r0,k0⟩:=mD Tryz.underlying22 KD (by decide) (xU Tryz.underlying46) l C;obtain⟨a1,G,k1⟩:=mD Tryz.underlying23 KF (by decide) Cd n D;obtain⟨I,J,K⟩:=mD Tryz.underlying24 KH (by decide) EP o E;refine⟨v0,v1,v2,⟨F,a1,I⟩,rfl,⟨r0,G,J⟩,⟨k0,k1,K⟩,λv a=>?_⟩;simp only[T3,Ts,TB,TC]at a;obtain rfl|rfl|rfl:=a;exact si Tryz.underlying22 x;exact si Tryz.underlying23 y;exact si Tryz.underlying24 A
end
def ER:Tryz.prog.cellsOf 3=1:=by kernel_rfl
def NJ:Tryz.prog.cellsOf 4=1:=by kernel_rfl
def KO:Tryz.prog.cellsOf 36=1:=by kernel_rfl
def KP:Tryz.prog.cellsOf 38=5:=by kernel_rfl
section
variable {H:Type} {enc:TypeId×Value->H} {W:World}
def KQ:Reads enc W 3 1 dj λ_=>True:=by intro fuel cs x b a h c d e;obtain⟨n,rfl,rfl,_⟩:=DataW.trod_int Tryz.underlying3 h;exact⟨n,c 0 (by decide),trivial⟩
def Ak{v:Value}{d p s}(c:Value.okWide Tryz.prog W .any s 38 v)(t:DataW.Trod enc Tryz.prog W 0 (λ_=>true) true 38 v d p)(u:gU 38 d):∃mc m,v=.agg mc/\bq TT W mc m/\fJ TT W mc:=by (obtain⟨fuel,g⟩:=t;unfold Value.okWide at c;rw[Tryz.underlying38]at c;obtain⟨cs,rfl,e,ts,k,_,w⟩:=c;rw[KP]at e;obtain⟨cs⟩:=cs;obtain⟨v0,v1,v2,a,b,rfl⟩:∃v0 v1 v2 a b,cs=[v0,v1,v2,a,b]:=by match cs,e with| [x,y,z,A,B],_=>exact⟨x,y,z,A,B,rfl⟩);(have h:Tryz.prog.cellTypes Tryz.prog.depth 38=some [9,9,36,3,4]:=by kernel_rfl);(rw[h]at k;cases k;obtain⟨_,C,D⟩:=w 2 v2 rfl;cases C;obtain⟨xs,m,rfl,E,_,j,f⟩:=DataW.trod_struct Tryz.underlying38 g;cases E;obtain⟨x0,x1,x2,x3,x4,rfl⟩:∃x0 x1 x2 x3 x4,xs=[x0,x1,x2,x3,x4]:=by match xs,j with| [x0,x1,x2,x3,x4],_=>exact⟨x0,x1,x2,x3,x4,rfl⟩);have l:DataW.trod enc Tryz.prog W 0 (λ_=>true) true m 9 (([v0,v1,v2,a,b].drop 0).take (Tryz.prog.cellsOf 9))=some x0:=f 0 _ rfl;have n:DataW.trod enc Tryz.prog W 0 (λ_=>true) true m 9 (([v0,v1,v2,a,b].drop 1).take (Tryz.prog.cellsOf 9))=some x1:=f 1 _ rfl;have o:DataW.trod enc Tryz.prog W 0 (λ_=>true) true m 36 (([v0,v1,v2,a,b].drop 2).take (Tryz.prog.cellsOf 36))=some x2:=f 2 _ rfl;have q:DataW.trod enc Tryz.prog W 0 (λ_=>true) true m 3 (([v0,v1,v2,a,b].drop 3).take (Tryz.prog.cellsOf 3))=some x3:=f 3 _ rfl;have r:DataW.trod enc Tryz.prog W 0 (λ_=>true) true m 4 (([v0,v1,v2,a,b].drop 4).take (Tryz.prog.cellsOf 4))=some x4:=f 4 _ rfl;have F:gU 36 x2.1:=u.field Tryz.underlying38 (i:=2) rfl rfl;rw[sg]at l n;rw[KO]at o;rw[ER]at q;rw[NJ]at r;obtain⟨G,e0,rfl,_⟩:=DataW.trod_string Tryz.underlying9 l;obtain⟨I,e1,rfl,_⟩:=DataW.trod_string Tryz.underlying9 n;obtain⟨n3,e3,rfl,_⟩:=DataW.trod_int Tryz.underlying3 q;obtain⟨J,e4,rfl⟩:=DataW.trod_bool Tryz.underlying4 r;cases e0;cases e1;cases e3;cases e4;obtain⟨K,L,_⟩:=mD Tryz.underlying36 ER (by decide) KQ o F;refine⟨_,⟨G,I,K,n3,J⟩,rfl,⟨v2,rfl,L⟩,λv c=>?_⟩;simp only[T3,Ts,TB,TC]at c;obtain rfl|rfl|rfl|rfl|rfl:=c;exact .string _;exact .string _;exact si Tryz.underlying36 D;exact .int _ _;exact .bool _
def bq.carry{w w':World}{mc m}(d:Carry (λa b=>a=b) TT TT w w')(e:∀q v,CV TT w q v->TV (λa b=>a=b) TT w' q v v)(h:bq TT w mc m):bq TT w' mc m:=by obtain⟨f,rfl,c⟩:=h;exact⟨f,rfl,c.carry (dj.carry d) (e _ _ c.cv)⟩
end
end Go.Proofs
namespace Go.Proofs
open Go.Tm Go.RowKit
variable {fs:Array Func} (L:bQ fs)
def yR(s r:ByteArray)(w:World)(g:s.size<=1000)(d:r.size<=1000):Calls (Qs fs) 243 #[.string s,.string r] w λe w'=>e=.returned (.bool (r.data.toList.isSuffixOf s.data.toList))/\w'=w:=by
 have b:Hid _:=Lib.hasSuffix_raw s r;obtain h|h:=S6 s.size r.size
 ·have f:decide ((r.size:Int)<=(s.size:Int))=false:=S9 (by omega);have c:decide (r.size<=s.size)=false:=S9 (by omega);have a:Hid (r.data.toList.isSuffixOf s.data.toList=false):=by have:=b.out;rw[S9 (by omega),Wv]at this;exact this.symm
  clear h b;go_enter (n243 L),Tryz.ntmps243;go_wp2;go_ret;exact⟨by rw[a.out];rfl,rfl⟩
 have f:(r.size:Int)<=(s.size:Int):=by omega
 have c:r.size<=s.size:=h;have a:Hid (((s.extract (s.size-r.size) s.size).toList==r.toList)=r.data.toList.isSuffixOf s.data.toList):=by have:=b.out;rw[Ta h,Vh]at this;exact this
 clear h b;go_enter (n243 L),Tryz.ntmps243;go_wp2;go_ret;exact⟨by rw[<-a.out];rfl,rfl⟩
def ux(s r:ByteArray)(w:World)(d:s.size<=1000)(a:r.size<=1000):Calls (Qs fs) 239 #[.string s,.string r] w λe w'=>e=.returned (.bool (r.data.toList.isSuffixOf s.data.toList))/\w'=w:=by have Rc:=Rc L;have c:=yR L s r w d a;obtain⟨z,b⟩:=ex (r.data.toList.isSuffixOf s.data.toList);rw[<-b]at c⊢;clear b;go_enter (n239 L),Tryz.ntmps239;go_wp2_with (first|(go_at_call 243;refine c.mono ?_;clear c;rintro e w2 ⟨rfl,rfl⟩));go_ret;exact⟨rfl,rfl⟩
def vo{x y:ByteArray}(h:¬y.size<x.size):jL x.data.toList y.data.toList=if x.size<3 then 0 else if(!x.data.toList.isPrefixOf y.data.toList&& !x.data.toList.isSuffixOf y.data.toList)=true then 0 else(100*x.size:Int)/y.size:=by unfold jL;rw[<-Lib.size_eq,<-Lib.size_eq,SQ h];simp only[];rw[<-Lib.size_eq,<-Lib.size_eq];by_cases a:x.size<3;rw[SS a,Ta a];rfl;rw[SQ a,S9 a];simp only[Vn]
def Pj{K:Nat->Prop}{v0 v1 v2:Value}{t:Table}{m1 m2:Array Value}{one two:Mark}(w:World)(ht:IsTable K w v0 v1 v2 t)(C:OkT t)(p:bq K w m1 one)(q:bq K w m2 two)(o1:OkM one)(o2:OkM two):Calls (Qs fs) 238 #[.agg #[v0,v1,v2],.agg m1,.agg m2] w λe w'=>e=.returned (.int .i64 (jL (aI t.aq one.word.data.toList) (aI t.aq two.word.data.toList)))/\Below w.heap.size w w':=by
 have e53:=e53 L;have NW:=NW L;have Q9:=Q9 L;obtain⟨f1,rfl,r1⟩:=p;obtain⟨f2,rfl,r2⟩:=q;obtain⟨w1,j⟩:=ex (((w.alloc (.cells #[v0,v1,v2] 100)).alloc (.cells #[.string one.name,.string one.word,f1,.int .i64 one.day,.bool one.known] 38)).alloc (.cells #[.string two.name,.string two.word,f2,.int .i64 two.day,.bool two.known] 38));obtain⟨S1,B1,ct,c1,c2⟩:=eQ w _ _ _ _ _ _ w1 j;have D:=ct 0 _ rfl;have E:=ct 1 _ rfl;have F:=ct 2 _ rfl;have a1:=c1 1 _ rfl;have G:=c2 1 _ rfl;have hT:=ht.stays S1;obtain⟨N0,H⟩:=ex (w.heap.size);obtain⟨N1,p⟩:=ex (w.heap.size+1);obtain⟨N2,q⟩:=ex (w.heap.size+1+1);rw[<-q]at G;rw[<-p]at a1;rw[<-H]at D E F;have BW:Hid (Below w.heap.size w w1):=B1;have k:=cP C one.word.data.toList;have l:=cP C two.word.data.toList;rw[<-Lib.size_eq,<-bR]at k l;have I:∀(s:ByteArray),s.size<=16->∀x:aj w w1,Calls (Qs fs) 53 #[.agg #[v0,v1,v2],.string s] x.val λe w'=>e=.returned (.string (bs (aI t.aq s.data.toList)))/\∃y:aj w w1,w'=y.val:=λs hs x=>aj.calls (pZ L s x.val (hT.stays x.st).1 C.lets (by omega));have J:=I one.word o1.word;have M:=I two.word o2.word;have N:=o1.word;have O:=o2.word;obtain⟨A,P⟩:=ex (bs (aI t.aq one.word.data.toList));obtain⟨B,Q⟩:=ex (bs (aI t.aq two.word.data.toList));have r:A.data.toList=aI t.aq one.word.data.toList:=by rw[P,dh]
 have u:B.data.toList=aI t.aq two.word.data.toList:=by rw[Q,dh]
 rw[<-P]at k J;rw[<-Q]at l M;rw[<-r,<-u];obtain⟨zz,a⟩:=ex (jL A.data.toList B.data.toList);rw[<-a];have aa:A.size<=48:=by omega
 have ab:B.size<=48:=by omega
 have R:=λx:aj w w1=>x.cell D;have S:=λx:aj w w1=>x.cell E;have T:=λx:aj w w1=>x.cell F;have U:=λx:aj w w1=>x.cell a1;have V:=λx:aj w w1=>x.cell G;clear P Q r u k l N O I hT ht r1 r2 ct c1 c2 S1 B1;go_enter (n238 L),Tryz.ntmps238;go_upto_region 1 with fail;rw[<-j,<-q,<-p,<-H];clear j H p q;refine aZ (w0:=w) (w1:=w1) (by kernel_rfl) (by kernel_rfl) (ae.refl _) BW.out ?_;haveI W:Nonempty (aj w w1):=⟨⟨w1,ae.refl _,BW.out⟩⟩
 repeat (go_big_quiet_step (first|(go_at_call 53;exact J _)|(go_at_call 53;exact M _)))
 refine wpQuiet_nil ?_;rintro i ⟨⟨_,Sx,Bx⟩,rfl⟩;have z:Hid _:=Bx;clear J M R S T U V W D E F a1 G Bx Sx;obtain v|hge:=S6 B.size A.size
 ·have m:(B.size:Int)<(A.size:Int):=by omega
  go_upto_region 4 with fail;have c:¬A.size<B.size:=by omega
  have a:=a.trans (yW v);clear v m;by_cases h:B.size<3
  ·(have n:(B.size:Int)<3:=by omega);have g:zz=0:=a.trans ((vo c).trans (SS h));subst g;clear h a c;go_wp2;go_ret;exact⟨rfl,z.out⟩
  have n:decide ((B.size:Int)<3)=false:=S9 (by omega);have g:=a.trans ((vo c).trans (SQ h));have X:(A.size:Int)≠0:=by omega
  have d:=λi=>nI L A B i;have f:=λi=>ux L A B i (by omega) (by omega);obtain⟨Y,e1⟩:=ex (B.data.toList.isPrefixOf A.data.toList);obtain⟨Z,o⟩:=ex (B.data.toList.isSuffixOf A.data.toList);simp only[<-e1]at d;simp only[<-o]at f;rw[<-e1,<-o]at g;have HV:Hid _:=g;clear e1 o h g a c;cases Y<;>cases Z;all_goals (
   go_wp2_with (first|(go_at_call 133;refine(d _).mono ?_;rintro e w' ⟨rfl,b⟩;rw[b];clear b)|(go_at_call 239;refine(f _).mono ?_;rintro e w' ⟨rfl,b⟩;rw[b];clear b))
   go_ret;exact⟨by rw[HV.out];rfl,z.out⟩)
 have m:decide ((B.size:Int)<(A.size:Int))=false:=S9 (by omega);go_upto_region 4 with fail;have c:¬B.size<A.size:=by omega
 clear hge m;by_cases h:A.size<3
 ·have n:(A.size:Int)<3:=by omega
  have g:zz=0:=a.trans ((vo c).trans (SS h));subst g;clear h a c;go_wp2;go_ret;exact⟨rfl,z.out⟩
 have n:decide ((A.size:Int)<3)=false:=S9 (by omega);have g:=a.trans ((vo c).trans (SQ h));have X:(B.size:Int)≠0:=by omega
 have d:=λi=>nI L B A i;have f:=λi=>ux L B A i (by omega) (by omega);obtain⟨Y,e1⟩:=ex (A.data.toList.isPrefixOf B.data.toList);obtain⟨Z,o⟩:=ex (A.data.toList.isSuffixOf B.data.toList);simp only[<-e1]at d;simp only[<-o]at f;rw[<-e1,<-o]at g;have HV:Hid _:=g;clear e1 o h g a c;cases Y<;>cases Z;all_goals (
  go_wp2_with (first|(go_at_call 133;refine(d _).mono ?_;rintro e w' ⟨rfl,b⟩;rw[b];clear b)|(go_at_call 239;refine(f _).mono ?_;rintro e w' ⟨rfl,b⟩;rw[b];clear b))
  go_ret;exact⟨by rw[HV.out];rfl,z.out⟩)
def Qp:fQ fs 4:=λK v0 v1 v2 t m1 m2 one two w a b c d e f g=>Pj L w a b c d e f
def KV{K:Nat->Prop}{F G:Value}{a b:List Int}(w:World)(T:aE K 1 dj w F a)(U:aE K 1 dj w G b):Calls (Qs fs) 27 #[F,G] w λe w'=>e=.returned (.bool (decide (a=b)))/\Below w.heap.size w w':=by
 obtain⟨ao,ca,rfl,V,W,_,r⟩:=T;obtain⟨bo,cb,rfl,X,Y,_,t⟩:=U;by_cases o:a.length=b.length
 ·have d0:((a.length:Int)!=(b.length:Int))=false:=by simp[o]
  have Z:Hid _:=r;have HB:Hid _:=t;have H:Hid _:=o;clear r t;have aa:(a.length:Int)=(b.length:Int):=by omega
  clear o d0;go_enter (n27 L),Tryz.ntmps27;go_wp2;go_loopw [5] (λs wr=>∃k:Nat,k<=a.length/\s=.int .i64 k/\a.take k=b.take k/\Below w.heap.size w wr) (λs _=>a.length-(intOf s).toNat);case atStart=>exact⟨0,Tb _,rfl,rfl,Below.refl _ _⟩
  case round=>
   obtain⟨k,hk,rfl,I,i⟩:=hrel;have J:Hid _:=I;have HW:Hid _:=i;have u:=ae.below i;clear I i;obtain j|hge:=S6 k a.length
   ·have f:k<b.length:=H.out▸j;(obtain⟨M,N,rfl,l⟩:=Z.out k j;obtain⟨O,P,rfl,m⟩:=HB.out k f;rw[TY]at l m;have l:wr.cell? ⟨M,N+k,none⟩=some (.int .i64 a[k]):=u.cell l;have m:wr.cell? ⟨O,P+k,none⟩=some (.int .i64 b[k]):=u.cell m;obtain⟨x,v⟩:=ex (a[k]);obtain⟨y,A⟩:=ex (b[k]);rw[<-v]at l;rw[<-A]at m;have Q:∀z:aj w wr,z.val.cell? ⟨M,N+k,none⟩=some (.int .i64 x):=λz=>z.st.cell l;have R:∀z:aj w wr,z.val.cell? ⟨O,P+k,none⟩=some (.int .i64 y):=λz=>z.st.cell m;have ab:(k:Int)<(a.length:Int):=by omega);(have ad:(k:Int)<(b.length:Int):=by omega);(have c:Hid (x=a[k]/\y=b[k]):=⟨v,A⟩);clear v A u;by_cases d:x=y
    ·(have S:a.take (k+1)=b.take (k+1):=by rw[UL j,UL f,J.out,<-c.out.1,<-c.out.2,d]);(have B:Hid _:=S;subst d;clear S;go_upto_region 6 with fail;refine aZ (w0:=w) (w1:=wr) (by kernel_rfl) (by kernel_rfl) (ae.refl _) HW.out ?_;haveI n:Nonempty (aj w wr):=⟨⟨wr,ae.refl _,HW.out⟩⟩);(repeat (go_big_quiet_step (fail)));refine wpQuiet_nil ?_;rintro wz ⟨⟨_,C,p⟩,rfl⟩;have D:Hid _:=p;clear n C p l m Q R;go_wp2;exact⟨⟨k+1,by omega,by go_num,B.out,D.out⟩,by simp[intOf];omega⟩
    (have af:(x !=y)=true:=by simpa using d);(have g:decide (a=b)=false:=S9 λe=>d (by rw[c.out.1,c.out.2];subst e;rfl);have q:Hid _:=g;clear g;go_upto_region 6 with fail;refine aZ (w0:=w) (w1:=wr) (by kernel_rfl) (by kernel_rfl) (ae.refl _) HW.out ?_;haveI n:Nonempty (aj w wr):=⟨⟨wr,ae.refl _,HW.out⟩⟩);(repeat (go_big_quiet_step (fail)));refine wpQuiet_nil ?_;rintro wz ⟨⟨_,C,p⟩,rfl⟩;have D:Hid _:=p;clear n C p l m Q R;go_wp2;go_ret;exact⟨by rw[q.out];rfl,D.out⟩
   (have E:k=a.length:=by omega);have g:decide (a=b)=true:=Ta (by have:=J.out;rw[E,Uo,H.out,Uo]at this;exact this);have q:Hid _:=g;clear g;go_wp2;go_ret;exact⟨by rw[q.out];rfl,HW.out⟩
 have d0:((a.length:Int)!=(b.length:Int))=true:=by simpa usingλh=>o (by omega)
 have g:decide (a=b)=false:=S9 λe=>o (by rw[e]);have q:Hid _:=g;clear g r t;go_enter (n27 L),Tryz.ntmps27;go_wp2;go_ret;exact⟨by rw[q.out];rfl,Below.refl _ _⟩
end Go.Proofs
namespace Go.Proofs
open Go.Tm Go.RowKit
def mE{m:Mark}(h:dH m=0):m.aJ.Nodup:=by rw[ET]at h;split at h;cases h;split at h;cases h;split at h;rename_i f;exact absurd h f;rename_i e;(have e:bh 0 5 codeF m.aJ=0:=by simpa using e);(have k:=(gz e).2;generalize m.aJ=l at*;have step:∀j (c:j+1<l.length),l[j]<l[j+1]:=λj c=>by have:=k (j+1) c;rw[AP l j (by omega)]at this;split at this;cases this;split at this;cases this;rename_i g;(have g:¬l[j+1]<=l[j]:=by simpa using g);omega);(have mono:∀(d i:Nat) (c:i+d+1<l.length),l[i]<l[i+d+1]:=by intro d;induction d with|zero=>exactλi c=>step i c|succ d n=>intro i c;have a:=n i (by omega);have b:=step (i+d+1) (by omega);exact Int.lt_trans a b);rw[List.nodup_iff_pairwise_ne,WS];intro i j p c o q;have:=mono (j-i-1) i (by omega);simp only[show i+(j-i-1)+1=j by omega]at this;omega
def II{fs}(L:bQ fs){t k one two}(h:ej t k one two=0)(n:Nat)(d:k=n):xO fs n one two:=by (obtain⟨_,e,a,b⟩:=jX h;have c:n<6:=by omega);match n,c with|0,_=>exact(F3 L).at _ _|1,_=>exact(LP L).at _ _|2,_=>exact(LQ L).at _ _|3,_=>exact(F4 L).at _ _|4,_=>exact(Qp L).at _ _|5,_=>exact Ns L (mE a) (mE b)
end Go.Proofs

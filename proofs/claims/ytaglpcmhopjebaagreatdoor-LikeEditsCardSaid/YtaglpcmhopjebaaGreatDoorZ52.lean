import Derived.Test.YtaglpcmhopjebaaGreatDoorTie
import Derived.Test.YtaglpcmhopjebaaGreatDoorCards
import Derived.SevenTiedAt
import Derived.JoinedOf
import Derived.KernelRfl
import Derived.Test.YtaglpcmhopjebaaGreatDoorZ51
set_option linter.all false
set_option maxRecDepth 100000
set_option maxHeartbeats 20000000
namespace Go.Proofs.YtaglpcmhopjebaaGreatDoor
open Go.Proofs Go.Tm Go.RowKit Go.ChangeShapes Go.WideShapes Go.ChangeAt Go.WideElems Go.Conc
def Gs{W}(a b){v l}(d:aE (jX v) 3 (dI .u8) W v l)(f:jG W)(t:gp W):
 dh Tryz.prog (xB W) (crowd #[G (Frame.enter Tryz.prog 13 #[.string a,.string b,v] .normal) []] W none) #[]:=by
 obtain⟨q,u,k⟩:=t;obtain⟨es,i,H,I⟩:=k.ints;have m:∀x,jX v x->∃c e F,W.heap[x]? =some (.cells c e F):=λx ⟨o,n,c,e⟩=>by obtain⟨ao,c',rfl,_,_,J,_⟩:=d;cases e;exact(J _ rfl).2.2
 refine LC (W:=W) (B:=λx=>x<5\/x=q\/jX v x) (by kernel_rfl) (λx r=>?_) f.size (λg h=>.inl h) (λx r=>?_) λPr w C=>?_
 ·obtain h|rfl|h:=r
  ·obtain⟨c,e,F,A⟩:=f.cells x h
   exact⟨_,A,.inl ⟨c,e,F,rfl⟩⟩
  ·exact⟨_,H,.inr ⟨es,i,rfl,I⟩⟩
  ·obtain⟨c,e,F,A⟩:=m x h
   exact⟨_,A,.inl ⟨c,e,F,rfl⟩⟩
 ·simp only[SP,RX,R9,Sd]at r
  obtain rfl|rfl|rfl:=r
  ·exact .string _
  ·exact .string _
  ·exact LF d λx h=>.inr (.inr h)
 ·have same:∀x:Nat,(cE (idR gN λx=>x<5\/x=q\/jX v x) Pr W).heap[x]? =w.heap[x]? :=λx=>by rw[C]
  have s:ae (cE (idR gN λx=>x<5\/x=q\/jX v x) Pr W) w:=λx c e F h=>(same x).symm.trans h;have D:w.heap.size=W.heap.size:=by rw[C,kC]
  have j:aE (jX v) 3 (dI .u8) w v l:=(d.LD).stays s λx y o z e h=>by subst e;exact h.keep s
  have p:gp w:=by obtain⟨E,K,L⟩:=gp.mask (G:=gN) (B:=λx=>x<5\/x=q\/jX v x) (fz:=Pr) u k (.inr (.inl rfl));exact⟨E,s.cell K,L.keep (same E).symm⟩
  have h:=Er a b w j p ((f.mask).stays s (by rw[kC,D];exact Ro _));rw[D]at h;exact h
def tG(os)(d:os.Started)(H)(enc:TypeId×Value->H):
 ReturnsInLeavingWide {} Tryz.checked os 13 .any (λw args=>(Rows.likeEditsSpec.pre enc Tryz.prog Tryz.f13 [] false w args/\laidMetH Tryz.prog Rows.likeEditsRow.laid w)/\sizedMet enc Tryz.prog Tryz.f13 (OpenSpec.ofChange Rows.likeEditsSpec) false w args)
  (Rows.likeEditsSpec.post enc Tryz.prog Tryz.f13 false true false false):=by
 refine ox (C:=Tryz.checked) (X:=λw _=>laidMetH Tryz.prog Rows.likeEditsRow.laid w) (λ_ _ _ F h=>h.of_heap F) own d Tryz.func13 ?_ ?_
 ·exact ChangeSpec.witness_shaped (enc:=enc) (C:=Tryz.checked) (os:=os) (X:=λw _=>laidMetH Tryz.prog Rows.likeEditsRow.laid w) false (NN os) #[.string ⟨#[]⟩,.string ⟨#[]⟩,.slice none 0 0] 8 (NO os) (Es os _) (by kernel_rfl) (by kernel_rfl) (by kernel_rfl) (Jx os _)
 intro W base args ds Q n e y G z r;have c:∀(j:Nat) t v,Tryz.f13.params[j]? =some t->args[j]? =some v->Value.okWide Tryz.prog W .any base t v:=e;have f:=y;obtain⟨p,q,s,I,rfl,_,_⟩:=y;have A:DataW.TrodAll enc Tryz.prog W 0 (λ_=>true) true Tryz.f13.params.toList args.toList ds p:=s;rw[Tryz.params13]at A c;obtain⟨v0,v1,v2,d0,d1,d2,J,K,L,rfl,rfl,rfl,B,D,E⟩:=trodAll_three A;obtain⟨rfl,rfl⟩:=trodVars_none I;obtain⟨a,rfl,_,_,_⟩:=ChangeMaps.open_string Tryz.underlying9 (c 0 9 v0 rfl rfl) B;obtain⟨b,rfl,_,_,_⟩:=ChangeMaps.open_string Tryz.underlying9 (c 1 9 v1 rfl rfl) D;obtain⟨l,i⟩:=Jj (c 2 53 v2 rfl rfl) E;have M:=yv z (by simp[Rows.likeEditsRow,Rows.laid_touchmark_like_kinds,xx,kindName]);have u:=yw z (by rfl);simp only[S9]at f;obtain⟨N,last,o,w',O,e1,P,e3,e4⟩:=Gs a b i (yx r M) u;refine⟨N,last,o,w',O,e1,P,e3,e4.mono λv k=>?_⟩;have g:=f.lt;refine⟨_,_,_,[],J++(K++L),[],f,?_,?_,rfl,k.kept _,λh=>by cases h⟩
 ·rw[k.1]
  exact trodAll_mk1 (shut_bool Tryz.underlying4 true)
 ·exact trodAll_mk3 (k.trod (by kernel_rfl) (Sp (by kernel_rfl)) B λx m=>g x (by simp[m])) (k.trod (by kernel_rfl) (Sp (by kernel_rfl)) D λx m=>g x (by simp[m]))
   (k.trod (by kernel_rfl) (Sp (by kernel_rfl)) E λx m=>g x (by simp[m]))
end Go.Proofs.YtaglpcmhopjebaaGreatDoor
namespace Go.Proofs.YtaglpcmhopjebaaGreatDoor
open Go
def NP:joinedFacts Tryz.pinned.checked.prog 13 Tryz.f13 Rows.likeEditsSpec Rows.likeEditsRow=true:=by
 unfold joinedFacts
 with_reducible repeat' refine(RD _ _).mpr ⟨?_,?_⟩
 all_goals as_aux_lemma=>kernel_rfl
def Mg:Tryz.pinned.checked.prog.funcNamed Rows.likeEditsRow.func=some 13:=by kernel_rfl
def NR:Tryz.f13.isWrapper Tryz.pinned.checked.prog Rows.likeEditsRow.wrapper Rows.likeEditsRow.mainSum:=by unfold Func.isWrapper;first|(rw[Rn (by decide+kernel)];kernel_rfl)|(rw[Rm (by decide+kernel)];exact⟨rfl,rfl⟩)
def NS:Tryz.f13.isInstance Tryz.pinned.checked.prog Rows.likeEditsRow.origin Rows.likeEditsRow.targs:=Sp (by kernel_rfl)
end Go.Proofs.YtaglpcmhopjebaaGreatDoor

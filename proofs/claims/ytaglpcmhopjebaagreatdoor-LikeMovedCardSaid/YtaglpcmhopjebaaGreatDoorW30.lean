/- The law LikeMoved: its row and its tied card. -/
import Derived.Conc.Holds
import Derived.Test.YtaglpcmhopjebaaGreatDoorW24
import Derived.Test.YtaglpcmhopjebaaGreatDoorW25
import Derived.Test.YtaglpcmhopjebaaGreatDoorW29
set_option linter.all false
set_option maxRecDepth 100000
set_option maxHeartbeats 20000000
namespace Go.Proofs.YtaglpcmhopjebaaGreatDoor
open Go.Proofs Go.Tm Go.RowKit Go.ChangeShapes Go.WideShapes Go.ChangeAt Go.WideElems Go.Conc
def KP{W}{sc:WZ}{c:Case}(a:Int)(j:bD TT W sc c)(k:pc c)(e:gZ TT W sc)(b:0<=a/\a<256)(d:gG W):cP Tryz.prog (sq W) (crowd #[G (Frame.enter Tryz.prog 8 #[.agg sc,.int .u8 a] .normal) []] W none) #[]:=by refine Au (by kernel_rfl) d (λx f=>?_) λw p l g m=>?_;simp only[Xs,WO,WY,W7]at f;obtain rfl|rfl:=f;exact .agg e;exact .one (.int _ _);exact IM a w b ⟨j.carry l rfl (λi v V e1 n h=>by cases e1.symm.trans n;exact g _ _ h),λv o=>(g _ _ (e v o)).cv⟩ k m
def KQ(os:Os)(args:WZ):laidMetH Tryz.prog Rows.likeMovedRow.laid ((Fo os).forCall (λ_ _=>0) ⟨#[],args,[]⟩).memory:=AF os args
def wS(os)(a:os.Started)(H)(enc:TypeId×x6->H):ReturnsInLeavingWide {} Tryz.checked os 8 .any (λw args=>(Rows.likeMovedSpec.pre enc Tryz.prog Tryz.f8 [] false w args/\laidMetH Tryz.prog Rows.likeMovedRow.laid w)/\sizedMet enc Tryz.prog Tryz.f8 (OpenSpec.ofChange Rows.likeMovedSpec) false w args) (Rows.likeMovedSpec.post enc Tryz.prog Tryz.f8 false true false false):=by refine gH (C:=Tryz.checked) (X:=λw _=>laidMetH Tryz.prog Rows.likeMovedRow.laid w) (λ_ _ _ D h=>h.of_heap D) own a Tryz.func8 ?_ ?_;exact ChangeSpec.witness_shaped (enc:=enc) (C:=Tryz.checked) (os:=os) (X:=λw _=>laidMetH Tryz.prog Rows.likeMovedRow.laid w) false (Fo os) #[.agg #[.slice none 0 0,.slice none 0 0,.slice none 0 0,.slice none 0 0,.string .empty,.string .empty,.slice none 0 0,.i 0,.bool false,.slice none 0 0,.slice none 0 0],.int .u8 0] 8 (Fp os) (qQ os _) (by kernel_rfl) (by kernel_rfl) (by kernel_rfl) (KQ os _);intro W base args ds E k e y m F n;have b:∀(j:Nat) t v,Tryz.f8.params[j]? =some t->args[j]? =some v->Value.okWide Tryz.prog W .any base t v:=e;have f:=y;obtain⟨p,q,r,G,rfl,_,_⟩:=y;have z:DataW.TrodAll enc Tryz.prog W 0 (λ_=>true) true Tryz.f8.params.toList args.toList ds p:=r;have d:(DataW.weightsEach Tryz.prog (Tryz.f8.params.toList++_) (ds++E)).all (· <=reachBytes)=true:=m;rw[Tryz.params8]at z b d;obtain⟨v0,v1,d0,d1,I,J,rfl,rfl,rfl,A,B⟩:=trodAll_two z;obtain⟨rfl,rfl⟩:=trodVars_none G;obtain⟨sc,c,rfl,K,L,M⟩:=wO (b 0 60 v0 rfl rfl) A (pb d (i:=0) rfl rfl);obtain⟨s,rfl,_,_,w1⟩:=open_int Tryz.underlying5 (b 1 5 v1 rfl rfl) B;have O:=uL w1;have P:=nz F (by simp[Rows.likeMovedRow,Rows.laid_touchmark_like_kinds,tj,kindName]);simp only[XJ]at f;obtain⟨N,last,o,w',Q,e1,R,e3,e4⟩:=KP s K L M O (nA n P);refine⟨N,last,o,w',Q,e1,R,e3,e4.mono λv l=>?_⟩;have g:=f.lt;refine⟨_,_,_,[],I++J,[],f,?_,?_,rfl,l.kept _,λh=>by cases h⟩;rw[l.1];exact trodAll_mk1 (shut_bool Tryz.underlying4 true);exact trodAll_mk2 (l.trod (by kernel_rfl) (W6 (by kernel_rfl)) A λx u=>g x (by simp[u])) (l.trod (by kernel_rfl) (W6 (by kernel_rfl)) B λx u=>g x (by simp[u]))
end Go.Proofs.YtaglpcmhopjebaaGreatDoor
namespace Go.Proofs.YtaglpcmhopjebaaGreatDoor
open Go
def yi:Rows.LikeMovedSaid:=OpenClaim.holds_of_wide_leaving 8 Tryz.f8 rfl rfl rfl rfl rfl rfl rfl ⟨rfl,rfl,rfl,rfl,rfl⟩ rfl rfl rfl rfl rfl Tf Tryz.func8 Ua Uc Ub (λos a H enc _=>wS os a H enc)
theorem likeMoved_card:Rows.LikeMovedCardSaid:=
 wT [.data,.funcsDeep,.pinned] (true,"e2464fcece2eef13e397ee2a7d1ae907f3e87b9b7325f55b82139ea06d39884f") yi (by kernel_rfl) likeMoved_row_tie rfl ⟨rfl,rfl⟩ (by kernel_rfl) rfl
  (λf fn d b=>by
   obtain rfl:f=8:=WV (d.symm.trans Tf);obtain rfl:fn=Tryz.f8:=WV (b.symm.trans Tryz.func8);refine⟨by kernel_rfl,λj t c=>?_⟩;rw[Tryz.params8]at c;have e:t∈[60,5]:=by simpa using Xu c
   have a:([60,5].all λu=> !Tryz.pinned.checked.prog.wantsStandIn u)=true:=by kernel_rfl
   simpa using Xe.1 a t e)
  (by kernel_rfl)
end Go.Proofs.YtaglpcmhopjebaaGreatDoor

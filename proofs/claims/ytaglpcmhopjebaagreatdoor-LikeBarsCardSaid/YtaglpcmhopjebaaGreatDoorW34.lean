/- The law LikeBars: its row and its tied card. -/
import Derived.Conc.Holds
import Derived.Test.YtaglpcmhopjebaaGreatDoorW24
import Derived.Test.YtaglpcmhopjebaaGreatDoorW27
import Derived.Test.YtaglpcmhopjebaaGreatDoorW33
set_option linter.all false
set_option maxRecDepth 100000
set_option maxHeartbeats 20000000
namespace Go.Proofs.YtaglpcmhopjebaaGreatDoor
open Go.Proofs Go.Tm Go.RowKit Go.ChangeShapes Go.WideShapes Go.ChangeAt Go.WideElems Go.Conc
def Ok{W}{sc:WZ}{c:Case}{v:x6}{l:List (Int×Int×Int)}(j:bD TT W sc c)(k:pc c)(e:gZ TT W sc)(m:aB TT 3 (eo .i64) W v l)(a:CV TT W true v)(b:gG W):cP Tryz.prog (sq W) (crowd #[G (Frame.enter Tryz.prog 12 #[.agg sc,v] .normal) []] W none) #[]:=by refine Au (by kernel_rfl) b (λx f=>?_) λw q g d n=>?_;simp only[Xs,WO,WY,W7]at f;obtain rfl|rfl:=f;exact .agg e;exact .one a;exact KZ w ⟨j.carry g rfl (λi v V e1 o h=>by cases e1.symm.trans o;exact d _ _ h),λv p=>(d _ _ (e v p)).cv⟩ k (KN g d m) n
def IY(os:Os)(args:WZ):laidMetH Tryz.prog Rows.likeBarsRow.laid ((Fo os).forCall (λ_ _=>0) ⟨#[],args,[]⟩).memory:=AF os args
def yk(os)(a:os.Started)(H)(enc:TypeId×x6->H):ReturnsInLeavingWide {} Tryz.checked os 12 .any (λw args=>(Rows.likeBarsSpec.pre enc Tryz.prog Tryz.f12 [] false w args/\laidMetH Tryz.prog Rows.likeBarsRow.laid w)/\sizedMet enc Tryz.prog Tryz.f12 (OpenSpec.ofChange Rows.likeBarsSpec) false w args) (Rows.likeBarsSpec.post enc Tryz.prog Tryz.f12 false true false false):=by refine gH (C:=Tryz.checked) (X:=λw _=>laidMetH Tryz.prog Rows.likeBarsRow.laid w) (λ_ _ _ E h=>h.of_heap E) own a Tryz.func12 ?_ ?_;exact ChangeSpec.witness_shaped (enc:=enc) (C:=Tryz.checked) (os:=os) (X:=λw _=>laidMetH Tryz.prog Rows.likeBarsRow.laid w) false (Fo os) #[.agg #[.slice none 0 0,.slice none 0 0,.slice none 0 0,.slice none 0 0,.string .empty,.string .empty,.slice none 0 0,.i 0,.bool false,.slice none 0 0,.slice none 0 0],.slice none 0 0] 8 (Fp os) (qQ os _) (by kernel_rfl) (by kernel_rfl) (by kernel_rfl) (IY os _);intro W base args ds F k e z n G r;have b:∀(j:Nat) t v,Tryz.f12.params[j]? =some t->args[j]? =some v->Value.okWide Tryz.prog W .any base t v:=e;have f:=z;obtain⟨p,q,s,I,rfl,_,_⟩:=z;have A:DataW.TrodAll enc Tryz.prog W 0 (λ_=>true) true Tryz.f12.params.toList args.toList ds p:=s;have d:(DataW.weightsEach Tryz.prog (Tryz.f12.params.toList++_) (ds++F)).all (· <=reachBytes)=true:=n;rw[Tryz.params12]at A b d;obtain⟨v0,v1,d0,d1,J,K,rfl,rfl,rfl,B,D⟩:=trodAll_two A;obtain⟨rfl,rfl⟩:=trodVars_none I;obtain⟨sc,c,rfl,L,M,O⟩:=wO (b 0 60 v0 rfl rfl) B (pb d (i:=0) rfl rfl);obtain⟨l,P,u⟩:=Oa (b 1 62 v1 rfl rfl) D (pb d (i:=1) rfl rfl);have Q:=nz G (by simp[Rows.likeBarsRow,Rows.laid_touchmark_like_kinds,tj,kindName]);simp only[XJ]at f;obtain⟨N,last,o,w',R,e1,S,e3,e4⟩:=Ok L M O P u (nA r Q);refine⟨N,last,o,w',R,e1,S,e3,e4.mono λv m=>?_⟩;have g:=f.lt;refine⟨_,_,_,[],J++K,[],f,?_,?_,rfl,m.kept _,λh=>by cases h⟩;rw[m.1];exact trodAll_mk1 (shut_bool Tryz.underlying4 true);exact trodAll_mk2 (m.trod (by kernel_rfl) (W6 (by kernel_rfl)) B λx y=>g x (by simp[y])) (m.trod (by kernel_rfl) (W6 (by kernel_rfl)) D λx y=>g x (by simp[y]))
end Go.Proofs.YtaglpcmhopjebaaGreatDoor
namespace Go.Proofs.YtaglpcmhopjebaaGreatDoor
open Go
def AI:Rows.LikeBarsSaid:=OpenClaim.holds_of_wide_leaving 12 Tryz.f12 rfl rfl rfl rfl rfl rfl rfl ⟨rfl,rfl,rfl,rfl,rfl⟩ rfl rfl rfl rfl rfl Q7 Tryz.func12 SP SS SQ (λos a H enc _=>yk os a H enc)
theorem likeBars_card:Rows.LikeBarsCardSaid:=
 wT [.data,.funcsDeep,.pinned] (true,"e2464fcece2eef13e397ee2a7d1ae907f3e87b9b7325f55b82139ea06d39884f") AI (by kernel_rfl) likeBars_row_tie rfl ⟨rfl,rfl⟩ (by kernel_rfl) rfl
  (λf fn d b=>by
   obtain rfl:f=12:=WV (d.symm.trans Q7);obtain rfl:fn=Tryz.f12:=WV (b.symm.trans Tryz.func12);refine⟨by kernel_rfl,λj t c=>?_⟩;rw[Tryz.params12]at c;have e:t∈[60,62]:=by simpa using Xu c
   have a:([60,62].all λu=> !Tryz.pinned.checked.prog.wantsStandIn u)=true:=by kernel_rfl
   simpa using Xe.1 a t e)
  (by kernel_rfl)
end Go.Proofs.YtaglpcmhopjebaaGreatDoor

import Derived.Test.YtaglpcmhopjebaaGreatDoorTie
import Derived.Test.YtaglpcmhopjebaaGreatDoorCards
import Derived.SevenTiedAt
import Derived.JoinedOf
import Derived.KernelRfl
import Derived.Test.YtaglpcmhopjebaaGreatDoorQ40
set_option linter.all false
set_option maxRecDepth 100000
set_option maxHeartbeats 20000000
namespace Go.Proofs
open Go.Tm Go.RowKit Go.ChangeShapes Go.WideShapes Go.ChangeAt Go.WideElems Go.Conc
def xE:Tryz.prog.cellsOf 9=1:=by kernel_rfl
def Ke:Tryz.prog.cellsOf 46=2:=by kernel_rfl
def Kf:Tryz.prog.cellsOf 51=2:=by kernel_rfl
def Kg:Tryz.prog.cellsOf 50=2:=by kernel_rfl
def Kh:Tryz.prog.cellsOf 48=1:=by kernel_rfl
def Ki:Tryz.prog.cellsOf 92=1:=by kernel_rfl
def Kj:Tryz.prog.cellsOf 22=1:=by kernel_rfl
def Kk:Tryz.prog.cellsOf 23=1:=by kernel_rfl
def Kl:Tryz.prog.cellsOf 24=1:=by kernel_rfl
def Km:Tryz.prog.cellsOf 26=3:=by kernel_rfl
section
variable {H:Type} {enc:TypeId×Value->H} {W:World}
def oZ{t:TypeId}{s:ByteArray}(h:iz (H:=H) t (.lit (.string s.data.toList))):s.size<=140737488351232:=by have:=h s.data.toList.length (by unfold DataW.weights;exact TW.2 rfl);rw[Lib.size_eq];exact R3 this (by decide)
def Ko:Reads enc W 9 1 kq λs=>s.size<=140737488351232:=by intro fuel cs x b a h c e d;obtain⟨s,rfl,rfl,_⟩:=DataW.trod_string Tryz.underlying9 h;exact⟨s,c 0 (by decide),oZ d⟩
def xF{e n0 o q r s t u v w y}(d:Tryz.prog.underlying e=some (.struct #[⟨n0,9,0,o,q,r,s⟩,⟨t,9,1,u,v,w,y⟩])):Reads enc W e 2 dh λp=>p.1.size<=140737488351232/\p.2.size<=140737488351232:=by
 intro fuel cs x b z h g A j;obtain⟨xs,m,rfl,rfl,_,f,k⟩:=DataW.trod_struct d h;obtain⟨a,c,rfl⟩:∃a c,cs=[a,c]:=by
  match cs,A with
  | [a,c],_=>exact⟨a,c,rfl⟩
 obtain⟨x0,x1,rfl⟩:∃x0 x1,xs=[x0,x1]:=by
  match xs,f with
  | [x0,x1],_=>exact⟨x0,x1,rfl⟩
 have l:DataW.trod enc Tryz.prog W 0 (λ_=>true) true m 9 (([a,c].drop 0).take (Tryz.prog.cellsOf 9))=some x0:=k 0 _ rfl;have n:DataW.trod enc Tryz.prog W 0 (λ_=>true) true m 9 (([a,c].drop 1).take (Tryz.prog.cellsOf 9))=some x1:=k 1 _ rfl;have B:iz 9 x0.1:=j.field d (i:=0) rfl rfl;have C:iz 9 x1.1:=j.field d (i:=1) rfl rfl;rw[xE]at l n;obtain⟨D,e0,rfl,_⟩:=DataW.trod_string Tryz.underlying9 l;obtain⟨E,e1,rfl,_⟩:=DataW.trod_string Tryz.underlying9 n;cases e0;cases e1;exact⟨(D,E),⟨g 0 (by decide),g 1 (by decide)⟩,oZ B,oZ C⟩
def BM:Reads enc W 50 2 eT λt=>t.name.size<=140737488351232/\∀p∈t.aT,p.1.size<=140737488351232/\p.2.size<=140737488351232:=by
 intro fuel cs x b n h e o f;obtain⟨xs,m,rfl,rfl,_,d,g⟩:=DataW.trod_struct Tryz.underlying50 h;obtain⟨c,a,rfl⟩:∃c a,cs=[c,a]:=by
  match cs,o with
  | [c,a],_=>exact⟨c,a,rfl⟩
 obtain⟨x0,x1,rfl⟩:∃x0 x1,xs=[x0,x1]:=by
  match xs,d with
  | [x0,x1],_=>exact⟨x0,x1,rfl⟩
 have j:DataW.trod enc Tryz.prog W 0 (λ_=>true) true m 9 (([c,a].drop 0).take (Tryz.prog.cellsOf 9))=some x0:=g 0 _ rfl;have k:DataW.trod enc Tryz.prog W 0 (λ_=>true) true m 48 (([c,a].drop 1).take (Tryz.prog.cellsOf 48))=some x1:=g 1 _ rfl;have q:iz 9 x0.1:=f.field Tryz.underlying50 (i:=0) rfl rfl;have r:iz 48 x1.1:=f.field Tryz.underlying50 (i:=1) rfl rfl;rw[xE]at j;rw[Kh]at k;obtain⟨s,e0,rfl,_⟩:=DataW.trod_string Tryz.underlying9 j;cases e0;obtain⟨l,u,v⟩:=oJ Tryz.underlying48 Kf (by decide) (xF Tryz.underlying51) k r;exact⟨⟨s,l⟩,⟨e 0 (by decide),a,e 1 (by decide),u⟩,oZ q,v⟩
def EF:Reads enc W 92 1 jx λg=>∀s∈g,s.size<=140737488351232:=by
 intro fuel cs x b c h d e f;obtain⟨a,rfl⟩:∃a,cs=[a]:=by
  match cs,e with
  | [a],_=>exact⟨a,rfl⟩
 obtain⟨l,i,j⟩:=oJ Tryz.underlying92 xE (by decide) Ko h f;exact⟨l,⟨a,d 0 (by decide),i⟩,j⟩
def xG{t e v i}(j:Tryz.prog.underlying t=some (.slice e))(g:Cell.okWide Tryz.prog W .any i t v):CV TT W true v:=by
 have b:Cell.ok Tryz.prog W .any i t v:=by unfold Cell.okWide at g;rw[j]at g;exact g
 unfold Cell.ok at b;rw[j]at b;split at b<;>simp_all
 ·exact .slice _ _ λa h=>by cases h
 ·rename_i a len cap _
  obtain⟨_,_,_,d,row,cells,f,_⟩:=b;refine .slice _ _ λk h=>?_;cases h;refine⟨d,trivial,?_⟩;unfold World.shape? at f;split at f
  ·rename_i c e F h
   exact⟨c,e,F,h⟩
  ·cases f
def GY{v:Value}{d p q}(a:Value.okWide Tryz.prog W .any q 26 v)(r:DataW.Trod enc Tryz.prog W 0 (λ_=>true) true 26 v d p)(c:iz 26 d):
 ∃v0 v1 v2 t,v=.agg #[v0,v1,v2]/\IsTable TT W v0 v1 v2 t/\BI t/\gR TT W #[v0,v1,v2]:=by
 obtain⟨fuel,e⟩:=r;unfold Value.okWide at a;rw[Tryz.underlying26]at a;obtain⟨cs,rfl,b,ts,k,_,f⟩:=a;rw[Km]at b;obtain⟨cs⟩:=cs;obtain⟨v0,v1,v2,rfl⟩:∃v0 v1 v2,cs=[v0,v1,v2]:=by
  match cs,b with
  | [s,u,w],_=>exact⟨s,u,w,rfl⟩
 have g:Tryz.prog.cellTypes Tryz.prog.depth 26=some [22,23,24]:=by kernel_rfl
 rw[g]at k;cases k;obtain⟨_,e0,x⟩:=f 0 v0 rfl;obtain⟨_,e1,y⟩:=f 1 v1 rfl;obtain⟨_,z,A⟩:=f 2 v2 rfl;cases e0;cases e1;cases z;obtain⟨xs,m,rfl,B,_,h,j⟩:=DataW.trod_struct Tryz.underlying26 e;cases B;obtain⟨x0,x1,x2,rfl⟩:∃x0 x1 x2,xs=[x0,x1,x2]:=by
  match xs,h with
  | [x0,x1,x2],_=>exact⟨x0,x1,x2,rfl⟩
 have l:DataW.trod enc Tryz.prog W 0 (λ_=>true) true m 22 (([v0,v1,v2].drop 0).take (Tryz.prog.cellsOf 22))=some x0:=j 0 _ rfl;have n:DataW.trod enc Tryz.prog W 0 (λ_=>true) true m 23 (([v0,v1,v2].drop 1).take (Tryz.prog.cellsOf 23))=some x1:=j 1 _ rfl;have o:DataW.trod enc Tryz.prog W 0 (λ_=>true) true m 24 (([v0,v1,v2].drop 2).take (Tryz.prog.cellsOf 24))=some x2:=j 2 _ rfl;have C:iz 22 x0.1:=c.field Tryz.underlying26 (i:=0) rfl rfl;have D:iz 23 x1.1:=c.field Tryz.underlying26 (i:=1) rfl rfl;have E:iz 24 x2.1:=c.field Tryz.underlying26 (i:=2) rfl rfl;rw[Kj]at l;rw[Kk]at n;rw[Kl]at o;obtain⟨F,r0,k0⟩:=oJ Tryz.underlying22 Ke (by decide) (xF Tryz.underlying46) l C;obtain⟨a1,G,k1⟩:=oJ Tryz.underlying23 Kg (by decide) BM n D;obtain⟨I,J,K⟩:=oJ Tryz.underlying24 Ki (by decide) EF o E;refine⟨v0,v1,v2,⟨F,a1,I⟩,rfl,⟨r0,G,J⟩,⟨k0,k1,K⟩,λv a=>?_⟩;simp only[To,SE,SS,SU]at a;obtain rfl|rfl|rfl:=a
 ·exact xG Tryz.underlying22 x
 ·exact xG Tryz.underlying23 y
 ·exact xG Tryz.underlying24 A
end
end Go.Proofs
namespace Go.Proofs.YtaglpcmhopjebaaGreatDoor
open Go.Proofs Go.Tm Go.RowKit Go.ChangeShapes Go.WideShapes Go.ChangeAt Go.WideElems Go.Conc
def GZ{W}{v0 v1 v2:Value}{t:Table}(k:Int)(s:ByteArray)(a:IsTable TT W v0 v1 v2 t)(e:BI t)(f:gR TT W #[v0,v1,v2])(b:iO W):
 cQ Tryz.prog (ug W) (crowd #[G (Frame.enter Tryz.prog 3 #[.agg #[v0,v1,v2],.int .i64 k,.string s] .normal) []] W none) #[]:=by
 refine M4 (by kernel_rfl) b (λx d=>?_) λw i g c h=>?_
 ·simp only[To,SE,SS,SU]at d
  obtain rfl|rfl|rfl:=d
  ·exact .agg f
  ·exact .one (.int _ _)
  ·exact .one (.string _)
 ·exact EE k s w (a.carry g (c _ _ a.1.cv) (c _ _ a.2.1.cv) (c _ _ a.2.2.cv)) e h
def G3{H:Type}{ts:List TypeId}{ds c:List (DataW H)}{e}(h:(DataW.weightsEach Tryz.prog (ts++e) (ds++c)).all (· <=reachBytes)=true){i:Nat}{t d}(a:ts[i]? =some t)(b:ds[i]? =some d):iz t d:=λn f=>SO (SM.1 h n (jH (i:=i) (T8 (TC.1 a).1▸a) (T8 (TC.1 b).1▸b) f))
def tz(os)(b:os.Started)(H)(enc:TypeId×Value->H):
 ReturnsInLeavingWide {} Tryz.checked os 3 .any (λw args=>(Rows.likeWordsSpec.pre enc Tryz.prog Tryz.f3 [] false w args/\laidMetH Tryz.prog Rows.likeWordsRow.laid w)/\sizedMet enc Tryz.prog Tryz.f3 (OpenSpec.ofChange Rows.likeWordsSpec) false w args)
  (Rows.likeWordsSpec.post enc Tryz.prog Tryz.f3 false true false false):=by
 refine oz (C:=Tryz.checked) (X:=λw _=>laidMetH Tryz.prog Rows.likeWordsRow.laid w) (λ_ _ _ E h=>h.of_heap E) own b Tryz.func3 ?_ ?_
 ·exact ChangeSpec.witness_shaped (enc:=enc) (C:=Tryz.checked) (os:=os) (X:=λw _=>laidMetH Tryz.prog Rows.likeWordsRow.laid w) false (OE os) #[.agg #[.slice none 0 0,.slice none 0 0,.slice none 0 0],.int .i64 0,.string ⟨#[]⟩] 8 (OF os) (EG os _) (by kernel_rfl) (by kernel_rfl) (by kernel_rfl) (M6 os _)
 intro W base args ds F m d y n G r;have a:∀(j:Nat) t v,Tryz.f3.params[j]? =some t->args[j]? =some v->Value.okWide Tryz.prog W .any base t v:=d;have e:=y;obtain⟨p,q,u,I,rfl,_,_⟩:=y;have z:DataW.TrodAll enc Tryz.prog W 0 (λ_=>true) true Tryz.f3.params.toList args.toList ds p:=u;have c:(DataW.weightsEach Tryz.prog (Tryz.f3.params.toList++_) (ds++F)).all (· <=reachBytes)=true:=n;rw[Tryz.params3]at z a c;obtain⟨v0,v1,v2,d0,d1,d2,J,K,L,rfl,rfl,rfl,A,B,D⟩:=trodAll_three z;obtain⟨rfl,rfl⟩:=trodVars_none I;obtain⟨T,a1,U,t,rfl,M,O,P⟩:=GY (a 0 26 v0 rfl rfl) A (G3 c (i:=0) rfl rfl);obtain⟨k,rfl,_,_,_⟩:=open_int Tryz.underlying3 (a 1 3 v1 rfl rfl) B;obtain⟨s,rfl,_,_,_⟩:=ChangeMaps.open_string Tryz.underlying9 (a 2 9 v2 rfl rfl) D;have Q:=yv G (by simp[Rows.likeWordsRow,Rows.laid_touchmark_like_kinds,xn,kindName]);simp only[Tx]at e;obtain⟨N,last,o,w',R,e1,S,e3,e4⟩:=GZ k s M O P (yw r Q);refine⟨N,last,o,w',R,e1,S,e3,e4.mono λv g=>?_⟩;have f:=e.lt;refine⟨_,_,_,[],J++(K++L),[],e,?_,?_,rfl,g.kept _,λh=>by cases h⟩
 ·rw[g.1]
  exact trodAll_mk1 (shut_bool Tryz.underlying4 true)
 ·exact trodAll_mk3 (g.trod (by kernel_rfl) (SO (by kernel_rfl)) A λx l=>f x (by simp[l])) (g.trod (by kernel_rfl) (SO (by kernel_rfl)) B λx l=>f x (by simp[l]))
   (g.trod (by kernel_rfl) (SO (by kernel_rfl)) D λx l=>f x (by simp[l]))
end Go.Proofs.YtaglpcmhopjebaaGreatDoor

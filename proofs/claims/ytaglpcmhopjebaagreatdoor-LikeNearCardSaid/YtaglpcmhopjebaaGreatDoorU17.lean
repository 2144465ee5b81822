import Derived.Conc.SmallLaws
import Derived.Test.YtaglpcmhopjebaaGreatDoorU16
set_option linter.all false
set_option maxRecDepth 100000
set_option maxHeartbeats 20000000
namespace Go.Tm
open Go.Proofs Go.Conc Go.ConcN Go.Conc.Lib Go.ConcR.Gen Go.ConcN.Gen
open Go.ConcR (KK WgAt stA smA rd wr mk DC0)
def PV:(Tryz.prog.info? 185).map (·.size)=some 1:=by kernel_rfl
noncomputable def Nu:Code:=Tryz.f74.body.getD .skip
noncomputable def oQ:Array Oper:=match Tryz.f74.body with|some (.seq _ (.seq (.region _ ops _) _))=>ops|_=>#[]
noncomputable def gG:Code:=match Tryz.f74.body with|some (.seq _ (.seq _ c))=>c|_=>.skip
noncomputable def oR:Array Oper:=match gG with| .seq (.region _ ops _) _=>ops|_=>#[]
noncomputable def lJ:Code:=match gG with| .seq _ c=>c|_=>.skip
section
variable {CS:List Frame} {sc:Array Value} {K M:Nat->Prop} {w:World}
noncomputable def ri(sb:Nat)(a b c d:Value):Array Value:=#[a,ptr sb,.slice none 0 0,b,c,undef,undef,undef,d,undef,undef,undef,undef,undef,undef,undef,undef,undef,undef,undef,undef,undef,undef,undef,undef,undef,undef,undef,undef,undef,undef,undef]
def Tl(j:∀b,K b->b<w.heap.size):Run Tryz.prog true 195 0 (λh o g w'=>∃sb,w.heap.size<=sb/\w'.heap[sb]? =some (.cells sc 125 (0,0))/\h sb/\(∀b,h b->K b\/b=sb)/\g=G ((base 74).at ⟨ri sb (.agg sc) undef undef undef,[]⟩ [.inRegion oQ [0,1,2],.code gG]) CS) K M (G (Frame.enter Tryz.prog 74 #[.agg sc] .normal) CS) w:=by rw[enter_at (c:=Nu) #[.agg sc] Tryz.func74 rfl];(walk_nrmf Tryz.f74);simp only[Nu,Tryz.f74,VY,oQ,gG,ri];refine Run.still rfl (λ_=>stepG_seq) ?_;refine Run.still rfl (λ_=>stepG_region) ?_;simp only[UB,Ug,Uv,Nat.reduceAdd,Uo,List.range,List.range.loop];refine Run.fresh (ob:=.cells sc 125 (0,0)) (λm=>.pointer (some ⟨m,0,none⟩)) rfl rfl (by k_ne) (λa=>by go_simp) (λa=>by simp[go_sem, *]) (λm w2 k i d l f=>?_) j;(walk_nrm);refine Run.pure (.slice none 0 0) rfl rfl (by k_ne) (λ_=>rfl) (λ_=>rfl) ?_;(walk_nrm);refine Run.still rfl (λ_=>stepG_region_end) ?_;refine Run.still rfl (λ_=>stepG_seq) ?_;refine Run.still rfl (λ_=>stepG_region) ?_;simp only[UB,Ug,Uv,Nat.reduceAdd,Uo,List.range,List.range.loop];exact .stop λa e=>⟨m,k,(e.keep m (.inr rfl)).trans d,.inr rfl,λb n=>n,rfl⟩
def Ii(a):(Instr.makeChan 185 (.int .i64 0)).run Tryz.prog a=.ok (.chan (some a.heap.size)) (a.alloc (.chan 0 #[] false 0 0 false)):=by obtain⟨i,b,_⟩:=np;have:=run_makeChan (P:=Tryz.prog) (w:=a) Tryz.underlying185 b .i64 0 (by omega) (by omega);simpa using this
def zq(a es):(Instr.makeChan 185 (.int .i64 0)).events Tryz.prog a es=es:=by obtain⟨i,b,_⟩:=np;have:=events_makeChan (P:=Tryz.prog) (w:=a) Tryz.underlying185 b .i64 0 (by omega) (by omega) es;simpa using this
def Nv(sb a):stepG Tryz.prog true (G ((base 74).at ⟨ri sb (.agg sc) undef undef undef,[]⟩ [.inRegion oQ [0,1,2],.code gG]) CS) a= .go (G ((base 74).at ⟨ri sb (.agg sc) undef undef (.chan (some a.heap.size)),[]⟩ [.inRegion oQ [1,2],.code gG]) CS) {a with heap:=a.heap.push (.chan 0 #[] false 0 0 false)} #[]:=by simp only[oQ,gG,Tryz.f74,ri];rw[stepG_value (v:=.chan (some a.heap.size)) (w':={a with heap:=a.heap.push (.chan 0 #[] false 0 0 false)}) rfl rfl (by k_ne) (by simp[go_sem,Ii])];simp[listed,go_sem,seen,zq]
def Tn{sb ch}(l:∀b,K b->b<w.heap.size)(r:0<w.heap.size):Run Tryz.prog true 195 0 (λj s g w'=>∃fb,w.heap.size<=fb/\w'.heap[fb]? =some (.cells #[.chan (some ch)] 185 (0,0))/\j fb/\(∀b,j b->K b\/b=fb)/\g=G ((base 74).at ⟨ri sb (.agg sc) (ptr fb) undef (.chan (some ch)),[]⟩ [.inRegion oR [0],.code lJ]) CS) K M (G ((base 74).at ⟨ri sb (.agg sc) undef undef (.chan (some ch)),[]⟩ [.inRegion oQ [1,2],.code gG]) CS) w:=by simp only[oQ,oR,lJ,gG,Tryz.f74,ri];refine Run.fresh (ob:=.cells #[.chan none] 185 (0,0)) (λm=>.pointer (some ⟨m,0,none⟩)) rfl rfl (by k_ne) (λa=>by go_simp) (λa=>by simp[go_sem, *]) (λm w2 n k d o h=>?_) l;(walk_nrm);refine Run.store (cells:=#[.chan (some ch)]) rfl rfl (by k_ne) rfl rfl rfl d PV rfl (by simp[Value.oneCell']) (.inr rfl) (.inr rfl) (by omega) (λw3 i c p f=>?_);(walk_nrm);refine Run.still rfl (λ_=>stepG_region_end) ?_;refine Run.still rfl (λ_=>stepG_seq) ?_;refine Run.still rfl (λ_=>stepG_region) ?_;simp only[UB,Ug,Uv,Nat.reduceAdd,Uo,List.range,List.range.loop];exact .stop λa e=>⟨m,n,(e.keep m (.inr rfl)).trans c,.inr rfl,λb q=>q,rfl⟩
def KH{sb ch fb}(a):stepG Tryz.prog true (G ((base 74).at ⟨ri sb (.agg sc) (ptr fb) undef (.chan (some ch)),[]⟩ [.inRegion oR [0],.code lJ]) CS) a= .go (G ((base 74).at ⟨ri sb (.agg sc) (ptr fb) (ptr a.heap.size) (.chan (some ch)),[]⟩ [.inRegion oR [],.code lJ]) CS) {a with heap:=a.heap.push (.cells #[.int .u64 0,.int .u32 0] 195)} #[]:=by simp only[oR,lJ,gG,Tryz.f74,ri];rw[stepG_value (v:=ptr a.heap.size) (w':={a with heap:=a.heap.push (.cells #[.int .u64 0,.int .u32 0] 195)}) rfl rfl (by k_ne) (by go_simp)];simp[listed,go_sem,seen];rfl
def To{sb ch fb Wg n a b}(c:sc[9]? =some (.slice b n a))(d:K sb)(hsb:w.heap[sb]? =some (.cells sc 125 (0,0))):Run Tryz.prog true 195 0 (λi k g w'=>∃j e,i=K/\g=G ((base 74).at ⟨sP sb fb Wg n 0 (.agg sc) undef (.chan (some ch)) j e (.slice b n a) undef undef undef undef undef,[]⟩ [.code nC,.inLoop nC,.inBlock 0,.code jQ]) CS) K M (G ((base 74).at ⟨ri sb (.agg sc) (ptr fb) (ptr Wg) (.chan (some ch)),[]⟩ [.inRegion oR [],.code lJ]) CS) w:=by simp only[oR,lJ,gG,nC,jQ,Tryz.f74,ri,sP];refine Run.still rfl (λ_=>stepG_region_end) ?_;refine Run.still rfl (λ_=>stepG_seq) ?_;refine Run.still rfl (λ_=>stepG_seq) ?_;refine Run.still rfl (λ_=>stepG_region) ?_;simp only[UB,Ug,Uv,Nat.reduceAdd,Uo,List.range,List.range.loop];refine Run.pure (ptr sb) rfl rfl (by k_ne) (λ_=>by go_simp) (λ_=>by simp[go_sem]) ?_;(walk_nrm);refine Run.pure (.pointer (some ⟨sb,9,none⟩)) rfl rfl (by k_ne) (λ_=>by go_simp) (λ_=>by simp[go_sem]) ?_;(walk_nrm);refine Run.EW (A:=⟨sb,9,none⟩) (v:=.slice b n a) rfl rfl (by k_ne) rfl rfl rfl Tryz.underlying58 rfl d (by simp[World.cell?,hsb,c]) ?_;(walk_nrm);refine Run.pure (.int .i64 n) rfl rfl (by k_ne) (λ_=>by go_simp) (λ_=>by simp[go_sem]) ?_;(walk_nrm);refine Run.pure (.int .i64 0) rfl rfl (by k_ne) (λ_=>rfl) (λ_=>rfl) ?_;(walk_nrm);refine Run.still rfl (λ_=>stepG_region_end) ?_;refine Run.still rfl (λ_=>stepG_block) ?_;refine Run.still rfl (λ_=>stepG_loop) ?_;exact .stop λf h=>⟨_,_,rfl,rfl⟩
def ij{P a b m m1 t t1}(h:runNT P a m t=(.next m1,t1)):runNT P (a+b) m t=runNT P b m1 t1:=by rw[runNT_add,h]
structure Pro(Shun:Loc->Prop)(K:Nat->Prop)(CS:List Frame)(sc:Array Value)(aM:Option Addr)(n cM:Nat)(w:World)(ng:Nat)(t:Trace)(gs':Array Goroutine)(w':World)(t':Trace)(sb ch fb Wg:Nat):Prop where
 size:gs'.size=ng
 tr:∃u,t'=t++u/\Tch 0 (λb=>K b\/b=sb\/b=fb) u
 bes:∃x9 x10,Bes Tryz.prog Shun gs' w' t' (G ((base 74).at ⟨sP sb fb Wg n 0 (.agg sc) undef (.chan (some ch)) x9 x10 (.slice aM n cM) undef undef undef undef undef,[]⟩ [.code nC,.inLoop nC,.inBlock 0,.code jQ]) CS)
 ord:w.heap.size<=sb/\sb<ch/\ch<fb/\fb<Wg/\Wg<w'.heap.size
 hsb:w'.heap[sb]? =some (.cells sc 125 (0,0))
 hch:w'.heap[ch]? =some (.chan 0 #[] false 0 0 false)
 hfb:w'.heap[fb]? =some (.cells #[.chan (some ch)] 185 (0,0))
 hwg:w'.heap[Wg]? =some (.cells #[.int .u64 0,.int .u32 0] 195)
 os:w'.os=w.os
 tape:w'.tape=w.tape
 output:w'.output=w.output
 old:∀b,b<w.heap.size->w'.heap[b]? =w.heap[b]?
def E5{w:World}{d:Nat}{ob:Obj}{b:Nat}(h:b<w.heap.size):({w.at d with heap:=w.heap.push ob}:World).heap[b]? =w.heap[b]? :=by show(w.heap.push ob)[b]? =_;rw[U6,Uc (by omega)]
def E6{w:World}{d:Nat}{ob:Obj}:({w.at d with heap:=w.heap.push ob}:World).heap[w.heap.size]? =some ob:=by show(w.heap.push ob)[w.heap.size]? =_;simp
def AG{w:World}{d:Nat}{ob:Obj}:({w.at d with heap:=w.heap.push ob}:World).heap.size=w.heap.size+1:=by simp
def Nw{Shun:Loc->Prop}{ShB:Nat->Prop}(h:∀l,Shun l->∃b,blk l=some b/\ShB b){n Y Z}(H:sc[9]? =some (.slice Z n Y)) (i:∀b,K b->b<w.heap.size/\¬ShB b) (k:∀b,ShB b->b<w.heap.size) (h0:0<w.heap.size) (E) (sl) (t) (a:Bes Tryz.prog Shun E w t (G (Frame.enter Tryz.prog 74 #[.agg sc] .normal) CS)):∃N gs' w' I t' sb ch fb Wg,runNT Tryz.prog N (crowd E w sl) t=(.next (crowd gs' w' I),t')/\Pro Shun K CS sc Z n Y w E.size t gs' w' t' sb ch fb Wg:=by
 obtain⟨N1,o,w1,p,t1,r1,j⟩:=nA h (Tl (CS:=CS) (sc:=sc) (M:=λ_=>False) (λb a=>(i b a).1)) E sl t a i k h0;obtain⟨g1,K1,M1,u1,⟨s1,⟨q1,l1⟩,p1,f1⟩,⟨sb,aa,q,r,s,rfl⟩,e1,J,af,ag,L,ak,an⟩:=j.at_;have u:=(L sb r).1;obtain⟨N2,O,d2,P,t2,u2,r2,z2,e2,n2,s2⟩:=xZ (w:=w1) (g':=λm=>G ((base 74).at ⟨ri sb (.agg sc) undef undef (.chan (some m)),[]⟩ [.inRegion oQ [1,2],.code gG]) CS) rfl (Nv sb) _ w1.drawn o p t1 q1 (Ue _) s1 l1 p1 f1;generalize c:({w1.at d2 with heap:=w1.heap.push (.chan 0 #[] false 0 0 false)}:World)=w2 at r2 s2;have ao:w2.heap.size=w1.heap.size+1:=by rw[<-c];exact AG
 have o2:∀b,b<w1.heap.size->w2.heap[b]? =w1.heap[b]? :=λb a=>by rw[<-c];exact E5 a
 have c2:w2.heap[w1.heap.size]? =some (.chan 0 #[] false 0 0 false):=by rw[<-c];exact E6
 have ar:=j.grown;obtain⟨N3,v,w3,z,t3,r3,g⟩:=nA h (Tn (CS:=CS) (sc:=sc) (sb:=sb) (ch:=w1.heap.size) (w:=w2) (K:=λb=>K b\/b=sb) (M:=λ_=>False) (λb a=>a.elim (λx=>by have:=(i b x).1;omega) λx=>by omega) (by omega)) O P t2 s2
  (λb a=>a.elim (λx=>⟨by have:=(i b x).1;omega,(i b x).2⟩) λx=>⟨by omega,λy=>by have:=k b y;omega⟩) (λb a=>by have:=k b a;omega) (by omega)
 obtain⟨g3,K3,M3,u3,⟨s3,⟨q3,l3⟩,p3,f3⟩,⟨fb,ab,A,B,C,rfl⟩,e3,Q,ax,ay,R,a1,a6⟩:=g.at_;have ad:=(R fb B).1;have a7:=g.grown;obtain⟨N4,S,d4,T,t4,u4,r4,z4,e4,n4,s4⟩:=xZ (w:=w3) (g':=λm=>G ((base 74).at ⟨ri sb (.agg sc) (ptr fb) (ptr m) (.chan (some w1.heap.size)),[]⟩ [.inRegion oR [],.code lJ]) CS) rfl KH _ w3.drawn v z t3 q3 (Ue _) s3 l3 p3 f3;generalize d:({w3.at d4 with heap:=w3.heap.push (.cells #[.int .u64 0,.int .u32 0] 195)}:World)=w4 at r4 s4;have a8:w4.heap.size=w3.heap.size+1:=by rw[<-d];exact AG
 have F:∀b,b<w3.heap.size->w4.heap[b]? =w3.heap[b]? :=λb a=>by rw[<-d];exact E5 a
 have c4:w4.heap[w3.heap.size]? =some (.cells #[.int .u64 0,.int .u32 0] 195):=by rw[<-d];exact E6
 have e:w4.heap[sb]? =some (.cells sc 125 (0,0)):=by rw[F sb (by omega),g.keep sb (by omega) id,o2 sb u,q]
 obtain⟨N5,U,w5,V,t5,r5,f⟩:=nA h (To (CS:=CS) (sc:=sc) (sb:=sb) (fb:=fb) (ch:=w1.heap.size) (Wg:=w3.heap.size) (w:=w4) (K:=λb=>K b\/b=sb\/b=fb) (M:=λ_=>False) H (.inr (.inl rfl)) e) S T t4 s4
  (λb a=>a.elim (λx=>⟨by have:=(i b x).1;omega,(i b x).2⟩) λx=>⟨by omega,λy=>by have:=k b y;omega⟩) (λb a=>by have:=k b a;omega) (by omega)
 obtain⟨g5,K5,M5,u5,D,⟨x9,W,rfl,rfl⟩,e5,X,ba,bb,bk,bm,bo⟩:=f.at_;have bp:=f.grown;refine⟨N1+(N2+(N3+(N4+N5))),U,w5,V,t5,sb,w1.heap.size,fb,w3.heap.size,?_,⟨?_,⟨u1++(u2++(u3++(u4++u5))),?_,?_⟩,⟨x9,W,D⟩,by omega,?_,?_,?_,?_,?_,?_,?_,λb a=>?_⟩⟩;rw[ij r1,ij (show runNT Tryz.prog N2 (crowd o w1 p) t1=_ from r2),ij r3,ij (show runNT Tryz.prog N4 (crowd v w3 z) t3=_ from r4)];exact r5;rw[f.size,z4,g.size,z2,j.size];rw[e5,e4,e3,e2,e1];simp only[Vo];refine J.app ?_ λb a=>(s b a).elim .inl λx=>.inr (.inl x);refine(xY n2 (K:=λb=>K b\/b=sb\/b=fb)).app ?_ λb a=>a;refine Q.app ?_ λb a=>(C b a).elim (λx=>x.elim .inl λy=>.inr (.inl y)) λx=>.inr (.inr x);exact(xY n4 (K:=λb=>K b\/b=sb\/b=fb)).app X λb a=>a;rw[f.keep sb (by omega) id,e];rw[f.keep _ (by omega) id,F _ (by omega),g.keep _ (by omega) id,c2];rw[f.keep fb (by omega) id,F _ (by omega),A];rw[f.keep _ (by omega) id,c4];rw[f.os,<-d];show w3.os=_;rw[g.os,<-c];exact j.os;rw[f.tape,<-d];show w3.tape=_;rw[g.tape,<-c];exact j.tape;rw[f.output,<-d];show w3.output=_;rw[g.output,<-c];exact j.output;rw[f.keep b (by omega) id,F _ (by omega),g.keep _ (by omega) id,o2 _ (by omega),j.keep b a id]
end
end Go.Tm
namespace Go.Tm
open Go.Proofs Go.Conc Go.ConcN Go.Conc.Lib Go.ConcR.Gen Go.ConcN.Gen
def Tj:(Tryz.f128.name== "runtime.NumGoroutine")=false:=by kernel_rfl
def Tk:Tryz.f128.body.isNone=false:=by kernel_rfl
section
variable {Wg ch sb fb N0:Nat} {C:Frame} {CS:List Frame} {sc:Array Value} {Kold:Nat->Prop} {W₁:World}
def Nt{K M w g l}(n:Jp Wg ch sb fb N0 sc Kold W₁ (C::CS) l K M g w){Ps:(Nat->Prop)->(Nat->Prop)->Value->World->Prop} (i:(Tryz.prog.info? 125).map (·.size)=some sc.size) (d:∀(Q) (m) (w') h,oP Wg ch sb fb N0 sc Kold W₁ K M w' h l->(∀b c e V,Ps b c V e->Run Tryz.prog true 195 Wg Q b c (G (m.finish V) (C::CS)) e)->Run Tryz.prog true 195 Wg Q K M (G (Frame.enter Tryz.prog 128 #[h,.func (.func 129) #[.agg sc] #[]] .normal) (m::C::CS)) w') (j:∀b c V w' a,RK 195 Wg b w' a->Ps b c V w'->Ps b c V a):Run Tryz.prog true 195 Wg (λb c g' w'=>∃V,g'=G (C.finish V) CS/\Ps b c V w') K M g w:=by obtain⟨N,O,h,P,R,S,o,p,q,r,s,u,x,y,z,A,B,D,E,F,H,I,J,rfl,k⟩:=n;change Run _ _ _ _ _ _ _ (Conc.served (G ((base 74).at _ (.inRegion CI (0::[1])::[.code AE,.inLoop oO,.inBlock 2,.code yi])) (C::CS)) _) _;rw[uc];simp only[CI,AE,oO,jQ,yi,Tryz.f74,uZ];(walk_nrm);refine Run.pure (.bool false) rfl rfl (by k_ne) (λ_=>rfl) (λ_=>rfl) ?_;(walk_nrm);refine Run.still rfl (λ_=>stepG_region_end) ?_;refine Run.still rfl (λ_=>stepG_seq) ?_;refine Run.still rfl (λ_=>stepG_cond (t:=false) rfl) ?_;simp only[Uz,↓reduceIte];refine Run.still rfl (λ_=>stepG_exit rfl) ?_;refine Run.still rfl (λ_=>stepG_seq) ?_;refine Run.still rfl (λ_=>stepG_region) ?_;simp only[UB,Ug,Uv,Nat.reduceAdd,Uo,List.range,List.range.loop];refine Run.pure h rfl rfl (by k_ne) (λ_=>rfl) (λ_=>rfl) ?_;(walk_nrm);refine Run.sO rfl rfl (by k_ne) rfl rfl Tryz.underlying125 rfl k.ksb k.st.sb_ i ?_;(walk_nrm);refine Run.pure (.func (.func 129) #[.agg sc] #[]) rfl rfl (by k_ne) (λ_=>by go_simp) (λ_=>by simp[go_sem]) ?_;(walk_nrm);refine Run.still rfl (λ_=>ub rfl rfl (by k_ne) rfl Tryz.func128 Tj Tk) ?_;(walk_nrm);refine d _ _ _ _ k λb c w' V L=>?_;rw[Frame.finish_at];(walk_nrm);refine Run.pure V rfl rfl (by k_ne) (λ_=>rfl) (λ_=>rfl) ?_;(walk_nrm);refine Run.still rfl (λ_=>stepG_region_end) ?_;refine Run.still rfl (λ_=>stepG_ret') ?_;refine Run.still rfl (λa=>stepG_leave (v:=V) rfl rfl Tryz.func74 (results_tmp (t:=2) rfl _ _ _) (events_results_tmp (t:=2) rfl _ _)) ?_;exact .stop λa f=>⟨V,rfl,j _ _ _ _ _ f L⟩
end
end Go.Tm
namespace Go.Tm
open Go.Proofs Go.Conc Go.ConcN Go.Conc.Lib Go.ConcR.Gen Go.ConcN.Gen
open Go.ConcR (KK WgAt stA smA rd wr mk DC0)
def sR(H:Nat->Option (Int×Int×Int))(i:Nat):Option Value:=(H i).map λh=>eY h.1 h.2.1 h.2.2
def oS:Option (Int×Int×Int)->Array Value
 |some (a,b,c)=>#[.int .i64 a,.int .i64 b,.int .i64 c]
 |none=>#[.int .i64 0,.int .i64 0,.int .i64 0]
def KI(H i):sR H i=if(H i).isSome then some (.agg (oS (H i)))else none:=by unfold sR;cases H i with|none=>rfl|some h=>rfl
def KJ(h):(oS h).size=3:=by cases h<;>rfl
def Ny(h):(oS h).all (·.oneCell')=true:=by cases h<;>simp[oS,Value.oneCell']
def KL(n:Nat)(H:Nat->Option (Int×Int×Int))(a:List Value):Prop:=∃l:List Nat,l.Nodup/\(∀i,i∈l↔i<n/\sR H i≠none)/\a=l.filterMap (sR H)
def AH(N0:Nat)(L:List Value)(K:Nat->Prop)(V:Value)(w:World):Prop:=lI w N0 66 kj V L.length (bG L)/\∀g,V.ownBlock=some g->K g
def AH.rely{N0 L K V w w₁ Wg}(h:AH N0 L K V w)(r:RK 195 Wg K w w₁):AH N0 L K V w₁:=⟨h.1.keep λg a=>r.keep g (h.2 g a),h.2⟩
section
variable {C:Frame} {CS:List Frame} {sc:Array Value} {Kold:Nat->Prop} {w:World} {n:Nat} {H:Nat->Option (Int×Int×Int)} {Srt:List Value->List Value}
def yj(w:World)(Kold:Nat->Prop)(sc:Array Value)(n:Nat)(H:Nat->Option (Int×Int×Int)):Prop:=
 ∀i,i<n->∀(Wg:Nat) (K:Nat->Prop) (w':World),(∀b,Kold b->K b)->(∀b,K b->b<w'.heap.size)->WgLive 195 Wg w'->w.heap.size<=w'.heap.size->(∀b,Kold b->w'.heap[b]? =w.heap[b]?)->∀(Q:aJ) (C:Frame) (cs:List Frame),
  (∀c d a,(∀b,K b->c b/\¬d b/\a.heap[b]? =w'.heap[b]?)->(∀b,c b->b<a.heap.size)->WgLive 195 Wg a->Run Tryz.prog false 195 Wg Q c d (G (C.finish (.tuple #[.agg (oS (H i)),.bool (H i).isSome])) cs) a)->
  Run Tryz.prog false 195 Wg Q K (λ_=>False) (G (Frame.enter Tryz.prog 125 #[.agg sc,.int .i64 i] .normal) (C::cs)) w'
def ug(w:World)(Kold:Nat->Prop)(sc:Array Value)(n:Nat)(H:Nat->Option (Int×Int×Int))(Srt:List Value->List Value):Prop:=
 ∀c,KL n H c->∀(Wg N0:Nat) (K M:Nat->Prop) (w':World) (d:Value),(∀b,Kold b->K b/\¬M b)->(∀b,K b->b<w'.heap.size)->¬M Wg->WgLive 195 Wg w'->w.heap.size<=w'.heap.size->(∀b,Kold b->w'.heap[b]? =w.heap[b]?)->lI w' N0 66 kj d c.length (bG c)->
  (∀g,d.ownBlock=some g->K g/\M g/\¬Kold g)->∀(Q:aJ) (C:Frame) (cs:List Frame),
  (∀e f a V,AH N0 (Srt c) e V a->Run Tryz.prog true 195 Wg Q e f (G (C.finish V) cs) a)->
  Run Tryz.prog true 195 Wg Q K M (G (Frame.enter Tryz.prog 128 #[d,.func (.func 129) #[.agg sc] #[]] .normal) (C::cs)) w'
structure Nz(Shun:Loc->Prop)(C:Frame)(CS:List Frame)(n:Nat)(H:Nat->Option (Int×Int×Int))(Srt:List Value->List Value)(w:World)(gs':Array Goroutine)(w':World)(t':Trace)(V:Value)(Wg ch:Nat):Prop where
 bes:Bes Tryz.prog (λl=>Shun l\/∃b,blk l=some b/\spB Wg ch b) gs' w' t' (G (C.finish V) CS)
 res:∃N0 K hs,w.heap.size<=N0/\KL n H hs/\AH N0 (Srt hs) K V w'/\∀b,K b->b<w'.heap.size/\¬spB Wg ch b
 os:w'.os=w.os
 tape:w'.tape=w.tape
 output:w'.output=w.output
 grown:w.heap.size<=w'.heap.size
 sp:w.heap.size<=Wg/\w.heap.size<=ch/\Wg<w'.heap.size/\ch<w'.heap.size
 old:∀b,b<w.heap.size->w'.heap[b]? =w.heap[b]?
def Q8{Wg0 K u}(h:Tch Wg0 K u){c x b}(e:c∈u)(f:c.act.touch?=some x)(d:blk x.loc=some b):K b\/b=Wg0:=by obtain⟨i,a,g,_⟩|⟨a,_⟩:=(h.t c e x f).2;rw[d]at a;cases a;exact .inl g;rw[d]at a;cases a;exact .inr rfl
def CJ{Shun}{ShB:Nat->Prop}(E:∀l,Shun l->∃b,blk l=some b/\ShB b){cM aM}(a6:sc[9]? =some (.slice aM n cM))(U:(Tryz.prog.info? 125).map (·.size)=some sc.size)(hn:n<2147483647) (hK:∀b,Kold b->b<w.heap.size/\¬ShB b) (T:∀b,ShB b->b<w.heap.size) (h0:0<w.heap.size) (gs) (sl) (t) (d:Bes Tryz.prog Shun gs w t (G (Frame.enter Tryz.prog 74 #[.agg sc] .normal) (C::CS))) (W:yj w Kold sc n H) (F:ug w Kold sc n H Srt):∃N gs' w' a7 t' V Wg ch,runNT Tryz.prog N (crowd gs w sl) t=(.next (crowd gs' w' a7),t')/\Nz Shun C CS n H Srt w gs' w' t' V Wg ch:=by
 have m:=d.past;obtain⟨N1,X,w1,a8,t1,sb,ch,fb,Wg,r1,p⟩:=Nw E a6 hK T h0 gs sl t d;obtain⟨o1,o2,o3,o4,o5⟩:=p.ord;obtain⟨u1,e1,Y⟩:=p.tr;obtain⟨x9,s,I⟩:=p.bes;have f:∀b,Kold b->b<w.heap.size:=λb d=>(hK b d).1;have J:∀b,b<w.heap.size->¬spB Wg ch b:=λb h k=>by rcases k with rfl|rfl<;>omega
 obtain⟨An,ba,bb⟩:=EY (Wg:=Wg) (ch:=ch) (fb:=fb) (K:=λb=>b=fb) (M:=λ_=>False) rfl (by omega);have Z:∀K,Stood Wg ch sb fb sc Kold w K w1:=λK=>⟨p.hsb,p.hfb,λb d=>p.old b (f b d)⟩
 have u:WgLive 195 Wg w1:=⟨0,0,p.hwg⟩
 have L:∀i,i<n->∀(ib:Nat) (K:Nat->Prop) (w':World),K sb->K fb->K ib->(∀b,Kold b->K b)->(∀b,K b->b<w'.heap.size)->(∀b,K b->b≠Wg)->WgLive 195 Wg w'->Stood Wg ch sb fb sc Kold w K w'->w'.heap[ib]? =some (.cells #[.int .i64 i] 3 (0,0))->
  Run Tryz.prog false 195 Wg (SWk Tryz.prog 195 Wg ch (eY 0 0 0) (sR H i)) K (λ_=>False) (born Tryz.prog {target:=.fn (.func 123) #[ptr Wg,ptr sb,ptr ib,ptr fb],args:=#[]}) w':=by
  intro i hi ib K w' k1 k2 k3 k4 k5 k6 O y bk;rw[KI];exact EX k1 k3 k2 O y.sb_ bk y.fb_ (KJ _) (Ny _) k6 U λQ C' q=>W i hi Wg K w' k4 k5 O (by have:=(Uk.1 y.sb_).1;have:=k5 sb k1;obtain⟨st,sm,h⟩:=O;have:=(Uk.1 (show w'.heap[Wg]? =some _ from h)).1;omega) y.old Q C' _ q
 have bm:∀i v,i<n->sR H i=some v->∃a b c,v=eY a b c:=λi v _ h=>by obtain⟨x,_,rfl⟩:=UN.1 h;exact⟨_,_,_,rfl⟩
 have B:=Ig (Wg:=Wg) (ch:=ch) (sb:=sb) (fb:=fb) (n:=n) (z:=eY 0 0 0) (An:=An) (HV:=sR H) (Fin:=Jp Wg ch sb fb w1.heap.size sc Kold w (C::CS)) (CS:=C::CS) (sc:=sc) (Kold:=Kold) (W₁:=w) w1.heap.size hn L
  (λK w' x0 x5 x8 x9 s aa ab ad af ag ak k1 k2 k3 k4 k5 k6 k7 k8=>KG hn bm ⟨by omega,by omega,λb d=>Ui (f b d) (by omega)⟩ bb K w' x0 x5 x8 x9 s aa ab ad af ag ak k1 k2 k3 k4 k5 k6 k7 k8)
  n (Ue _) (λb=>Kold b\/b=sb\/b=fb) w1 (.agg sc) undef (.chan (some ch)) x9 s (.slice aM n cM) undef undef undef undef undef (.inr (.inl rfl)) (.inr (.inr rfl)) (λb h=>.inl h)
  (λb h=>by rcases h with h|rfl|rfl; · have:=f b h;omega
            ·omega
            ·omega)
  (λb h=>by rcases h with h|rfl|rfl; · have:=f b h;omega
            ·omega
            ·omega) u (Z _) (Ue _)
 rw[Nat.sub_self]at B;have bo:∀(i:Nat) (A:MemOp) x b,t1[i]? =some A->A.act.touch?=some x->blk x.loc=some b->¬spB Wg ch b:=by intro i A x b ho hx an;rw[e1]at ho;obtain hm|hm:=Vf.1 (mem_of_getElem? ho);exact J b (Ji (m.seen A hm) hx an);obtain(h|rfl|rfl)|rfl:=Q8 Y hm hx an;exact J b (f b h);intro k;rcases k with rfl|rfl<;>omega;intro k;rcases k with rfl|rfl<;>omega;intro k;rcases k with rfl|rfl<;>omega
 have ao:NoRelease (stA Wg) t1:=by intro i hi;obtain⟨A,ho,P⟩:=UN.1 hi;rw[e1]at ho;obtain hm|hm:=Vf.1 (mem_of_getElem? ho);have:=m.seen A hm;rw[P]at this;have:Wg<w.heap.size:=this;omega;have:=Y.l A hm (by rw[P];rfl) 0;rw[P]at this;exact absurd this (Ut _)
 obtain⟨σ,bp⟩:=Np (N0:=w.heap.size) (shun:=ShB) E I T (by omega) (by omega) (by omega) (by omega) p.hwg p.hch (λb h=>by
  obtain h|rfl|rfl:=h
  ·exact⟨by have:=f b h;omega,J b (f b h),(hK b h).2⟩
  ·exact⟨by omega,λk=>by rcases k with rfl|rfl<;>omega,λx=>by have:=T _ x;omega⟩
  ·exact⟨by omega,λk=>by rcases k with rfl|rfl<;>omega,λx=>by have:=T _ x;omega⟩) bo ao B
 have ar:fA Wg ch X.size w.heap.size ShB:=⟨(Uk.1 I.g0).1,T,by omega,by omega,by omega⟩
 obtain⟨N2,bq,w2,br,t2,r2,o⟩:=phase ar hn ba I.past _ X w1 a8 t1 σ rfl bp;obtain⟨g2,K2,M2,hs2,a1,a2,a3,a4,a5⟩:=o.main;have ax:∀l,(Shun l\/∃b,blk l=some b/\spB Wg ch b)->∃b,blk l=some b/\(ShB b\/spB Wg ch b):=λl h=>h.elim (λh=>(E l h).imp λb x=>⟨x.1,.inl x.2⟩) λ⟨b,h1,h2⟩=>⟨b,h1,.inr h2⟩
 have j:=o.sp;have R:∀b,b<w.heap.size->w2.heap[b]? =w.heap[b]? :=λb d=>(o.old b d).trans (p.old b d);have b0:∃v6,oP Wg ch sb fb w1.heap.size sc Kold w K2 M2 w2 v6 hs2:=by obtain⟨x0,x5,v6,x7,x8,x9,s,aa,b1,b2,ab,ad,af,ag,ak,b4,b5,b6,b7,b8,ca,cb,cc,_,h⟩:=a2;exact⟨v6,h⟩
 have ay:=Nt (C:=C) (CS:=CS) a2 (Ps:=λK M V w'=>AH w1.heap.size (Srt hs2) K V w') U (λQ Cf w' v6 S q=>F hs2 a5 Wg w1.heap.size K2 M2 w' v6 (λb d=>⟨S.Ns b d,λhm=>absurd (a4 b hm).2.2 (by have:=f b d;omega)⟩) S.kl (λhm=>(a4 Wg hm).2.1 (.inl rfl)) S.live (Uf (by omega) S.base) S.st.old S.row (λg hg=>by obtain⟨q1,q2,_,_,_,q3⟩:=S.own g hg;exact⟨q1,q2,q3⟩) Q Cf _ λK' M' bs V hr=>q K' M' bs V hr) (λK' M' V w' bC r h=>h.rely r)
 obtain⟨N3,bx,w3,bA,t3,r3,D⟩:=nA (Shun:=λl=>Shun l\/∃b,blk l=some b/\spB Wg ch b) (ShB:=λb=>ShB b\/spB Wg ch b) ax ay bq br t2 ⟨a1,o.lv,o.past,λA bB=>by rw[o.size];exact o.few A bB⟩
  (λb d=>⟨(a3 b d).1,λk=>k.elim (a3 b d).2.2 (a3 b d).2.1⟩) (λb d=>d.elim (λh=>Ui (T b h) o.ga) λh=>h.elim (λe=>e▸j.1) λe=>e▸j.2) j.1
 obtain⟨g3,K3,M3,u3,c1,⟨V,rfl,c2⟩,c3,c4,c5,c6,c7,c8,c9⟩:=D.at_;refine⟨N1+(N2+N3),bx,w3,bA,t3,V,Wg,ch,?_,c1,⟨w1.heap.size,K3,hs2,by omega,a5,c2,λb d=>⟨(c7 b d).1,λk=>(c7 b d).2 (.inr k)⟩⟩,?_,?_,?_,?_,⟨by omega,by omega,Ui j.1 D.grown,Ui j.2 D.grown⟩,λb d=>?_⟩;rw[ij r1,ij r2,r3];rw[D.os,o.os,p.os];rw[D.tape,o.tape,p.tape];rw[D.output,o.output,p.output];exact Uf o.ga D.grown;rw[D.keep b (Ui d o.ga) λhm=>absurd (a4 b hm).2.2 (by omega)];exact R b d
end
end Go.Tm
namespace Go.Tm
def Gd.nxs{S P Post c c' n}(l:Gd S P Post c)(h:Nxs S P c c' n):Gd S P Post c':=by (refine⟨λk a=>h.2.1 k (Uf h.1 a),λτ e m=>?_⟩;have o:∀k<c.w.drawn,τ k=c.w.tape k:=λk a=>(e k (Ui a h.1)).trans (h.2.2.1 k a);have p:∀k,c.w.drawn<=k->S.fS (τ k):=λk a=>by obtain x|x:=Uh k c'.w.drawn;rw[e k x];exact h.2.1 k a;exact m k x);obtain⟨N,fr,w',g,b⟩:=l.2 τ o p;have j:=h.2.2.2 τ e;obtain f|hge:=Uh N n;exfalso;(have d:=gO P g j (Xh f);obtain⟨i,hi⟩:∃i,n-N=i+1:=⟨n-N-1,by omega⟩);(rw[hi]at d;obtain⟨x,xs,e0⟩:∃x xs,c'.cs++[aH]=x::xs:=by cases c'.cs<;>exact⟨_,_,rfl⟩);rw[e0]at d;obtain⟨v,b,_⟩|⟨ch,_,q,r⟩:=b;exact gone b d;exact sJ q r d;exact⟨N-n,fr,w',gO P j g hge,b⟩
def Gd.T6{S P Post c}(h:Gd S P Post c):Acc (λc' c=>∃n,0<n/\Nxs S P c c' n) c:=by (apply Vq;intro o;obtain⟨f,y,t⟩:=mL o;subst y;have z:∀n k,(f n).w.drawn<=k->S.fS ((f n).w.tape k):=by intro n;cases n with|zero=>exact h.1|succ n=>obtain⟨_,_,a,b,_⟩:=t n;exactλk A=>b k (Uf a A));(have e:∀k n,∃K,k<=K/\Nxs S P (f n) (f (n+k)) K:=by intro k;induction k with|zero=>exactλn=>⟨0,Ue _,.refl (z n)⟩|succ k B=>intro n;obtain⟨K,H,C⟩:=B n;obtain⟨m,I,D⟩:=t (n+k);exact⟨K+m,by omega,C.trans D⟩);(have p:∀n m i,i<(f n).w.drawn->i<(f m).w.drawn->(f n).w.tape i=(f m).w.tape i:=by intro n m i q r;obtain hnm|hnm:=Xc n m;obtain⟨k,rfl⟩:=WN hnm;obtain⟨_,_,a⟩:=e k n;exact(a.2.2.1 i q).symm;obtain⟨k,rfl⟩:=WN hnm;obtain⟨_,_,a⟩:=e k m;exact a.2.2.1 i r);(let τ:Nat->Question->Nat:=λi=>open Classical in if h:∃n,i<(f n).w.drawn then(f h.choose).w.tape i elseλ_=>0);(have g:∀n i,i<(f n).w.drawn->τ i=(f n).w.tape i:=by (intro n i hi;have d:∃n,i<(f n).w.drawn:=⟨n,hi⟩);show(open Classical in if h:∃n,i<(f n).w.drawn then(f h.choose).w.tape i elseλ_=>0)=_;rw[VX d];exact p _ _ i d.choose_spec hi);(have j:∀i,(f 0).w.drawn<=i->S.fS (τ i):=by intro i hi;by_cases d:∃n,i<(f n).w.drawn;obtain⟨n,q⟩:=d;rw[g n i q];obtain⟨_,_,a⟩:=e n 0;rw[Uo]at a;exact a.2.1 i hi;show S.fS (open Classical in if h:∃n,i<(f n).w.drawn then(f h.choose).w.tape i elseλ_=>0);rw[dif_neg d];exact mz);(obtain⟨N,fr,w',E,s⟩:=h.2 τ (g 0) j;obtain⟨K,J,u⟩:=e (N+1) 0;rw[Uo]at u;have F:=u.2.2.2 τ (g (N+1));have l:=gO P E F (by omega);obtain⟨i,hi⟩:∃i,K-N=i+1:=⟨K-N-1,by omega⟩);(rw[hi]at l;obtain⟨x,xs,e0⟩:∃x xs,(f (N+1)).cs++[aH]=x::xs:=by cases(f (N+1)).cs<;>exact⟨_,_,rfl⟩);rw[e0]at l;obtain⟨v,s,_⟩|⟨ch,_,r,G⟩:=s;exact gone s l;exact sJ r G l
def Fa{S Q G f g args a w₀}{Post:Value->World->Prop}{PreB:List PanicEntry->World->Prop}{c k ch0} (l:∀τ,(∀n<w₀.drawn,τ n=w₀.tape n)->Calls Q f args (av w₀ τ w₀.drawn) λe w'=>(∃v,e=.returned v/\Post v w')\/∃ch,Off ch/\e=.panicked ch/\PreB ch w') (T:Nxs S Q ⟨Frame.enter Q f args .normal,[],w₀⟩ c k) (U:c.fr=Frame.enter Q g a .normal) (π:Ren G) (V:∀x∈c.cs,Marks π x) (W:Dp π c.w) (m:∀x∈c.cs,x.mode=.run\/x.mode=.returning) (q:∀(cs) (τ),(∀n,c.w.drawn<=n->τ n=λ_=>1)->∃j d w1,runN Q j (lone (Frame.enter Q g a .normal) cs (av c.w τ c.w.drawn))=.next (lone d cs w1)/\d.mode=.panicking ch0/\d.defers=[]/\w1.heap=c.w.heap):∃p,PreB ch0 p/\p.heap.size=c.w.heap.size/\∀b:Nat,p.heap[b]? =c.w.heap[b]? \/p.heap[b]? =some (.deferred none):=by (obtain⟨X,n2,n3,n4⟩:=T;let τ:Nat->Question->Nat:=λn=>if n<c.w.drawn then c.w.tape n elseλ_=>1);(have s:∀n<c.w.drawn,τ n=c.w.tape n:=λn t=>Ud t;have u:∀n,c.w.drawn<=n->τ n=λ_=>1:=λn t=>Uc (by omega);have y:∀n<w₀.drawn,τ n=w₀.tape n:=λn t=>(s n (Ui t X)).trans (n3 n t);have Y:=n4 τ s;obtain⟨j,d,w1,J,Z,f2,B⟩:=q (c.cs++[aH]) τ u;rw[<-U]at J;have K:runN Q (k+j) (lone (Frame.enter Q f args .normal) [aH] (av w₀ τ w₀.drawn))=.next (lone d (c.cs++[aH]) w1):=by (have e:runN Q k (lone (Frame.enter Q f args .normal) [aH] (av w₀ τ w₀.drawn))=.next (lone c.fr (c.cs++[aH]) (av c.w τ c.w.drawn)):=Y);rw[runN_add,e];exact J);(obtain⟨e,p,C,E,F,_,z⟩:=l τ y [aH];have hE:∃N,runN Q N (lone (Frame.enter Q f args .normal) [aH] (av w₀ τ w₀.drawn))=.next (lone C [aH] p):=by rcases E with⟨v,rfl,_⟩|⟨ch,_,rfl,_⟩<;>exact F);(obtain⟨N,A⟩:=hE;have H:yl G w1 ch0 (lone d (c.cs++[aH]) w1):=by refine .up π Z (λx h=>?_) ?_ m (.refl _);(cases h with|head=>intro D L;rw[f2]at L;cases L|tail _ h=>exact V x h);intro r R o hr M;rw[B]at M;exact W r R o hr M);obtain I|hge:=Uh N (k+j);exfalso;(have h:=gO Q A K (Xh I);obtain⟨i,hi⟩:∃i,k+j-N=i+1:=⟨k+j-N-1,by omega⟩);(rw[hi]at h;obtain⟨x,xs,e0⟩:∃x xs,c.cs++[aH]=x::xs:=by cases c.cs<;>exact⟨_,_,rfl⟩);rw[e0]at h;obtain⟨v,rfl,_⟩|⟨ch,_,rfl,_⟩:=E;exact gone z h;exact sJ z.1 z.2.1 h;have h:=gO Q K A hge;obtain⟨O,P⟩:=E9 _ H h;obtain⟨v,rfl,_⟩|⟨ch,_,rfl,hp⟩:=E;have:=z.1;rw[O]at this;cases this;have e:=z.1;rw[O]at e;cases e;exact⟨p,hp,by rw[P.1,B],λb=>by rw[<-B];exact P.2 b⟩
end Go.Tm
namespace Go.Tm
open Go.Proofs Go.Conc Go.ConcN
def Ren.add{G:Nat}(π:Ren G)(r R:Nat)(d:∀X,¬π r X)(e:∀x,¬π x R)(f:r<G↔R<G):Ren G where
 rel a b:=π a b\/(a=r/\b=R)
 fn a b c hb hc:=by
  obtain hb|⟨rfl,rfl⟩:=hb
  ·obtain hc|⟨rfl,rfl⟩:=hc
   ·exact π.fn a b c hb hc
   ·exact absurd hb (d b)
  ·obtain hc|⟨_,rfl⟩:=hc
   ·exact absurd hc (d c)
   ·rfl
 inj a b c ha hb:=by
  obtain ha|⟨rfl,rfl⟩:=ha
  ·obtain hb|⟨rfl,rfl⟩:=hb
   ·exact π.inj a b c ha hb
   ·exact absurd ha (e a)
  ·obtain hb|⟨rfl,_⟩:=hb
   ·exact absurd hb (e b)
   ·rfl
 dF a b h:=by
  obtain h|⟨rfl,rfl⟩:=h
  ·exact π.dF a b h
  ·exact f
def Ren.ND{G π r R}{a:∀X,¬π r X}{b:∀x,¬π x R}{c:r<G↔R<G}:Ren.le π (π.add r R a b c):=λ_ _ h=>.inl h
section
variable {S:Kn} {P:Program} {G:Nat}
def bw.keep{Pr}{π:Ren G}{w W w' W':World}(h:bw S Pr π w W)(k1:∀b,b<w.heap.size->w'.heap[b]? =w.heap[b]?)(j:∀b,b<W.heap.size->W'.heap[b]? =W.heap[b]?)(k:w.heap.size<=w'.heap.size)(g:W.heap.size<=W'.heap.size):bw S Pr π w' W':=
 ⟨λr R a=>by rw[k1 r (h.lt a).1,j R (h.lt a).2];exact h.obj r R a,λr R a d=>by rw[k1 r (h.lt a).1];exact h.vt r R a d,λR d=>Ui (h.wI R d) g,Uf h.gw k,Uf h.gW g,by obtain⟨c,e,f,i⟩:=h.w0;exact⟨c,e,f,(k1 0 (Uk.1 i).1).trans i⟩⟩
def bw.add{Pr π w W}(h:bw S Pr π w W){r R}{e:∀X,¬π r X}{f:∀x,¬π x R}{g:r<G↔R<G}{o O}(e1:w.heap[r]? =some o)(j:W.heap[R]? =some O)(k:fG S (π.add r R e f g) o O)(d:¬Pr R):bw S Pr (π.add r R e f g) w W:=by refine⟨λa b c=>?_,λa b c i=>?_,h.wI,h.gw,h.gW,h.w0⟩;obtain c|⟨rfl,rfl⟩:=c;obtain⟨o',l,a1,m,n⟩:=h.obj a b c;exact⟨o',l,a1,m,n.mono Ren.ND⟩;exact⟨o,O,e1,j,k⟩;obtain c|⟨rfl,rfl⟩:=c;exact h.vt a b c i;exact absurd i d
end
def Im{G}(π:Ren G)(L)(f:∀v∈L,∃a b c,v=eY a b c)(k):VsR π (bG L++da kj k).toArray (bG L++da kj k).toArray:=by (refine aZ.refl λx hx=>?_;have hx:x∈bG L++da kj k:=by simpa using hx);obtain hx|hx:=Vx.1 hx;obtain⟨v,g,d⟩:=XA.1 hx;obtain⟨a,b,c,rfl⟩:=f v g;simp[eY,Value.cells]at d;rcases d with rfl|rfl|rfl<;>exact .int _ _;obtain⟨l,h,e⟩:=XM.1 hx;have:=XN h;subst this;simp[kj]at e;subst e;exact .int _ _
section
variable {S:Kn} {fs:Array Func} {Post PostR:Value->World->Prop} {dH:World->Value->List Value->Prop} {c₀:Gh}
def Fb(S:Kn)(fs:Array Func)(dH:World->Value->List Value->Prop)(c₀:Gh):Prop:=∀(c:Gh) (k:Nat) (v:Value) (π:Ren Tryz.prog.globals.size),Nxs S (ah Tryz.prog fs) c₀ c k->c.fr=Frame.enter (ah Tryz.prog fs) 74 #[v] .normal->(∀x∈c.cs,Marks π x)->Dp π c.w->(∀x∈c.cs,x.mode=.run\/x.mode=.returning)->∃L,dH c.w v L
def nD(S:Kn)(fs:Array Func)(Post:Value->World->Prop)(dH:World->Value->List Value->Prop):Prop:=∀(c:Gh) (v:Value) (C:Frame) (cs:List Frame) (L:List Value) (cap:Nat),c.fr=Frame.enter (ah Tryz.prog fs) 74 #[v] .normal->c.cs=C::cs->Gd S (ah Tryz.prog fs) Post c->dH c.w v L->(L≠[]->L.length<=cap/\cap<=maxLen)->∃V w' k,0<k/\Nxs S (ah Tryz.prog fs) c ⟨C.finish V,cs,w'⟩ k/\c.w.heap.size<=w'.heap.size/\(∀b,b<c.w.heap.size->w'.heap[b]? =c.w.heap[b]?)/\((L=[]/\V=.slice none 0 0)\/∃r,L≠[]/\c.w.heap.size<=r/\V=.slice (some ⟨r,0,none⟩) L.length cap/\w'.heap[r]? =some (.cells (bG L++da kj (cap-L.length)).toArray 66 (0,0)))
def uh(S:Kn)(dH:World->Value->List Value->Prop):Prop:=∀(Pr:Nat->Prop) (π:Ren Tryz.prog.globals.size) (w W:World) (v A:Value) (L:List Value),aA π v A->bw S Pr π w W->dH w v L->(∀g,S.dF g=true->π g g)->∃sc n H d Kold f h,A=.agg sc/\sc[9]? =some (.slice f n h)/\(Tryz.prog.info? 125).map (·.size)=some sc.size/\n<2147483647/\(∀b,Kold b->∃r,π r b)/\yj W Kold sc n H/\ug W Kold sc n H d/\(∀e,KL n H e->d e=L)/\∀x∈L,∃a b c,x=eY a b c
def join(ht:Tab S Tryz.prog fs)(ad:∀g,S.calm g)(bq:∀f,S.ent f=true->Tryz.prog.inits.idxOf? f=none)(br:0<Tryz.prog.globals.size) {Pr} {s} {Z} (af:∀v V w' W' (ag),Post v w'->aA ag v V->bw S Pr ag w' W'->iQ Pr s Z ag W'->PostR V W') (ay:Fb S fs dH c₀) (a1:nD S fs Post dH) (bs:uh S dH) {c} (a6:Acc (λc' c=>∃n,0<n/\Nxs S (ah Tryz.prog fs) c c' n) c):∀(k) (π) (F) (CS) (W) (gs) (sl) (t) (Shun) (ShB:Nat->Prop),Nxs S (ah Tryz.prog fs) c₀ c k->(∀l,Shun l->∃b,blk l=some b/\ShB b)->iQ Pr s Z π W->Cp S Tryz.prog fs Pr Post π c F CS W->Bes Tryz.prog Shun gs W t ⟨F,CS,.running,none,none⟩->(∀b,ShB b->b<W.heap.size/\¬∃r,π r b)->b9 Tryz.prog PostR (crowd gs W sl) t:=by induction a6 with|intro c _ ih=>(intro k π F CS W gs sl t Shun ShB hN E bx h hb a7;obtain⟨g0,⟨q,hL⟩,hP,hF⟩:=hb;obtain⟨N,I,W1,ak,t1,q1,d,D,FR,bA,k1,r1,r2,r3,r4,r5,r6,r7,r8,r9,an⟩:=EU [] ht ad E h.ra.acc _ π F CS W gs sl t q (Ue _) h (by simpa using g0) hL hP hF a7;have aa:=bx.chg r7;have i:∀b,ShB b->b<W1.heap.size/\¬∃r,d r b:=λb hb=>⟨Ui (a7 b hb).1 r7.size,r6 b hb⟩);obtain⟨a8,he⟩|⟨f,a,A,hs,⟨bB,ha⟩,e1,e2,bC,J,p,ao,ar,ba⟩:=r8;have ab:=a8.cs;rw[he.1]at ab;cases ab;exact(KM ht bq E af _ d D FR W1 I ak t1 q1 (Ue _) aa a8 he (by simpa using r3) r4 r5 r9 i).back r1;have hf:=(ht.stop f hs).1;(have hf:f=74:=hf;subst hf;obtain⟨v,rfl⟩:∃v,a=#[v]:=by obtain⟨l⟩:=a;match l,bB with| [v],_=>exact⟨v,rfl⟩);(obtain⟨V0,rfl⟩:∃V0,A=#[V0]:=by have h1:A.size=1:=ha.1.symm;clear ha e2 r3;obtain⟨l⟩:=A;match l,h1 with| [x],_=>exact⟨x,rfl⟩);(have hv:=ha.2 0 v V0 rfl rfl;have M:∀x∈D.cs,x.mode=.run\/x.mode=.returning:=λx u=>by obtain⟨y,hy⟩:=J.left x u;exact hy.calm);(have O:∀x∈D.cs,Marks d x:=λx u=>by obtain⟨y,hy⟩:=J.left x u;exact hy.marks);(obtain⟨L,ax⟩:=ay D (k+k1) v d (hN.trans an) e1 O (p.dp λ_ _ h=>h) M;obtain⟨sc,n,H,cp,Kold,aM,cM,rfl,q1,q2,q3,q4,q5,q6,q7,q8⟩:=bs Pr d D.w W1 v V0 L hv p ax ba;obtain⟨C,cs,Q⟩:∃C cs,D.cs=C::cs:=by cases u:D.cs with|nil=>exact absurd u bC|cons C cs=>exact⟨C,cs,rfl⟩);(rw[Q]at J;obtain⟨C',CS',rfl,b0,bb⟩:∃C' CS',bA=C'::CS'/\bg S d C C'/\bt (bg S d) cs CS':=by cases J with|cons a b=>exact⟨_,_,rfl,a,b⟩);(have b1:Bes Tryz.prog Shun I W1 t1 (G (Frame.enter Tryz.prog 74 #[.agg sc] .normal) (C'::CS')):=⟨by rw[e2]at r3;simpa[G]using r3,⟨_,r4⟩,r5,r9⟩);obtain⟨N2,b2,W2,b3,t2,V,Wg,ch,b4,o⟩:=CJ (C:=C') (CS:=CS') E q1 q2 q3 (λb hb=>by obtain⟨r,hr⟩:=q4 b hb;exact⟨(p.lt hr).2,λx=>(i b x).2 ⟨r,hr⟩⟩) (λb hb=>(i b hb).1) (Ui br p.gW) I ak t1 b1 q5 q6;(obtain⟨N0,K,b5,cq,hh,z,b6⟩:=o.res;rw[q7 b5 hh]at z;have bk:∀l,(Shun l\/∃b,blk l=some b/\spB Wg ch b)->∃b,blk l=some b/\(ShB b\/spB Wg ch b):=λl h=>h.elim (λh=>(E l h).imp λb x=>⟨x.1,.inl x.2⟩) λ⟨b,h1,h2⟩=>⟨b,h1,.inr h2⟩);(have B:∀b,(ShB b\/spB Wg ch b)->b<W2.heap.size/\¬∃r,d r b:=λb hb=>by obtain hb|hb:=hb;exact⟨Ui (i b hb).1 o.grown,(i b hb).2⟩;refine⟨hb.elim (λe=>e▸o.sp.2.2.1) (λe=>e▸o.sp.2.2.2),λ⟨r,hr⟩=>?_⟩;have h1:=(p.lt hr).2;have:=o.sp;rcases hb with rfl|rfl<;>omega);(have b7:∀V w',(⟨C.finish V,cs,w'⟩:Gh).Flat:=λV w' b hb=>by refine ao b ?_;rw[Q];simp only[mK]at hb;rw[XB,XY];exact hb);(have go:∀(V1:Value) (w1:World) (T:Nat) (j:Ren Tryz.prog.globals.size),0<T->Nxs S (ah Tryz.prog fs) D ⟨C.finish V1,cs,w1⟩ T->Ren.le d j->(∀r R,j r R->d r R\/W1.heap.size<=R)->aA j V1 V->bw S Pr j w1 W2->(∀b,(ShB b\/spB Wg ch b)->¬∃r,j r b)->b9 Tryz.prog PostR (crowd I W1 ak) t1:=by (intro V1 w1 T j U m Y b8 ca cb cc;have bm:Cp S Tryz.prog fs Pr Post j ⟨C.finish V1,cs,w1⟩ (C'.finish V) CS' W2:=⟨(b0.mono Y).finish ca,bb.mono λ_ _ x=>bg.mono Y x,cb,b7 V1 w1,ar.nxs m,λg hg=>Y _ _ (ba g hg)⟩);exact(ih ⟨C.finish V1,cs,w1⟩ ⟨k1+T,by omega,an.trans m⟩ (k+k1+T) j (C'.finish V) CS' W2 b2 b3 t2 _ _ ((hN.trans an).trans m) bk (aa.still o.os o.output o.grown o.old b8 Y) bm o.bes λb hb=>⟨(B b hb).1,cc b hb⟩).back b4);refine b9.back ?_ r1;obtain⟨rfl,cd⟩|⟨g,cap,rfl,cr,bo,cf,cg,ck⟩:=z.1.2;have bp:=UH cd;obtain⟨V1,w1,T,U,m,s1,s2,hV⟩:=a1 D v C cs L 0 e1 Q ar ax (λh=>absurd bp h);obtain⟨_,rfl⟩|⟨r,cl,_⟩:=hV;exact go _ w1 T d U m (Ren.le_refl _) (λ_ _ h=>.inl h) (.iL 0 0) (p.keep s2 o.old s1 o.grown) λb hb=>(B b hb).2;exact absurd bp cl;obtain⟨V1,w1,T,U,m,s1,s2,hV⟩:=a1 D v C cs L cap e1 Q ar ax (λ_=>⟨cf,cg⟩);obtain⟨rfl,_⟩|⟨r,_,cv,rfl,hr⟩:=hV;simp at ck;have cm:=(Uk.1 bo).1;(have cn:=(Uk.1 hr).1;have n1:∀X,¬d r X:=λX hX=>by have:=(p.lt hX).1;omega);(have n2:∀x,¬d x g:=λx u=>by have:=(p.lt u).2;omega);(have n3:r<Tryz.prog.globals.size↔g<Tryz.prog.globals.size:=by have:=p.gw;have:=p.gW;omega);refine go _ w1 T (d.add r g n1 n2 n3) U m Ren.ND (λ_ _ h=>h.imp id λh=>by rw[h.2];omega) (.slice _ _ (.mk (.inr ⟨rfl,rfl⟩))) ((p.keep s2 o.old s1 o.grown).add hr bo (.cells 66 (Im _ L q8 _) (.inl rfl)) (λhp=>by have:=p.wI _ hp;omega)) λb hb ⟨x,u⟩=>?_;obtain u|⟨_,rfl⟩:=u;exact(B b hb).2 ⟨x,u⟩;obtain hb|hb:=hb;have:=(i b hb).1;omega;exact(b6 b (z.2 b rfl)).2 hb
end
end Go.Tm

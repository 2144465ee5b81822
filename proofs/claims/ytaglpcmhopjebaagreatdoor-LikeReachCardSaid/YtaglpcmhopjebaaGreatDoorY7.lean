import Derived.Conc.SmallLaws
import Derived.Test.YtaglpcmhopjebaaGreatDoorY6
set_option linter.all false
set_option maxRecDepth 100000
set_option maxHeartbeats 20000000
namespace Go.Tm
open Go.Proofs Go.Conc Go.ConcN Go.Conc.Lib Go.ConcR.Gen Go.ConcN.Gen
open Go.ConcR (KK WgAt stA smA rd wr mk DC0)
def Qq:(Tryz.prog.info? 185).map (·.size)=some 1:=by kernel_rfl
noncomputable def NZ:Code:=Tryz.f74.body.getD .skip
noncomputable def pw:Array Oper:=match Tryz.f74.body with|some (.seq _ (.seq (.region _ ops _) _))=>ops|_=>#[]
noncomputable def gL:Code:=match Tryz.f74.body with|some (.seq _ (.seq _ c))=>c|_=>.skip
noncomputable def px:Array Oper:=match gL with| .seq (.region _ ops _) _=>ops|_=>#[]
noncomputable def me:Code:=match gL with| .seq _ c=>c|_=>.skip
section
variable {CS:List Frame} {sc:Zq} {K M:Nat->Prop} {w:x6}
noncomputable def rJ(sb:Nat)(a b c d:Zj):Zq:=#[a,ptr sb,.slice none 0 0,b,c,undef,undef,undef,d,undef,undef,undef,undef,undef,undef,undef,undef,undef,undef,undef,undef,undef,undef,undef,undef,undef,undef,undef,undef,undef,undef,undef]
def TR(j:∀b,K b->b<w.heap.size):Run Tryz.prog true 195 0 (λh o g w'=>∃sb,w.heap.size<=sb/\w'.heap[sb]? =some (.cells sc 125 (0,0))/\h sb/\(∀b,h b->K b\/b=sb)/\g=G ((base 74).at ⟨rJ sb (.agg sc) undef undef undef,[]⟩ [.inRegion pw [0,1,2],.code gL]) CS) K M (G (Frame.enter Tryz.prog 74 #[.agg sc] .normal) CS) w:=by rw[enter_at (c:=NZ) #[.agg sc] Tryz.func74 rfl];(walk_nrmf Tryz.f74);simp only[NZ,Tryz.f74,WB,pw,gL,rJ];refine Run.still rfl (λ_=>stepG_seq) ?_;refine Run.still rfl (λ_=>stepG_region) ?_;simp only[U9,UM,UZ,Nat.reduceAdd,UR,List.range,List.range.loop];refine Run.fresh (ob:=.cells sc 125 (0,0)) (λm=>.pointer (some ⟨m,0,none⟩)) rfl rfl (by k_ne) (λa=>by go_simp) (λa=>by simp[go_sem, *]) (λm w2 k i d l f=>?_) j;(walk_nrm);refine Run.pure (.slice none 0 0) rfl rfl (by k_ne) (λ_=>rfl) (λ_=>rfl) ?_;(walk_nrm);refine Run.still rfl (λ_=>stepG_region_end) ?_;refine Run.still rfl (λ_=>stepG_seq) ?_;refine Run.still rfl (λ_=>stepG_region) ?_;simp only[U9,UM,UZ,Nat.reduceAdd,UR,List.range,List.range.loop];exact .stop λa e=>⟨m,k,(e.keep m (.inr rfl)).trans d,.inr rfl,λb n=>n,rfl⟩
def IA(a):(Instr.makeChan 185 (.i 0)).run Tryz.prog a=.ok (.chan (some a.heap.size)) (a.alloc (.chan 0 #[] false 0 0 false)):=by obtain⟨i,b,_⟩:=nL;have:=run_makeChan (P:=Tryz.prog) (w:=a) Tryz.underlying185 b .i64 0 (by omega) (by omega);simpa using this
def zL(a es):(Instr.makeChan 185 (.i 0)).events Tryz.prog a es=es:=by obtain⟨i,b,_⟩:=nL;have:=events_makeChan (P:=Tryz.prog) (w:=a) Tryz.underlying185 b .i64 0 (by omega) (by omega) es;simpa using this
def N6(sb a):stepG Tryz.prog true (G ((base 74).at ⟨rJ sb (.agg sc) undef undef undef,[]⟩ [.inRegion pw [0,1,2],.code gL]) CS) a= .go (G ((base 74).at ⟨rJ sb (.agg sc) undef undef (.chan (some a.heap.size)),[]⟩ [.inRegion pw [1,2],.code gL]) CS) {a with heap:=a.heap.push (.chan 0 #[] false 0 0 false)} #[]:=by simp only[pw,gL,Tryz.f74,rJ];rw[stepG_value (v:=.chan (some a.heap.size)) (w':={a with heap:=a.heap.push (.chan 0 #[] false 0 0 false)}) rfl rfl (by k_ne) (by simp[go_sem,IA])];simp[listed,go_sem,seen,zL]
def TS{sb ch}(l:∀b,K b->b<w.heap.size)(r:0<w.heap.size):Run Tryz.prog true 195 0 (λj s g w'=>∃fb,w.heap.size<=fb/\w'.heap[fb]? =some (.cells #[.chan (some ch)] 185 (0,0))/\j fb/\(∀b,j b->K b\/b=fb)/\g=G ((base 74).at ⟨rJ sb (.agg sc) (ptr fb) undef (.chan (some ch)),[]⟩ [.inRegion px [0],.code me]) CS) K M (G ((base 74).at ⟨rJ sb (.agg sc) undef undef (.chan (some ch)),[]⟩ [.inRegion pw [1,2],.code gL]) CS) w:=by simp only[pw,px,me,gL,Tryz.f74,rJ];refine Run.fresh (ob:=.cells #[.chan none] 185 (0,0)) (λm=>.pointer (some ⟨m,0,none⟩)) rfl rfl (by k_ne) (λa=>by go_simp) (λa=>by simp[go_sem, *]) (λm w2 n k d o h=>?_) l;(walk_nrm);refine Run.store (cells:=#[.chan (some ch)]) rfl rfl (by k_ne) rfl rfl rfl d Qq rfl (by simp[Value.oneCell']) (.inr rfl) (.inr rfl) (by omega) (λw3 i c p f=>?_);(walk_nrm);refine Run.still rfl (λ_=>stepG_region_end) ?_;refine Run.still rfl (λ_=>stepG_seq) ?_;refine Run.still rfl (λ_=>stepG_region) ?_;simp only[U9,UM,UZ,Nat.reduceAdd,UR,List.range,List.range.loop];exact .stop λa e=>⟨m,n,(e.keep m (.inr rfl)).trans c,.inr rfl,λb q=>q,rfl⟩
def K4{sb ch fb}(a):stepG Tryz.prog true (G ((base 74).at ⟨rJ sb (.agg sc) (ptr fb) undef (.chan (some ch)),[]⟩ [.inRegion px [0],.code me]) CS) a= .go (G ((base 74).at ⟨rJ sb (.agg sc) (ptr fb) (ptr a.heap.size) (.chan (some ch)),[]⟩ [.inRegion px [],.code me]) CS) {a with heap:=a.heap.push (.cells #[.int .u64 0,.int .u32 0] 195)} #[]:=by simp only[px,me,gL,Tryz.f74,rJ];rw[stepG_value (v:=ptr a.heap.size) (w':={a with heap:=a.heap.push (.cells #[.int .u64 0,.int .u32 0] 195)}) rfl rfl (by k_ne) (by go_simp)];simp[listed,go_sem,seen];rfl
def TU{sb ch fb Wg n a b}(c:sc[9]? =some (.slice b n a))(d:K sb)(hsb:w.heap[sb]? =some (.cells sc 125 (0,0))):Run Tryz.prog true 195 0 (λi k g w'=>∃j e,i=K/\g=G ((base 74).at ⟨tf sb fb Wg n 0 (.agg sc) undef (.chan (some ch)) j e (.slice b n a) undef undef undef undef undef,[]⟩ [.code nU,.inLoop nU,.inBlock 0,.code ki]) CS) K M (G ((base 74).at ⟨rJ sb (.agg sc) (ptr fb) (ptr Wg) (.chan (some ch)),[]⟩ [.inRegion px [],.code me]) CS) w:=by simp only[px,me,gL,nU,ki,Tryz.f74,rJ,tf];refine Run.still rfl (λ_=>stepG_region_end) ?_;refine Run.still rfl (λ_=>stepG_seq) ?_;refine Run.still rfl (λ_=>stepG_seq) ?_;refine Run.still rfl (λ_=>stepG_region) ?_;simp only[U9,UM,UZ,Nat.reduceAdd,UR,List.range,List.range.loop];refine Run.pure (ptr sb) rfl rfl (by k_ne) (λ_=>by go_simp) (λ_=>by simp[go_sem]) ?_;(walk_nrm);refine Run.pure (.pointer (some ⟨sb,9,none⟩)) rfl rfl (by k_ne) (λ_=>by go_simp) (λ_=>by simp[go_sem]) ?_;(walk_nrm);refine Run.Fq (A:=⟨sb,9,none⟩) (v:=.slice b n a) rfl rfl (by k_ne) rfl rfl rfl Tryz.underlying58 rfl d (by simp[World.cell?,hsb,c]) ?_;(walk_nrm);refine Run.pure (.i n) rfl rfl (by k_ne) (λ_=>by go_simp) (λ_=>by simp[go_sem]) ?_;(walk_nrm);refine Run.pure (.i 0) rfl rfl (by k_ne) (λ_=>rfl) (λ_=>rfl) ?_;(walk_nrm);refine Run.still rfl (λ_=>stepG_region_end) ?_;refine Run.still rfl (λ_=>stepG_block) ?_;refine Run.still rfl (λ_=>stepG_loop) ?_;exact .stop λf h=>⟨_,_,rfl,rfl⟩
def iy{P a b m m1 t t1}(h:runNT P a m t=(.next m1,t1)):runNT P (a+b) m t=runNT P b m1 t1:=by rw[runNT_add,h]
structure Pro(Shun:Loc->Prop)(K:Nat->Prop)(CS:List Frame)(sc:Zq)(aM:Option Addr)(n cM:Nat)(w:x6)(ng:Nat)(t:Trace)(gs':Array Zx)(w':x6)(t':Trace)(sb ch fb Wg:Nat):Prop where
 size:gs'.size=ng
 tr:∃u,t'=t++u/\Tch 0 (λb=>K b\/b=sb\/b=fb) u
 bes:∃x9 x10,Bes Tryz.prog Shun gs' w' t' (G ((base 74).at ⟨tf sb fb Wg n 0 (.agg sc) undef (.chan (some ch)) x9 x10 (.slice aM n cM) undef undef undef undef undef,[]⟩ [.code nU,.inLoop nU,.inBlock 0,.code ki]) CS)
 ord:w.heap.size<=sb/\sb<ch/\ch<fb/\fb<Wg/\Wg<w'.heap.size
 hsb:w'.heap[sb]? =some (.cells sc 125 (0,0))
 hch:w'.heap[ch]? =some (.chan 0 #[] false 0 0 false)
 hfb:w'.heap[fb]? =some (.cells #[.chan (some ch)] 185 (0,0))
 hwg:w'.heap[Wg]? =some (.cells #[.int .u64 0,.int .u32 0] 195)
 os:w'.os=w.os
 tape:w'.tape=w.tape
 output:w'.output=w.output
 old:∀b,b<w.heap.size->w'.heap[b]? =w.heap[b]?
def FD{w:x6}{d:Nat}{ob:Obj}{b:Nat}(h:b<w.heap.size):({w.at d with heap:=w.heap.push ob}:x6).heap[b]? =w.heap[b]? :=by show(w.heap.push ob)[b]? =_;rw[VD,UG (by omega)]
def FE{w:x6}{d:Nat}{ob:Obj}:({w.at d with heap:=w.heap.push ob}:x6).heap[w.heap.size]? =some ob:=by show(w.heap.push ob)[w.heap.size]? =_;simp
def AZ{w:x6}{d:Nat}{ob:Obj}:({w.at d with heap:=w.heap.push ob}:x6).heap.size=w.heap.size+1:=by simp
def N7{Shun:Loc->Prop}{ShB:Nat->Prop}(h:∀l,Shun l->∃b,blk l=some b/\ShB b){n Y Z}(H:sc[9]? =some (.slice Z n Y)) (i:∀b,K b->b<w.heap.size/\¬ShB b) (k:∀b,ShB b->b<w.heap.size) (h0:0<w.heap.size) (E) (sl) (t) (a:Bes Tryz.prog Shun E w t (G (Frame.enter Tryz.prog 74 #[.agg sc] .normal) CS)):∃N gs' w' I t' sb ch fb Wg,runNT Tryz.prog N (crowd E w sl) t=(.next (crowd gs' w' I),t')/\Pro Shun K CS sc Z n Y w E.size t gs' w' t' sb ch fb Wg:=by
 obtain⟨N1,o,w1,p,t1,r1,j⟩:=nS h (TR (CS:=CS) (sc:=sc) (M:=λ_=>False) (λb a=>(i b a).1)) E sl t a i k h0;obtain⟨g1,K1,M1,u1,⟨s1,⟨q1,l1⟩,p1,f1⟩,⟨sb,aa,q,r,s,rfl⟩,e1,J,af,ag,L,ak,an⟩:=j.at_;have u:=(L sb r).1;obtain⟨N2,O,d2,P,t2,u2,r2,z2,e2,n2,s2⟩:=yp (w:=w1) (g':=λm=>G ((base 74).at ⟨rJ sb (.agg sc) undef undef (.chan (some m)),[]⟩ [.inRegion pw [1,2],.code gL]) CS) rfl (N6 sb) _ w1.drawn o p t1 q1 (UI _) s1 l1 p1 f1;generalize c:({w1.at d2 with heap:=w1.heap.push (.chan 0 #[] false 0 0 false)}:x6)=w2 at r2 s2;have ao:w2.heap.size=w1.heap.size+1:=by rw[<-c];exact AZ
 have o2:∀b,b<w1.heap.size->w2.heap[b]? =w1.heap[b]? :=λb a=>by rw[<-c];exact FD a
 have c2:w2.heap[w1.heap.size]? =some (.chan 0 #[] false 0 0 false):=by rw[<-c];exact FE
 have ar:=j.grown;obtain⟨N3,v,w3,z,t3,r3,g⟩:=nS h (TS (CS:=CS) (sc:=sc) (sb:=sb) (ch:=w1.heap.size) (w:=w2) (K:=λb=>K b\/b=sb) (M:=λ_=>False) (λb a=>a.elim (λx=>by have:=(i b x).1;omega) λx=>by omega) (by omega)) O P t2 s2
  (λb a=>a.elim (λx=>⟨by have:=(i b x).1;omega,(i b x).2⟩) λx=>⟨by omega,λy=>by have:=k b y;omega⟩) (λb a=>by have:=k b a;omega) (by omega)
 obtain⟨g3,K3,M3,u3,⟨s3,⟨q3,l3⟩,p3,f3⟩,⟨fb,ab,A,B,C,rfl⟩,e3,Q,ax,ay,R,aK,aR⟩:=g.at_;have ad:=(R fb B).1;have a1:=g.grown;obtain⟨N4,S,d4,T,t4,u4,r4,z4,e4,n4,s4⟩:=yp (w:=w3) (g':=λm=>G ((base 74).at ⟨rJ sb (.agg sc) (ptr fb) (ptr m) (.chan (some w1.heap.size)),[]⟩ [.inRegion px [],.code me]) CS) rfl K4 _ w3.drawn v z t3 q3 (UI _) s3 l3 p3 f3;generalize d:({w3.at d4 with heap:=w3.heap.push (.cells #[.int .u64 0,.int .u32 0] 195)}:x6)=w4 at r4 s4;have a6:w4.heap.size=w3.heap.size+1:=by rw[<-d];exact AZ
 have F:∀b,b<w3.heap.size->w4.heap[b]? =w3.heap[b]? :=λb a=>by rw[<-d];exact FD a
 have c4:w4.heap[w3.heap.size]? =some (.cells #[.int .u64 0,.int .u32 0] 195):=by rw[<-d];exact FE
 have e:w4.heap[sb]? =some (.cells sc 125 (0,0)):=by rw[F sb (by omega),g.keep sb (by omega) id,o2 sb u,q]
 obtain⟨N5,U,w5,V,t5,r5,f⟩:=nS h (TU (CS:=CS) (sc:=sc) (sb:=sb) (fb:=fb) (ch:=w1.heap.size) (Wg:=w3.heap.size) (w:=w4) (K:=λb=>K b\/b=sb\/b=fb) (M:=λ_=>False) H (.inr (.inl rfl)) e) S T t4 s4
  (λb a=>a.elim (λx=>⟨by have:=(i b x).1;omega,(i b x).2⟩) λx=>⟨by omega,λy=>by have:=k b y;omega⟩) (λb a=>by have:=k b a;omega) (by omega)
 obtain⟨g5,K5,M5,u5,D,⟨x9,W,rfl,rfl⟩,e5,X,a7,a8,ba,bb,bk⟩:=f.at_;have bm:=f.grown;refine⟨N1+(N2+(N3+(N4+N5))),U,w5,V,t5,sb,w1.heap.size,fb,w3.heap.size,?_,⟨?_,⟨u1++(u2++(u3++(u4++u5))),?_,?_⟩,⟨x9,W,D⟩,by omega,?_,?_,?_,?_,?_,?_,?_,λb a=>?_⟩⟩;rw[iy r1,iy (show runNT Tryz.prog N2 (crowd o w1 p) t1=_ from r2),iy r3,iy (show runNT Tryz.prog N4 (crowd v w3 z) t3=_ from r4)];exact r5;rw[f.size,z4,g.size,z2,j.size];rw[e5,e4,e3,e2,e1];simp only[VU];refine J.app ?_ λb a=>(s b a).elim .inl λx=>.inr (.inl x);refine(yo n2 (K:=λb=>K b\/b=sb\/b=fb)).app ?_ λb a=>a;refine Q.app ?_ λb a=>(C b a).elim (λx=>x.elim .inl λy=>.inr (.inl y)) λx=>.inr (.inr x);exact(yo n4 (K:=λb=>K b\/b=sb\/b=fb)).app X λb a=>a;rw[f.keep sb (by omega) id,e];rw[f.keep _ (by omega) id,F _ (by omega),g.keep _ (by omega) id,c2];rw[f.keep fb (by omega) id,F _ (by omega),A];rw[f.keep _ (by omega) id,c4];rw[f.os,<-d];show w3.os=_;rw[g.os,<-c];exact j.os;rw[f.tape,<-d];show w3.tape=_;rw[g.tape,<-c];exact j.tape;rw[f.output,<-d];show w3.output=_;rw[g.output,<-c];exact j.output;rw[f.keep b (by omega) id,F _ (by omega),g.keep _ (by omega) id,o2 _ (by omega),j.keep b a id]
end
end Go.Tm
namespace Go.Tm
open Go.Proofs Go.Conc Go.ConcN Go.Conc.Lib Go.ConcR.Gen Go.ConcN.Gen
def TP:(Tryz.f128.name== "runtime.NumGoroutine")=false:=by kernel_rfl
def TQ:Tryz.f128.body.isNone=false:=by kernel_rfl
section
variable {Wg ch sb fb N0:Nat} {C:Frame} {CS:List Frame} {sc:Zq} {Kold:Nat->Prop} {Y1:x6}
def NY{K M w g l}(n:JI Wg ch sb fb N0 sc Kold Y1 (C::CS) l K M g w){Ps:(Nat->Prop)->(Nat->Prop)->Zj->x6->Prop} (i:(Tryz.prog.info? 125).map (·.size)=some sc.size) (d:∀(Q) (m) (w') h,pv Wg ch sb fb N0 sc Kold Y1 K M w' h l->(∀b c e V,Ps b c V e->Run Tryz.prog true 195 Wg Q b c (G (m.finish V) (C::CS)) e)->Run Tryz.prog true 195 Wg Q K M (G (Frame.enter Tryz.prog 128 #[h,.func (.func 129) #[.agg sc] #[]] .normal) (m::C::CS)) w') (j:∀b c V w' a,RK 195 Wg b w' a->Ps b c V w'->Ps b c V a):Run Tryz.prog true 195 Wg (λb c g' w'=>∃V,g'=G (C.finish V) CS/\Ps b c V w') K M g w:=by obtain⟨N,O,h,P,R,S,o,p,q,r,s,u,x,y,z,A,B,D,E,F,H,I,J,rfl,k⟩:=n;change Run _ _ _ _ _ _ _ (Conc.served (G ((base 74).at _ (.inRegion Df (0::[1])::[.code AX,.inLoop pr,.inBlock 2,.code yz])) (C::CS)) _) _;rw[uu];simp only[Df,AX,pr,ki,yz,Tryz.f74,vt];(walk_nrm);refine Run.pure (.bool false) rfl rfl (by k_ne) (λ_=>rfl) (λ_=>rfl) ?_;(walk_nrm);refine Run.still rfl (λ_=>stepG_region_end) ?_;refine Run.still rfl (λ_=>stepG_seq) ?_;refine Run.still rfl (λ_=>stepG_cond (t:=false) rfl) ?_;simp only[U7,↓reduceIte];refine Run.still rfl (λ_=>stepG_exit rfl) ?_;refine Run.still rfl (λ_=>stepG_seq) ?_;refine Run.still rfl (λ_=>stepG_region) ?_;simp only[U9,UM,UZ,Nat.reduceAdd,UR,List.range,List.range.loop];refine Run.pure h rfl rfl (by k_ne) (λ_=>rfl) (λ_=>rfl) ?_;(walk_nrm);refine Run.te rfl rfl (by k_ne) rfl rfl Tryz.underlying125 rfl k.ksb k.st.sb_ i ?_;(walk_nrm);refine Run.pure (.func (.func 129) #[.agg sc] #[]) rfl rfl (by k_ne) (λ_=>by go_simp) (λ_=>by simp[go_sem]) ?_;(walk_nrm);refine Run.still rfl (λ_=>ur rfl rfl (by k_ne) rfl Tryz.func128 TP TQ) ?_;(walk_nrm);refine d _ _ _ _ k λb c w' V L=>?_;rw[Frame.finish_at];(walk_nrm);refine Run.pure V rfl rfl (by k_ne) (λ_=>rfl) (λ_=>rfl) ?_;(walk_nrm);refine Run.still rfl (λ_=>stepG_region_end) ?_;refine Run.still rfl (λ_=>stepG_ret') ?_;refine Run.still rfl (λa=>stepG_leave (v:=V) rfl rfl Tryz.func74 (results_tmp (t:=2) rfl _ _ _) (events_results_tmp (t:=2) rfl _ _)) ?_;exact .stop λa f=>⟨V,rfl,j _ _ _ _ _ f L⟩
end
end Go.Tm
namespace Go.Tm
open Go.Proofs Go.Conc Go.ConcN Go.Conc.Lib Go.ConcR.Gen Go.ConcN.Gen
open Go.ConcR (KK WgAt stA smA rd wr mk DC0)
def ti(H:Nat->Option (Int×Int×Int))(i:Nat):Option Zj:=(H i).map λh=>fG h.1 h.2.1 h.2.2
def py:Option (Int×Int×Int)->Zq
 |some (a,b,c)=>#[.i a,.i b,.i c]
 |none=>#[.i 0,.i 0,.i 0]
def K6(H i):ti H i=if(H i).isSome then some (.agg (py (H i)))else none:=by unfold ti;cases H i with|none=>rfl|some h=>rfl
def K7(h):(py h).size=3:=by cases h<;>rfl
def N8(h):(py h).all (·.oneCell')=true:=by cases h<;>simp[py,Value.oneCell']
def K8(n:Nat)(H:Nat->Option (Int×Int×Int))(a:List Zj):Prop:=∃l:List Nat,l.Nodup/\(∀i,i∈l↔i<n/\ti H i≠none)/\a=l.filterMap (ti H)
def A2(N0:Nat)(L:List Zj)(K:Nat->Prop)(V:Zj)(w:x6):Prop:=ma w N0 66 kH V L.length (bE L)/\∀g,V.ownBlock=some g->K g
def A2.rely{N0 L K V w i1 Wg}(h:A2 N0 L K V w)(r:RK 195 Wg K w i1):A2 N0 L K V i1:=⟨h.1.keep λg a=>r.keep g (h.2 g a),h.2⟩
section
variable {C:Frame} {CS:List Frame} {sc:Zq} {Kold:Nat->Prop} {w:x6} {n:Nat} {H:Nat->Option (Int×Int×Int)} {Srt:List Zj->List Zj}
def yA(w:x6)(Kold:Nat->Prop)(sc:Zq)(n:Nat)(H:Nat->Option (Int×Int×Int)):Prop:=
 ∀i,i<n->∀(Wg:Nat) (K:Nat->Prop) (w':x6),(∀b,Kold b->K b)->(∀b,K b->b<w'.heap.size)->WgLive 195 Wg w'->w.heap.size<=w'.heap.size->(∀b,Kold b->w'.heap[b]? =w.heap[b]?)->∀(Q:aL) (C:Frame) (cs:List Frame),
  (∀c d a,(∀b,K b->c b/\¬d b/\a.heap[b]? =w'.heap[b]?)->(∀b,c b->b<a.heap.size)->WgLive 195 Wg a->Run Tryz.prog false 195 Wg Q c d (G (C.finish (.tuple #[.agg (py (H i)),.bool (H i).isSome])) cs) a)->
  Run Tryz.prog false 195 Wg Q K (λ_=>False) (G (Frame.enter Tryz.prog 125 #[.agg sc,.i i] .normal) (C::cs)) w'
def uy(w:x6)(Kold:Nat->Prop)(sc:Zq)(n:Nat)(H:Nat->Option (Int×Int×Int))(Srt:List Zj->List Zj):Prop:=
 ∀c,K8 n H c->∀(Wg N0:Nat) (K M:Nat->Prop) (w':x6) (d:Zj),(∀b,Kold b->K b/\¬M b)->(∀b,K b->b<w'.heap.size)->¬M Wg->WgLive 195 Wg w'->w.heap.size<=w'.heap.size->(∀b,Kold b->w'.heap[b]? =w.heap[b]?)->ma w' N0 66 kH d c.length (bE c)->
  (∀g,d.ownBlock=some g->K g/\M g/\¬Kold g)->∀(Q:aL) (C:Frame) (cs:List Frame),
  (∀e f a V,A2 N0 (Srt c) e V a->Run Tryz.prog true 195 Wg Q e f (G (C.finish V) cs) a)->
  Run Tryz.prog true 195 Wg Q K M (G (Frame.enter Tryz.prog 128 #[d,.func (.func 129) #[.agg sc] #[]] .normal) (C::cs)) w'
structure N9(Shun:Loc->Prop)(C:Frame)(CS:List Frame)(n:Nat)(H:Nat->Option (Int×Int×Int))(Srt:List Zj->List Zj)(w:x6)(gs':Array Zx)(w':x6)(t':Trace)(V:Zj)(Wg ch:Nat):Prop where
 bes:Bes Tryz.prog (λl=>Shun l\/∃b,blk l=some b/\spB Wg ch b) gs' w' t' (G (C.finish V) CS)
 res:∃N0 K hs,w.heap.size<=N0/\K8 n H hs/\A2 N0 (Srt hs) K V w'/\∀b,K b->b<w'.heap.size/\¬spB Wg ch b
 os:w'.os=w.os
 tape:w'.tape=w.tape
 output:w'.output=w.output
 grown:w.heap.size<=w'.heap.size
 sp:w.heap.size<=Wg/\w.heap.size<=ch/\Wg<w'.heap.size/\ch<w'.heap.size
 old:∀b,b<w.heap.size->w'.heap[b]? =w.heap[b]?
def RG{Wg0 K u}(h:Tch Wg0 K u){c x b}(e:c∈u)(f:c.act.touch?=some x)(d:blk x.loc=some b):K b\/b=Wg0:=by obtain⟨i,a,g,_⟩|⟨a,_⟩:=(h.t c e x f).2;rw[d]at a;cases a;exact .inl g;rw[d]at a;cases a;exact .inr rfl
def Dg{Shun}{ShB:Nat->Prop}(E:∀l,Shun l->∃b,blk l=some b/\ShB b){cM aM}(aK:sc[9]? =some (.slice aM n cM))(U:(Tryz.prog.info? 125).map (·.size)=some sc.size)(hn:n<2147483647) (hK:∀b,Kold b->b<w.heap.size/\¬ShB b) (T:∀b,ShB b->b<w.heap.size) (h0:0<w.heap.size) (gs) (sl) (t) (d:Bes Tryz.prog Shun gs w t (G (Frame.enter Tryz.prog 74 #[.agg sc] .normal) (C::CS))) (W:yA w Kold sc n H) (F:uy w Kold sc n H Srt):∃N gs' w' aR t' V Wg ch,runNT Tryz.prog N (crowd gs w sl) t=(.next (crowd gs' w' aR),t')/\N9 Shun C CS n H Srt w gs' w' t' V Wg ch:=by
 have m:=d.past;obtain⟨N1,X,w1,a6,t1,sb,ch,fb,Wg,r1,p⟩:=N7 E aK hK T h0 gs sl t d;obtain⟨o1,o2,o3,o4,o5⟩:=p.ord;obtain⟨u1,e1,Y⟩:=p.tr;obtain⟨x9,s,I⟩:=p.bes;have f:∀b,Kold b->b<w.heap.size:=λb d=>(hK b d).1;have J:∀b,b<w.heap.size->¬spB Wg ch b:=λb h k=>by rcases k with rfl|rfl<;>omega
 obtain⟨An,a7,a8⟩:=Ft (Wg:=Wg) (ch:=ch) (fb:=fb) (K:=λb=>b=fb) (M:=λ_=>False) rfl (by omega);have Z:∀K,Stood Wg ch sb fb sc Kold w K w1:=λK=>⟨p.hsb,p.hfb,λb d=>p.old b (f b d)⟩
 have u:WgLive 195 Wg w1:=⟨0,0,p.hwg⟩
 have L:∀i,i<n->∀(ib:Nat) (K:Nat->Prop) (w':x6),K sb->K fb->K ib->(∀b,Kold b->K b)->(∀b,K b->b<w'.heap.size)->(∀b,K b->b≠Wg)->WgLive 195 Wg w'->Stood Wg ch sb fb sc Kold w K w'->w'.heap[ib]? =some (.cells #[.i i] 3 (0,0))->
  Run Tryz.prog false 195 Wg (SWk Tryz.prog 195 Wg ch (fG 0 0 0) (ti H i)) K (λ_=>False) (born Tryz.prog {target:=.fn (.func 123) #[ptr Wg,ptr sb,ptr ib,ptr fb],args:=#[]}) w':=by
  intro i hi ib K w' k1 k2 k3 k4 k5 k6 O y ba;rw[K6];exact Fs k1 k3 k2 O y.sb_ ba y.fb_ (K7 _) (N8 _) k6 U λQ C' q=>W i hi Wg K w' k4 k5 O (by have:=(UO.1 y.sb_).1;have:=k5 sb k1;obtain⟨st,sm,h⟩:=O;have:=(UO.1 (show w'.heap[Wg]? =some _ from h)).1;omega) y.old Q C' _ q
 have bb:∀i v,i<n->ti H i=some v->∃a b c,v=fG a b c:=λi v _ h=>by obtain⟨x,_,rfl⟩:=Vi.1 h;exact⟨_,_,_,rfl⟩
 have B:=Iy (Wg:=Wg) (ch:=ch) (sb:=sb) (fb:=fb) (n:=n) (z:=fG 0 0 0) (An:=An) (HV:=ti H) (Fin:=JI Wg ch sb fb w1.heap.size sc Kold w (C::CS)) (CS:=C::CS) (sc:=sc) (Kold:=Kold) (Y1:=w) w1.heap.size hn L
  (λK w' x0 x5 x8 x9 s aa ab ad af ag ak k1 k2 k3 k4 k5 k6 k7 k8=>KZ hn bb ⟨by omega,by omega,λb d=>UL (f b d) (by omega)⟩ a8 K w' x0 x5 x8 x9 s aa ab ad af ag ak k1 k2 k3 k4 k5 k6 k7 k8)
  n (UI _) (λb=>Kold b\/b=sb\/b=fb) w1 (.agg sc) undef (.chan (some ch)) x9 s (.slice aM n cM) undef undef undef undef undef (.inr (.inl rfl)) (.inr (.inr rfl)) (λb h=>.inl h)
  (λb h=>by rcases h with h|rfl|rfl; · have:=f b h;omega
            .omega
            .omega)
  (λb h=>by rcases h with h|rfl|rfl; · have:=f b h;omega
            .omega
            .omega) u (Z _) (UI _)
 rw[Nat.sub_self]at B;have bk:∀(i:Nat) (A:MemOp) x b,t1[i]? =some A->A.act.touch?=some x->blk x.loc=some b->¬spB Wg ch b:=by intro i A x b ho hx an;rw[e1]at ho;obtain hm|hm:=VJ.1 (mem_of_getElem? ho);exact J b (JB (m.seen A hm) hx an);obtain(h|rfl|rfl)|rfl:=RG Y hm hx an;exact J b (f b h);intro k;rcases k with rfl|rfl<;>omega;intro k;rcases k with rfl|rfl<;>omega;intro k;rcases k with rfl|rfl<;>omega
 have ao:NoRelease (stA Wg) t1:=by intro i hi;obtain⟨A,ho,P⟩:=Vi.1 hi;rw[e1]at ho;obtain hm|hm:=VJ.1 (mem_of_getElem? ho);have:=m.seen A hm;rw[P]at this;have:Wg<w.heap.size:=this;omega;have:=Y.l A hm (by rw[P];rfl) 0;rw[P]at this;exact absurd this (UX _)
 obtain⟨σ,bm⟩:=NU (N0:=w.heap.size) (shun:=ShB) E I T (by omega) (by omega) (by omega) (by omega) p.hwg p.hch (λb h=>by
  obtain h|rfl|rfl:=h
  .exact⟨by have:=f b h;omega,J b (f b h),(hK b h).2⟩
  .exact⟨by omega,λk=>by rcases k with rfl|rfl<;>omega,λx=>by have:=T _ x;omega⟩
  .exact⟨by omega,λk=>by rcases k with rfl|rfl<;>omega,λx=>by have:=T _ x;omega⟩) bk ao B
 have ar:fP Wg ch X.size w.heap.size ShB:=⟨(UO.1 I.g0).1,T,by omega,by omega,by omega⟩
 obtain⟨N2,bo,w2,br,t2,r2,o⟩:=phase ar hn a7 I.past _ X w1 a6 t1 σ rfl bm;obtain⟨g2,K2,M2,hs2,a1,a2,a3,a4,a5⟩:=o.main;have ax:∀l,(Shun l\/∃b,blk l=some b/\spB Wg ch b)->∃b,blk l=some b/\(ShB b\/spB Wg ch b):=λl h=>h.elim (λh=>(E l h).imp λb x=>⟨x.1,.inl x.2⟩) λ⟨b,h1,h2⟩=>⟨b,h1,.inr h2⟩
 have j:=o.sp;have R:∀b,b<w.heap.size->w2.heap[b]? =w.heap[b]? :=λb d=>(o.old b d).trans (p.old b d);have b0:∃v6,pv Wg ch sb fb w1.heap.size sc Kold w K2 M2 w2 v6 hs2:=by obtain⟨x0,x5,v6,x7,x8,x9,s,aa,b1,b2,ab,ad,af,ag,ak,b4,b5,b6,b7,b8,b9,ca,cb,_,h⟩:=a2;exact⟨v6,h⟩
 have ay:=NY (C:=C) (CS:=CS) a2 (Ps:=λK M V w'=>A2 w1.heap.size (Srt hs2) K V w') U (λQ Cf w' v6 S q=>F hs2 a5 Wg w1.heap.size K2 M2 w' v6 (λb d=>⟨S.NX b d,λhm=>absurd (a4 b hm).2.2 (by have:=f b d;omega)⟩) S.kl (λhm=>(a4 Wg hm).2.1 (.inl rfl)) S.live (UJ (by omega) S.base) S.st.old S.row (λg hg=>by obtain⟨q1,q2,_,_,_,q3⟩:=S.own g hg;exact⟨q1,q2,q3⟩) Q Cf _ λK' M' bs V hr=>q K' M' bs V hr) (λK' M' V w' bC r h=>h.rely r)
 obtain⟨N3,bx,w3,bA,t3,r3,D⟩:=nS (Shun:=λl=>Shun l\/∃b,blk l=some b/\spB Wg ch b) (ShB:=λb=>ShB b\/spB Wg ch b) ax ay bo br t2 ⟨a1,o.lv,o.past,λA bB=>by rw[o.size];exact o.few A bB⟩
  (λb d=>⟨(a3 b d).1,λk=>k.elim (a3 b d).2.2 (a3 b d).2.1⟩) (λb d=>d.elim (λh=>UL (T b h) o.gy) λh=>h.elim (λe=>e▸j.1) λe=>e▸j.2) j.1
 obtain⟨g3,K3,M3,u3,c1,⟨V,rfl,c2⟩,c3,c4,c5,c6,c7,c8,c9⟩:=D.at_;refine⟨N1+(N2+N3),bx,w3,bA,t3,V,Wg,ch,?_,c1,⟨w1.heap.size,K3,hs2,by omega,a5,c2,λb d=>⟨(c7 b d).1,λk=>(c7 b d).2 (.inr k)⟩⟩,?_,?_,?_,?_,⟨by omega,by omega,UL j.1 D.grown,UL j.2 D.grown⟩,λb d=>?_⟩;rw[iy r1,iy r2,r3];rw[D.os,o.os,p.os];rw[D.tape,o.tape,p.tape];rw[D.output,o.output,p.output];exact UJ o.gy D.grown;rw[D.keep b (UL d o.gy) λhm=>absurd (a4 b hm).2.2 (by omega)];exact R b d
end
end Go.Tm
namespace Go.Tm
def Gd.nxs{S P Post c c' n}(l:Gd S P Post c)(h:Nxs S P c c' n):Gd S P Post c':=by (refine⟨λk a=>h.2.1 k (UJ h.1 a),λτ e m=>?_⟩;have o:∀k<c.w.drawn,τ k=c.w.tape k:=λk a=>(e k (UL a h.1)).trans (h.2.2.1 k a);have p:∀k,c.w.drawn<=k->S.gq (τ k):=λk a=>by obtain x|x:=UK k c'.w.drawn;rw[e k x];exact h.2.1 k a;exact m k x);obtain⟨N,fr,w',g,b⟩:=l.2 τ o p;have j:=h.2.2.2 τ e;obtain f|hge:=UK N n;exfalso;(have d:=gZ P g j (Xe f);obtain⟨i,q⟩:∃i,n-N=i+1:=⟨n-N-1,by omega⟩);(rw[q]at d;obtain⟨x,xs,e0⟩:∃x xs,c'.cs++[aG]=x::xs:=by cases c'.cs<;>exact⟨_,_,rfl⟩);rw[e0]at d;obtain⟨v,b,_⟩|⟨ch,_,r,s⟩:=b;exact gone b d;exact sW r s d;exact⟨N-n,fr,w',gZ P j g hge,b⟩
def Gd.UA{S P Post c}(h:Gd S P Post c):Acc (λc' c=>∃n,0<n/\Nxs S P c c' n) c:=by (apply VV;intro p;obtain⟨f,z,u⟩:=nh p;subst z;have A:∀n k,(f n).w.drawn<=k->S.gq ((f n).w.tape k):=by intro n;cases n with|zero=>exact h.1|succ n=>obtain⟨_,_,a,b,_⟩:=u n;exactλk B=>b k (UJ a B));(have e:∀k n,∃K,k<=K/\Nxs S P (f n) (f (n+k)) K:=by intro k;induction k with|zero=>exactλn=>⟨0,UI _,.refl (A n)⟩|succ k C=>intro n;obtain⟨K,I,D⟩:=C n;obtain⟨m,J,E⟩:=u (n+k);exact⟨K+m,by omega,D.trans E⟩);(have q:∀n m i,i<(f n).w.drawn->i<(f m).w.drawn->(f n).w.tape i=(f m).w.tape i:=by intro n m i r s;obtain hnm|hnm:=Nat.le_total n m;obtain⟨k,rfl⟩:=Xw hnm;obtain⟨_,_,a⟩:=e k n;exact(a.2.2.1 i r).symm;obtain⟨k,rfl⟩:=Xw hnm;obtain⟨_,_,a⟩:=e k m;exact a.2.2.1 i s);(let τ:Nat->Question->Nat:=λi=>open Classical in if h:∃n,i<(f n).w.drawn then(f h.choose).w.tape i elseλ_=>0);(have g:∀n i,i<(f n).w.drawn->τ i=(f n).w.tape i:=by (intro n i j;have d:∃n,i<(f n).w.drawn:=⟨n,j⟩);show(open Classical in if h:∃n,i<(f n).w.drawn then(f h.choose).w.tape i elseλ_=>0)=_;rw[Wz d];exact q _ _ i d.choose_spec j);(have l:∀i,(f 0).w.drawn<=i->S.gq (τ i):=by intro i j;by_cases d:∃n,i<(f n).w.drawn;obtain⟨n,r⟩:=d;rw[g n i r];obtain⟨_,_,a⟩:=e n 0;rw[UR]at a;exact a.2.1 i j;show S.gq (open Classical in if h:∃n,i<(f n).w.drawn then(f h.choose).w.tape i elseλ_=>0);rw[dif_neg d];exact mS);(obtain⟨N,fr,w',F,t⟩:=h.2 τ (g 0) l;obtain⟨K,L,y⟩:=e (N+1) 0;rw[UR]at y;have G:=y.2.2.2 τ (g (N+1));have o:=gZ P F G (by omega);obtain⟨i,j⟩:∃i,K-N=i+1:=⟨K-N-1,by omega⟩);(rw[j]at o;obtain⟨x,xs,e0⟩:∃x xs,(f (N+1)).cs++[aG]=x::xs:=by cases(f (N+1)).cs<;>exact⟨_,_,rfl⟩);rw[e0]at o;obtain⟨v,t,_⟩|⟨ch,_,s,H⟩:=t;exact gone t o;exact sW s H o
def FI{S Q G f g args a C0}{Post:Zj->x6->Prop}{PreB:List PanicEntry->x6->Prop}{c k ch0} (l:∀τ,(∀n<C0.drawn,τ n=C0.tape n)->Calls Q f args (au C0 τ C0.drawn) λe w'=>(∃v,e=.returned v/\Post v w')\/∃ch,Off ch/\e=.panicked ch/\PreB ch w') (T:Nxs S Q ⟨Frame.enter Q f args .normal,[],C0⟩ c k) (U:c.fr=Frame.enter Q g a .normal) (π:Ren G) (V:∀x∈c.cs,Marks π x) (W:Dp π c.w) (m:∀x∈c.cs,x.mode=.run\/x.mode=.returning) (q:∀(cs) (τ),(∀n,c.w.drawn<=n->τ n=λ_=>1)->∃j d w1,runN Q j (lone (Frame.enter Q g a .normal) cs (au c.w τ c.w.drawn))=.next (lone d cs w1)/\d.mode=.panicking ch0/\d.defers=[]/\w1.heap=c.w.heap):∃p,PreB ch0 p/\p.heap.size=c.w.heap.size/\∀b:Nat,p.heap[b]? =c.w.heap[b]? \/p.heap[b]? =some (.deferred none):=by (obtain⟨X,n2,n3,n4⟩:=T;let τ:Nat->Question->Nat:=λn=>if n<c.w.drawn then c.w.tape n elseλ_=>1);(have s:∀n<c.w.drawn,τ n=c.w.tape n:=λn t=>UH t;have u:∀n,c.w.drawn<=n->τ n=λ_=>1:=λn t=>UG (by omega);have y:∀n<C0.drawn,τ n=C0.tape n:=λn t=>(s n (UL t X)).trans (n3 n t);have Y:=n4 τ s;obtain⟨j,d,w1,J,Z,f2,B⟩:=q (c.cs++[aG]) τ u;rw[<-U]at J;have K:runN Q (k+j) (lone (Frame.enter Q f args .normal) [aG] (au C0 τ C0.drawn))=.next (lone d (c.cs++[aG]) w1):=by (have e:runN Q k (lone (Frame.enter Q f args .normal) [aG] (au C0 τ C0.drawn))=.next (lone c.fr (c.cs++[aG]) (au c.w τ c.w.drawn)):=Y);rw[runN_add,e];exact J);(obtain⟨e,p,C,E,F,_,z⟩:=l τ y [aG];have hE:∃N,runN Q N (lone (Frame.enter Q f args .normal) [aG] (au C0 τ C0.drawn))=.next (lone C [aG] p):=by rcases E with⟨v,rfl,_⟩|⟨ch,_,rfl,_⟩<;>exact F);(obtain⟨N,A⟩:=hE;have H:yC G w1 ch0 (lone d (c.cs++[aG]) w1):=by refine .up π Z (λx h=>?_) ?_ m (.refl _);(cases h with|head=>intro D L;rw[f2]at L;cases L|tail _ h=>exact V x h);intro r R o hr M;rw[B]at M;exact W r R o hr M);obtain I|hge:=UK N (k+j);exfalso;(have h:=gZ Q A K (Xe I);obtain⟨i,hi⟩:∃i,k+j-N=i+1:=⟨k+j-N-1,by omega⟩);(rw[hi]at h;obtain⟨x,xs,e0⟩:∃x xs,c.cs++[aG]=x::xs:=by cases c.cs<;>exact⟨_,_,rfl⟩);rw[e0]at h;obtain⟨v,rfl,_⟩|⟨ch,_,rfl,_⟩:=E;exact gone z h;exact sW z.1 z.2.1 h;have h:=gZ Q K A hge;obtain⟨O,P⟩:=FH _ H h;obtain⟨v,rfl,_⟩|⟨ch,_,rfl,hp⟩:=E;have:=z.1;rw[O]at this;cases this;have e:=z.1;rw[O]at e;cases e;exact⟨p,hp,by rw[P.1,B],λb=>by rw[<-B];exact P.2 b⟩
end Go.Tm
namespace Go.Tm
open Go.Proofs Go.Conc Go.ConcN
def Ren.add{G:Nat}(π:Ren G)(r R:Nat)(d:∀X,¬π r X)(e:∀x,¬π x R)(f:r<G↔R<G):Ren G where
 rel a b:=π a b\/(a=r/\b=R)
 fn a b c hb hc:=by
  obtain hb|⟨rfl,rfl⟩:=hb
  .obtain hc|⟨rfl,rfl⟩:=hc
   .exact π.fn a b c hb hc
   .exact absurd hb (d b)
  .obtain hc|⟨_,rfl⟩:=hc
   .exact absurd hc (d c)
   .rfl
 inj a b c ha hb:=by
  obtain ha|⟨rfl,rfl⟩:=ha
  .obtain hb|⟨rfl,rfl⟩:=hb
   .exact π.inj a b c ha hb
   .exact absurd ha (e a)
  .obtain hb|⟨rfl,_⟩:=hb
   .exact absurd hb (e b)
   .rfl
 dF a b h:=by
  obtain h|⟨rfl,rfl⟩:=h
  .exact π.dF a b h
  .exact f
def Ren.Od{G π r R}{a:∀X,¬π r X}{b:∀x,¬π x R}{c:r<G↔R<G}:Ren.le π (π.add r R a b c):=λ_ _ h=>.inl h
section
variable {S:Kn} {P:Program} {G:Nat}
def bt.keep{Pr}{π:Ren G}{w W w' W':x6}(h:bt S Pr π w W)(k1:∀b,b<w.heap.size->w'.heap[b]? =w.heap[b]?)(j:∀b,b<W.heap.size->W'.heap[b]? =W.heap[b]?)(k:w.heap.size<=w'.heap.size)(g:W.heap.size<=W'.heap.size):bt S Pr π w' W':=
 ⟨λr R a=>by rw[k1 r (h.lt a).1,j R (h.lt a).2];exact h.obj r R a,λr R a d=>by rw[k1 r (h.lt a).1];exact h.vJ r R a d,λR d=>UL (h.wY R d) g,UJ h.gw k,UJ h.gW g,by obtain⟨c,e,f,i⟩:=h.w0;exact⟨c,e,f,(k1 0 (UO.1 i).1).trans i⟩⟩
def bt.add{Pr π w W}(h:bt S Pr π w W){r R}{e:∀X,¬π r X}{f:∀x,¬π x R}{g:r<G↔R<G}{o O}(e1:w.heap[r]? =some o)(j:W.heap[R]? =some O)(k:fV S (π.add r R e f g) o O)(d:¬Pr R):bt S Pr (π.add r R e f g) w W:=by refine⟨λa b c=>?_,λa b c i=>?_,h.wY,h.gw,h.gW,h.w0⟩;obtain c|⟨rfl,rfl⟩:=c;obtain⟨o',l,a1,m,n⟩:=h.obj a b c;exact⟨o',l,a1,m,n.mono Ren.Od⟩;exact⟨o,O,e1,j,k⟩;obtain c|⟨rfl,rfl⟩:=c;exact h.vJ a b c i;exact absurd i d
end
def IE{G}(π:Ren G)(L)(f:∀v∈L,∃a b c,v=fG a b c)(k):VsR π (bE L++cZ kH k).toArray (bE L++cZ kH k).toArray:=by (refine aY.refl λx hx=>?_;have hx:x∈bE L++cZ kH k:=by simpa using hx);obtain hx|hx:=Wn.1 hx;obtain⟨v,g,d⟩:=W8.1 hx;obtain⟨a,b,c,rfl⟩:=f v g;simp[fG,Value.cells]at d;rcases d with rfl|rfl|rfl<;>exact .int _ _;obtain⟨l,h,e⟩:=Yw.1 hx;have:=Yx h;subst this;simp[kH]at e;subst e;exact .int _ _
section
variable {S:Kn} {fs:Array Func} {Post PostR:Zj->x6->Prop} {dG:x6->Zj->List Zj->Prop} {c₀:Gh}
def FJ(S:Kn)(fs:Array Func)(dG:x6->Zj->List Zj->Prop)(c₀:Gh):Prop:=∀(c:Gh) (k:Nat) (v:Zj) (π:Ren Tryz.prog.globals.size),Nxs S (ah Tryz.prog fs) c₀ c k->c.fr=Frame.enter (ah Tryz.prog fs) 74 #[v] .normal->(∀x∈c.cs,Marks π x)->Dp π c.w->(∀x∈c.cs,x.mode=.run\/x.mode=.returning)->∃L,dG c.w v L
def nV(S:Kn)(fs:Array Func)(Post:Zj->x6->Prop)(dG:x6->Zj->List Zj->Prop):Prop:=∀(c:Gh) (v:Zj) (C:Frame) (cs:List Frame) (L:List Zj) (cap:Nat),c.fr=Frame.enter (ah Tryz.prog fs) 74 #[v] .normal->c.cs=C::cs->Gd S (ah Tryz.prog fs) Post c->dG c.w v L->(L≠[]->L.length<=cap/\cap<=maxLen)->∃V w' k,0<k/\Nxs S (ah Tryz.prog fs) c ⟨C.finish V,cs,w'⟩ k/\c.w.heap.size<=w'.heap.size/\(∀b,b<c.w.heap.size->w'.heap[b]? =c.w.heap[b]?)/\((L=[]/\V=.slice none 0 0)\/∃r,L≠[]/\c.w.heap.size<=r/\V=.slice (some ⟨r,0,none⟩) L.length cap/\w'.heap[r]? =some (.cells (bE L++cZ kH (cap-L.length)).toArray 66 (0,0)))
def uz(S:Kn)(dG:x6->Zj->List Zj->Prop):Prop:=∀(Pr:Nat->Prop) (π:Ren Tryz.prog.globals.size) (w W:x6) (v A:Zj) (L:List Zj),aw π v A->bt S Pr π w W->dG w v L->(∀g,S.dF g=true->π g g)->∃sc n H d Kold f h,A=.agg sc/\sc[9]? =some (.slice f n h)/\(Tryz.prog.info? 125).map (·.size)=some sc.size/\n<2147483647/\(∀b,Kold b->∃r,π r b)/\yA W Kold sc n H/\uy W Kold sc n H d/\(∀e,K8 n H e->d e=L)/\∀x∈L,∃a b c,x=fG a b c
def join(ht:Tab S Tryz.prog fs)(ad:∀g,S.calm g)(bo:∀f,S.ent f=true->Tryz.prog.inits.idxOf? f=none)(br:0<Tryz.prog.globals.size) {Pr} {s} {Z} (af:∀v V w' W' (ag),Post v w'->aw ag v V->bt S Pr ag w' W'->iZ Pr s Z ag W'->PostR V W') (ay:FJ S fs dG c₀) (aK:nV S fs Post dG) (bs:uz S dG) {c} (aR:Acc (λc' c=>∃n,0<n/\Nxs S (ah Tryz.prog fs) c c' n) c):∀(k) (π) (F) (CS) (W) (gs) (sl) (t) (Shun) (ShB:Nat->Prop),Nxs S (ah Tryz.prog fs) c₀ c k->(∀l,Shun l->∃b,blk l=some b/\ShB b)->iZ Pr s Z π W->Cp S Tryz.prog fs Pr Post π c F CS W->Bes Tryz.prog Shun gs W t ⟨F,CS,.running,none,none⟩->(∀b,ShB b->b<W.heap.size/\¬∃r,π r b)->dh Tryz.prog PostR (crowd gs W sl) t:=by induction aR with|intro c _ ih=>(intro k π F CS W gs sl t Shun ShB hN E bx h hb a1;obtain⟨g0,⟨q,hL⟩,hP,hF⟩:=hb;obtain⟨N,I,W1,ak,t1,q1,d,D,FR,bA,k1,r1,r2,r3,r4,r5,r6,r7,r8,r9,an⟩:=Fo [] ht ad E h.rG.acc _ π F CS W gs sl t q (UI _) h (by simpa using g0) hL hP hF a1;have aa:=bx.chg r7;have i:∀b,ShB b->b<W1.heap.size/\¬∃r,d r b:=λb hb=>⟨UL (a1 b hb).1 r7.size,r6 b hb⟩);obtain⟨a6,he⟩|⟨f,a,A,hs,⟨bB,ha⟩,e1,e2,bC,J,p,ao,ar,a7⟩:=r8;have ab:=a6.cs;rw[he.1]at ab;cases ab;exact(K9 ht bo E af _ d D FR W1 I ak t1 q1 (UI _) aa a6 he (by simpa using r3) r4 r5 r9 i).back r1;have hf:=(ht.stop f hs).1;(have hf:f=74:=hf;subst hf;obtain⟨v,rfl⟩:∃v,a=#[v]:=by obtain⟨l⟩:=a;match l,bB with| [v],_=>exact⟨v,rfl⟩);(obtain⟨V0,rfl⟩:∃V0,A=#[V0]:=by have h1:A.size=1:=ha.1.symm;clear ha e2 r3;obtain⟨l⟩:=A;match l,h1 with| [x],_=>exact⟨x,rfl⟩);(have hv:=ha.2 0 v V0 rfl rfl;have M:∀x∈D.cs,x.mode=.run\/x.mode=.returning:=λx u=>by obtain⟨y,hy⟩:=J.left x u;exact hy.calm);(have O:∀x∈D.cs,Marks d x:=λx u=>by obtain⟨y,hy⟩:=J.left x u;exact hy.marks);(obtain⟨L,ax⟩:=ay D (k+k1) v d (hN.trans an) e1 O (p.dp λ_ _ h=>h) M;obtain⟨sc,n,H,cn,Kold,aM,cM,rfl,q1,q2,q3,q4,q5,q6,q7,q8⟩:=bs Pr d D.w W1 v V0 L hv p ax a7;obtain⟨C,cs,Q⟩:∃C cs,D.cs=C::cs:=by cases u:D.cs with|nil=>exact absurd u bC|cons C cs=>exact⟨C,cs,rfl⟩);(rw[Q]at J;obtain⟨C',CS',rfl,b0,a8⟩:∃C' CS',bA=C'::CS'/\bj S d C C'/\bp (bj S d) cs CS':=by cases J with|cons a b=>exact⟨_,_,rfl,a,b⟩);(have b1:Bes Tryz.prog Shun I W1 t1 (G (Frame.enter Tryz.prog 74 #[.agg sc] .normal) (C'::CS')):=⟨by rw[e2]at r3;simpa[G]using r3,⟨_,r4⟩,r5,r9⟩);obtain⟨N2,b2,W2,b3,t2,V,Wg,ch,b4,o⟩:=Dg (C:=C') (CS:=CS') E q1 q2 q3 (λb hb=>by obtain⟨r,hr⟩:=q4 b hb;exact⟨(p.lt hr).2,λx=>(i b x).2 ⟨r,hr⟩⟩) (λb hb=>(i b hb).1) (UL br p.gW) I ak t1 b1 q5 q6;(obtain⟨N0,K,b5,cp,hh,z,b6⟩:=o.res;rw[q7 b5 hh]at z;have ba:∀l,(Shun l\/∃b,blk l=some b/\spB Wg ch b)->∃b,blk l=some b/\(ShB b\/spB Wg ch b):=λl h=>h.elim (λh=>(E l h).imp λb x=>⟨x.1,.inl x.2⟩) λ⟨b,h1,h2⟩=>⟨b,h1,.inr h2⟩);(have B:∀b,(ShB b\/spB Wg ch b)->b<W2.heap.size/\¬∃r,d r b:=λb hb=>by obtain hb|hb:=hb;exact⟨UL (i b hb).1 o.grown,(i b hb).2⟩;refine⟨hb.elim (λe=>e▸o.sp.2.2.1) (λe=>e▸o.sp.2.2.2),λ⟨r,hr⟩=>?_⟩;have h1:=(p.lt hr).2;have:=o.sp;rcases hb with rfl|rfl<;>omega);(have b7:∀V w',(⟨C.finish V,cs,w'⟩:Gh).Flat:=λV w' b hb=>by refine ao b ?_;rw[Q];simp only[nf]at hb;rw[Yl,YI];exact hb);(have go:∀(V1:Zj) (w1:x6) (T:Nat) (j:Ren Tryz.prog.globals.size),0<T->Nxs S (ah Tryz.prog fs) D ⟨C.finish V1,cs,w1⟩ T->Ren.le d j->(∀r R,j r R->d r R\/W1.heap.size<=R)->aw j V1 V->bt S Pr j w1 W2->(∀b,(ShB b\/spB Wg ch b)->¬∃r,j r b)->dh Tryz.prog PostR (crowd I W1 ak) t1:=by (intro V1 w1 T j U m Y b8 b9 ca cb;have bb:Cp S Tryz.prog fs Pr Post j ⟨C.finish V1,cs,w1⟩ (C'.finish V) CS' W2:=⟨(b0.mono Y).finish b9,a8.mono λ_ _ x=>bj.mono Y x,ca,b7 V1 w1,ar.nxs m,λg hg=>Y _ _ (a7 g hg)⟩);exact(ih ⟨C.finish V1,cs,w1⟩ ⟨k1+T,by omega,an.trans m⟩ (k+k1+T) j (C'.finish V) CS' W2 b2 b3 t2 _ _ ((hN.trans an).trans m) ba (aa.still o.os o.output o.grown o.old b8 Y) bb o.bes λb hb=>⟨(B b hb).1,cb b hb⟩).back b4);refine dh.back ?_ r1;obtain⟨rfl,cc⟩|⟨g,cap,rfl,cq,bk,cd,cf,cg⟩:=z.1.2;have bm:=Vx cc;obtain⟨V1,w1,T,U,m,s1,s2,hV⟩:=aK D v C cs L 0 e1 Q ar ax (λh=>absurd bm h);obtain⟨_,rfl⟩|⟨r,ck,_⟩:=hV;exact go _ w1 T d U m (Ren.le_refl _) (λ_ _ h=>.inl h) (.iT 0 0) (p.keep s2 o.old s1 o.grown) λb hb=>(B b hb).2;exact absurd bm ck;obtain⟨V1,w1,T,U,m,s1,s2,hV⟩:=aK D v C cs L cap e1 Q ar ax (λ_=>⟨cd,cf⟩);obtain⟨rfl,_⟩|⟨r,_,cr,rfl,hr⟩:=hV;simp at cg;have cl:=(UO.1 bk).1;(have cm:=(UO.1 hr).1;have n1:∀X,¬d r X:=λX hX=>by have:=(p.lt hX).1;omega);(have n2:∀x,¬d x g:=λx u=>by have:=(p.lt u).2;omega);(have n3:r<Tryz.prog.globals.size↔g<Tryz.prog.globals.size:=by have:=p.gw;have:=p.gW;omega);refine go _ w1 T (d.add r g n1 n2 n3) U m Ren.Od (λ_ _ h=>h.imp id λh=>by rw[h.2];omega) (.slice _ _ (.mk (.inr ⟨rfl,rfl⟩))) ((p.keep s2 o.old s1 o.grown).add hr bk (.cells 66 (IE _ L q8 _) (.inl rfl)) (λhp=>by have:=p.wY _ hp;omega)) λb hb ⟨x,u⟩=>?_;obtain u|⟨_,rfl⟩:=u;exact(B b hb).2 ⟨x,u⟩;obtain hb|hb:=hb;have:=(i b hb).1;omega;exact(b6 b (z.2 b rfl)).2 hb
end
end Go.Tm

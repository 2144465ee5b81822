import Derived.Conc.LeavingOf
import Derived.LaidSub
import Derived.MakeChecks
import Derived.OpenShut
import Derived.Shelf.Vars
import Derived.Test.YtaglpcmhopjebaaGreatDoorU36
set_option linter.all false
set_option maxRecDepth 100000
set_option maxHeartbeats 20000000
namespace Go.Proofs
open Go.Tm Go.RowKit
theorem qy{c}(b:OkC c)(m)(d:OkM m)(kin):∀(a) (i) (k) (v),eD c m kin i a=some (k,v)->k<i+a.length/\0<=v/\v<=100000
 | [],i,k,v,h=>by cases h
 |r::a,i,k,v,h=>by
  unfold eD at h;split at h
  ·cases h
   have:=lS c.table r.kind c.new m b.new.fig d.fig;exact⟨by simp,this.1,this.2⟩
  ·have:=qy b m d kin a (i+1) k v h
   simp only[Ug];exact⟨by omega,this.2⟩
def N7{c}(a:OkC c){i x}(h:iv c i=some x):gH c x:=by unfold iv at h;split at h;rename_i m k e f;(have hi:i<c.marks.length:=(Vl.1 e).1;have b:=a.marks m (Vm e);cases d:eD c m k 0 c.rules with|none=>rw[d]at h;cases h|some p=>obtain⟨q,v⟩:=p;rw[d]at h;cases h;obtain⟨g,j,l⟩:=qy a m b k c.rules 0 q v d;have:=a.Gr;exact⟨⟨i,hi,rfl⟩,by show(-1000:Int)<=(q:Int)/\(q:Int)<=1000;omega,by show(-1000000:Int)<=v/\v<=1000000;omega⟩);cases h
def Fv{c}(a:OkC c):∀x∈cj c,gH c x:=λx b=>by have:=(kg c).mem_iff.1 b;obtain⟨i,_,hi⟩:=List.mem_filterMap.1 this;exact N7 a hi
section
variable {K:Nat->Prop} {W W':World}
def CU{b}(a:W'.heap[b]? =W.heap[b]?){o v}(h:W.cell? ⟨b,o,none⟩=some v):W'.cell? ⟨b,o,none⟩=some v:=(dx a).trans h
def TV.on(g:∀b,K b->W'.heap[b]? =W.heap[b]?){q v}(h:CV K W q v):TV (λa b=>a=b/\K a) K W' q v v:=by cases h with|bool=>exact .bool _|int=>exact .int _ _|string=>exact .string _|empty=>exact .empty _ _| @slice _ i l c j=>cases i with|none=>exact .iL _ _|some a=>obtain⟨b,o,p⟩:=a;obtain⟨f,d,m,e,F,k⟩:=j _ rfl;simp only[]at f;subst f;exact .slice _ _ ⟨rfl,d⟩ d ⟨_,_,_,(g b d).trans k⟩
def bP.on(e:∀b,K b->W'.heap[b]? =W.heap[b]?){sc c}(h:bP K W sc c):bP K W' sc c:=bP.carry (σ:=λa b=>a=b/\K a) ⟨λ_ _ _ f d=>f.1.symm.trans d.1,λb m o v j k g=>by obtain⟨rfl,l⟩:=j;exact⟨v,CU (e b l) k,TV.on e g⟩⟩ rfl (λi v V f d g=>by rw[f]at d;cases d;exact TV.on e g) h
end
def Fw{fs}(L:bT fs){c}(d:OkC c)(e:∀r∈c.rules,r.kind<=3):wo fs c:=λr b=>by (have g:=(d.rules r b).1;have h:=e r b;obtain⟨k,f⟩:=ex (r.kind.toNat);rw[<-f];have a:k<4:=by omega);match k,a with|0,_=>exact G4 L|1,_=>exact ML L|2,_=>exact MM L|3,_=>exact G5 L
def masked{π:Ren Tryz.prog.globals.size}{W W' w B fz sc c}(i:∀g,g<5->π g g)(d:gQ W)(n:bP (named π) W sc c) (a:∀b,named π b->W'.heap[b]? =W.heap[b]?) (o:∀b,named π b->(∃c e F,W.heap[b]? =some (.cells c e F))->B b) (j:w.heap=(dj (idR Tryz.prog.globals.size B) fz W').heap):bP (named π) w sc c/\fW w/\gF w:=by (have e:∀(p:Addr),w.cell? p=(dj (idR Tryz.prog.globals.size B) fz W').cell? p:=λp=>by unfold World.cell?;rw[j]);refine⟨?_,?_,?_⟩;have q:=n.on a;(have r:bP (named π) (dj (idR Tryz.prog.globals.size B) fz W') sc c:=q.mask λb l s=>o b l (by rw[<-a b l];exact s);exact r.stays λb c e f h=>by rw[j];exact h);obtain⟨m,t⟩:=d.len;exact⟨m,(e _).trans (pD (CU (a 2 ⟨2,i 2 (by decide)⟩) t) (.int _ _))⟩;intro k u;exact(e _).trans (pD (CU (a 0 ⟨0,i 0 (by decide)⟩) (d.kinds k u)) (AT _ _ (AS k)))
def Le{π:Ren Tryz.prog.globals.size}{xs:List Value}(h:∀x∈xs,∃k n,x=.int k n):xs.toArray.map (mask π)=xs.toArray:=by refine Wy (by simp) λi b a=>?_;simp only[Array.getElem_map];obtain⟨k,n,e⟩:=h (xs.toArray[i]) (U8.1 (Wz a));rw[e];exact ja (.int k n)
def IH(k):∀x∈da kj k,∃kd n,x=.int kd n:=λx b=>by obtain⟨l,c,a⟩:=XM.1 b;have:=XN c;subst this;simp[kj]at a;subst a;exact⟨_,_,rfl⟩
def mS:bT (fO nR):=pC nR
def yt:uh gP dH:=by (rintro Pr π w W v A L Y F ⟨ab,c,rfl,⟨hc,G⟩,t,h3,H,rfl⟩ I;obtain⟨sc,rfl,J⟩:=hc.rel F Y;have Z:fV (named π) W sc:=G.rel F Y;have p:∀g,g<5->π g g:=λg M=>I g (Um M);have a:gQ W:=H.rel F p;obtain⟨N,O,h9,P⟩:∃N O,sc[9]? =some (.slice N c.marks.length O)/\sc.size=11:=by obtain⟨v0,v1,v2,vr,vf,vm,vk,rfl,_,_,_,hm,_⟩:=J;obtain⟨ao,cm,rfl,_⟩:=hm;exact⟨ao,cm,rfl,rfl⟩);have Q:=t.tG;refine⟨sc,c.marks.length,vT c,λ_=>ik (cj c),named π,N,O,rfl,h9,by rw[P];kernel_rfl,by omega,λb m=>m,?_,?_,λ_ _=>rfl,ui _⟩;refine KO (S:=ml) (fs:=fO nR) AO (λ_=>rfl) uq (by kernel_rfl) (λg d=>⟨⟨g,I g d⟩,a.cells g (UF d)⟩) a.size (λB r=>Z.self r) λi hi w' W' B fz f r k=>?_;(obtain⟨m1,m2,m3⟩:=masked p a J f r k;exact(Tu mS i w' m1 t hi (Fw mS t h3) m2 m3).mono λe w2 ⟨u,s⟩=>⟨u,λb m=>s.block b m⟩);refine Iq (S:=ml) (fs:=fO nR) AO (λ_=>rfl) uq (by kernel_rfl) (λg d=>⟨⟨g,I g d⟩,a.cells g (UF d)⟩) a.size (λB r=>Z.self r) (λhs R=>?_) λhs R w' W' B fz v6 N0 f r o y k=>?_;obtain⟨l,rfl,z⟩:=AK R;exact⟨by unfold ik;rw[Vh,Vh,z.length_eq],ui _⟩;obtain⟨m1,m2,m3⟩:=masked p a J f r k;(obtain⟨l,rfl,z⟩:=AK R;have C:(ik l).length=l.length:=by unfold ik;rw[Vh]);rw[C,il]at o;rw[C];obtain⟨rfl,h0⟩|⟨g,cap,rfl,D,T,ad,af,ag⟩:=o.2;(refine(KU mS w').mono λe w2 ⟨u,s⟩=>⟨u,λg cap e=>by(cases e),λb m _=>by rw[s]⟩);obtain⟨ak,U,V⟩:=y g rfl;(obtain⟨rest,h⟩:=ex (da kj (cap-l.length));have j:w'.heap[g]? =some (.cells (bF l++rest).toArray 66 (0,0)):=by rw[k,fN,T,UW];show some (Obj.cells ((bF l++da kj (cap-l.length)).toArray.map (mask _)) 66 _)=_;rw[Le λx hx=>?_,h];congr 2;exact Uc U;obtain hx|hx:=Vx.1 hx;obtain⟨n,hn⟩:=tL l x hx;exact⟨_,n,hn⟩;exact IH _ x hx);(have X:g<w'.heap.size:=(Uk.1 j).1;have an:l.length<=8:=by rw[z.length_eq,(kg c).length_eq];exact Uf (X8 _ _) (by rw[XI];exact Q));(have q:=NI mS (cap:=cap) (d0:=l.toArray) (rest:=rest) w' m1.days t (λb m D=>V (by rw[<-D];exact m)) (λx hx=>Fv t x (z.mem_iff.1 (by simpa using hx))) (by simp;omega) X ⟨Ue _,λ_ _ _=>rfl,by simpa using j⟩;have E:=Fj z;have hz:l.toArray.size=l.length:=by simp);(rw[hz]at q E;refine q.mono λe w2 ⟨u,s⟩=>⟨u,λg' aa e'=>?_,λb m ho=>s.other b m λe=>ho (by rw[e];rfl)⟩);cases e';rw[il,s.row,E,h]
def fP:bT (fO g74):=pC g74
def AV{w w' v c}(h:gD w.heap.size w' v (cj c))(k:Below w.heap.size w w'):R77 (ik (cj c)) w v w':=by (refine⟨k.size,λb i=>k.block b i,?_⟩;have a:(ik (cj c)).length=(cj c).length:=by unfold ik;rw[Vh]);rw[a,il];obtain⟨⟨r,m⟩,n⟩:=h;by_cases f:cj c=[];exact .inl ⟨by rw[f];rfl,n f⟩;refine .inr ⟨λe=>f (by unfold ik at e;simpa using e),?_⟩;have l:0<(cj c).length:=Vs.2 f;obtain⟨_,s⟩|⟨g,cap,o,e,t,p,x,y,z,q⟩:=m;omega;refine⟨⟨g,0,none⟩,cap,e,λj u d=>?_⟩;rw[show(Addr.add ⟨g,0,none⟩ j)=⟨g,0+j,none⟩ by simp[Addr.add];omega];refine cell_of_heap p _ _ ?_;rw[Uo,<-Vg];rw[<-q]at d;rw[XP]at d;split at d;exact d;cases d
def Lm(P a f2):ah (ah P a) f2=ah P f2:=rfl
def oZ{c}(a:OkC c):(cj c).length<=8:=by rw[(kg c).length_eq];exact Uf (X8 _ _) (by rw[XI];exact a.tG)
def Fy{Post}:nD gP (fO g74) Post dH:=by have j:(fO g74)[77]? =some Tryz.f77:=(uj _ _).symm.trans (n77 fP);refine Fh (S₁:=ml) (fs₁:=fO nR) (sV g74) j (by kernel_rfl) (by kernel_rfl) K8 IB (λ_=>rfl) uq (by kernel_rfl) rm ?_ ?_ ?_ ?_ ?_ ?_;rintro w v L ⟨sc,c,rfl,d,f,i,a,rfl⟩;exact a.size;rintro w v L ⟨sc,c,rfl,d,f,i,a,rfl⟩;refine⟨?_,ui _⟩;have:=oZ f;unfold ik;rw[Vh];omega;rintro w v L ⟨sc,c,rfl,d,f,i,a,rfl⟩ g m;exact a.cells g (UF m);rintro w v L ⟨sc,c,rfl,d,f,i,a,rfl⟩;exact⟨⟨sc,c,rfl,⟨d.1.mask λb _ h=>h,d.2.mask⟩,f,i,a.mask,rfl⟩,d.2.self λb _ h=>h⟩;rintro w v L ⟨sc,c,rfl,d,f,i,a,rfl⟩;(exact(xk fP w d.1 f).mono λe w' ⟨v,k,l,i⟩=>⟨v,k,AV l i⟩);rintro w v L ⟨sc,c,rfl,d,f,i,a,rfl⟩;rw[Lm];exact(xk mS w d.1 f).mono λe w' ⟨v,k,l,i⟩=>⟨v,k⟩
end Go.Proofs
namespace Go.Proofs
open Go.Tm Go.RowKit Go.ChangeShapes Go.WideShapes Go.ChangeAt Go.WideElems Go.Conc
section
variable {H:Type} {enc:TypeId×Value->H}
def fF{a C os f fn s g b fresh d h}{X:World->Array Value->Prop} (E:∀(w w') (args),w.heap=w'.heap->X w args->X w' args) (own:ownKnob C.prog.godebug=none) (k:os.Started) (x:C.prog.funcs[f]? =some fn) (l:∃(w:World) (tape:Tape) (i:Input),w.os=os/\(w.forCall tape i).Shaped C.prog/\i.vars=[]/\Input.okWide C.prog (w.forCall tape i) .any w.heap.size f i/\((s.pre enc C.prog fn g b (w.forCall tape i).memory i.args/\X (w.forCall tape i).memory i.args)/\sizedMet enc C.prog fn (OpenSpec.ofChange s) b (w.forCall tape i).memory i.args)/\a.holds C.prog (lone (Frame.enter C.prog f i.args .normal) [] (w.forCall tape i))) (m:∀(W) (base) (args) (ds r) (c),(∀(j:Nat) t v,fn.params[j]? =some t->args[j]? =some v->Value.okWide C.prog W .any base t v)->DataW.Whole enc C.prog fn.params.toList s.vars b W args.toList ds r c->(DataW.weightsEach C.prog (fn.params.toList++s.plain.varTypes C.prog) (ds++r)).all (· <=reachBytes)=true->X W args->W.ShapedOpen C.prog->∃M last o w' u,runNT C.prog (M+1) (solo (G (Frame.enter C.prog f args .normal) []) W) #[]=(.ended o w',u)/\runN C.prog M (solo (G (Frame.enter C.prog f args .normal) []) W)=.next last/\step C.prog last=.ended o w'/\Conc.Good C.prog (λv F=>s.post enc C.prog fn b fresh d h W args v F) last o w' u):ReturnsInLeavingWide a C os f .any (λw args=>(s.pre enc C.prog fn g b w args/\X w args)/\sizedMet enc C.prog fn (OpenSpec.ofChange s) b w args) (s.post enc C.prog fn b fresh d h):=by refine returnsInLeavingWide_of_good own k l ?_;intro w tape i _ y _ z n _;obtain⟨_,_,_,A,p,_,_,_,_,q⟩:=z;have e:A=fn:=UA (p.symm.trans x);subst e;obtain⟨⟨⟨ds,r,c,D,Q⟩,I⟩,J⟩:=n;have B:=DataW.Whole.of_heap (w':=w.forCall tape i) (by rfl) D;obtain⟨M,last,o,w',u,K,L,N,O⟩:=m (w.forCall tape i) w.heap.size i.args ds r c q B (J.weights D) (E _ _ _ (by rfl) I) y;exact⟨M,last,o,w',u,K,L,N,O.mono λv P=>ChangeSpec.post_blind P⟩
end
def NY:Tryz.prog.globalNamed "touchmark/like.kinds" =some 0:=by kernel_rfl
def Ri:(Tryz.prog.globals[0]?).map (·.type)=some 117:=by kernel_rfl
def Fu:Tryz.prog.cellsOf 116=2:=by kernel_rfl
def NZ:Tryz.prog.cellsOf 114=1:=by kernel_rfl
def kindName(k:UInt8):List UInt8:=[116,111,117,99,104,109,97,114,107,47,108,105,107,101,46,107,105,110,100,115,36,k]
def ru:DataW Unit:=.agg [.agg [.lit (.string [108,101,116,116,101,114,115]),.iface "func" (.lit (.string (kindName 49)))],.agg [.lit (.string [115,111,117,110,100,115]),.iface "func" (.lit (.string (kindName 50)))], .agg [.lit (.string [109,101,97,110,115]),.iface "func" (.lit (.string (kindName 51)))],.agg [.lit (.string [116,117,114,110,101,100]),.iface "func" (.lit (.string (kindName 52)))], .agg [.lit (.string [99,117,116]),.iface "func" (.lit (.string (kindName 53)))],.agg [.lit (.string [102,105,103,117,114,101,115]),.iface "func" (.lit (.string (kindName 54)))]]
def bU(k:Nat):List UInt8:=kindName (49+k.toUInt8)
def N6(k)(a:k<6):((List.range Tryz.prog.funcs.size).filter λf=>(Tryz.prog.funcs[f]?).any (·.name.toUTF8.data.toList==bU k))=[eH k]:=by
 match k,a with
 |0,_=>(have h:((List.range Tryz.prog.funcs.size).filter λf=>(Tryz.prog.funcs[f]?).any (·.name.toUTF8.data.toList==bU 0))=[eH 0]:=by kernel_rfl);exact h
 |1,_=>(have h:((List.range Tryz.prog.funcs.size).filter λf=>(Tryz.prog.funcs[f]?).any (·.name.toUTF8.data.toList==bU 1))=[eH 1]:=by kernel_rfl);exact h
 |2,_=>(have h:((List.range Tryz.prog.funcs.size).filter λf=>(Tryz.prog.funcs[f]?).any (·.name.toUTF8.data.toList==bU 2))=[eH 2]:=by kernel_rfl);exact h
 |3,_=>(have h:((List.range Tryz.prog.funcs.size).filter λf=>(Tryz.prog.funcs[f]?).any (·.name.toUTF8.data.toList==bU 3))=[eH 3]:=by kernel_rfl);exact h
 |4,_=>(have h:((List.range Tryz.prog.funcs.size).filter λf=>(Tryz.prog.funcs[f]?).any (·.name.toUTF8.data.toList==bU 4))=[eH 4]:=by kernel_rfl);exact h
 |5,_=>(have h:((List.range Tryz.prog.funcs.size).filter λf=>(Tryz.prog.funcs[f]?).any (·.name.toUTF8.data.toList==bU 5))=[eH 5]:=by kernel_rfl);exact h
def mm{l W}(h:laidMetH Tryz.prog l W)(z:("touchmark/like.kinds",DataW.iface "func table" ru)∈l):gF W:=by
 obtain⟨g,t,cs,fuel,p,A,B,C,D⟩:=h.funcs z;obtain rfl:=UA (NY.symm.trans A);obtain rfl:=UA (Ri.symm.trans B);obtain⟨xs,m,rfl,e,K,L,s⟩:=DataW.trod_array Tryz.underlying117 D;have E:xs.map (·.1)=[.agg [.lit (.string [108,101,116,116,101,114,115]),.held (bU 0)],.agg [.lit (.string [115,111,117,110,100,115]),.held (bU 1)],
  .agg [.lit (.string [109,101,97,110,115]),.held (bU 2)],.agg [.lit (.string [116,117,114,110,101,100]),.held (bU 3)],
  .agg [.lit (.string [99,117,116]),.held (bU 4)],.agg [.lit (.string [102,105,103,117,114,101,115]),.held (bU 5)]]:=by
  have e1:=(Ww e).1;have v:ru.funcsOut=_:=e1;have e3:ru.funcsOut=.agg [.agg [.lit (.string [108,101,116,116,101,114,115]),.held (bU 0)],.agg [.lit (.string [115,111,117,110,100,115]),.held (bU 1)],
   .agg [.lit (.string [109,101,97,110,115]),.held (bU 2)],.agg [.lit (.string [116,117,114,110,101,100]),.held (bU 3)],
   .agg [.lit (.string [99,117,116]),.held (bU 4)],.agg [.lit (.string [102,105,103,117,114,101,115]),.held (bU 5)]]:=by
   simp[ru,DataW.funcsOut,DataW.funcsOutAll,kindName,bU]
  rw[e3]at v;exact(DataW.agg.inj v).symm
 intro k u;have c:=s k u;rw[Fu]at c;have f:k<xs.length:=by omega
 rw[UG f]at c;obtain⟨M,w,F,e1,a,_,i⟩:=trod_struct2 Tryz.underlying116 c;have o:∃x,(xs[k]).1=.agg [x,.held (bU k)]:=by (have d:(xs.map (·.1))[k]? =some (xs[k]).1:=by rw[VH,UG f];rfl);rw[E]at d;match k,u with|0,_=>exact⟨_,(UA d).symm⟩|1,_=>exact⟨_,(UA d).symm⟩|2,_=>exact⟨_,(UA d).symm⟩|3,_=>exact⟨_,(UA d).symm⟩|4,_=>exact⟨_,(UA d).symm⟩|5,_=>exact⟨_,(UA d).symm⟩
 obtain⟨x,o⟩:=o;rw[e1]at o;have G:w.1=.held (bU k):=by have:=DataW.agg.inj o;simp only[Xg,and_true]at this;exact this.2
 rw[Fu]at a;obtain⟨q,c1,j⟩:∃q c1,(cs.toList.drop (k*2)).take 2=[q,c1]:=by match(cs.toList.drop (k*2)).take 2,a with| [q,c1],_=>exact⟨q,c1,rfl⟩
 rw[j]at i;have n:DataW.trod (funcToken Tryz.prog) Tryz.prog W 0 (λ_=>true) true F 114 [c1]=some (.held (bU k),w.2):=by rw[<-G];have I:Tryz.prog.cellsOf 114=1:=NZ;simpa[I]using i
 have J:c1=.func (.func (eH k)) #[] #[]:=func_of_trod (b:=116) (r:=[111,117,99,104,109,97,114,107,47,108,105,107,101,46,107,105,110,100,115,36,49+k.toUInt8]) Tryz.underlying114 (N6 k u) n;rw[World.var?_cell NY C (k*2+1),<-J,<-Vg];have y:((cs.toList.drop (k*2)).take 2)[1]? =some c1:=by rw[j];rfl
 rw[XP,Ud (by decide),W4]at y;exact y
def Ld(g)(a:g<5):∃zero t,(((begin Tryz.prog (λ_ _=>0) default).world.heap[g]?).bind Obj.row?)=some (zero,t):=by
 have h:(((begin Tryz.prog (λ_ _=>0) default).world.heap[g]?).bind Obj.row?).isSome=true:=by
  match g,a with
  |0,_=>(have h:(((begin Tryz.prog (λ_ _=>0) default).world.heap[0]?).bind Obj.row?).isSome=true:=by kernel_rfl);exact h
  |1,_=>(have h:(((begin Tryz.prog (λ_ _=>0) default).world.heap[1]?).bind Obj.row?).isSome=true:=by kernel_rfl);exact h
  |2,_=>(have h:(((begin Tryz.prog (λ_ _=>0) default).world.heap[2]?).bind Obj.row?).isSome=true:=by kernel_rfl);exact h
  |3,_=>(have h:(((begin Tryz.prog (λ_ _=>0) default).world.heap[3]?).bind Obj.row?).isSome=true:=by kernel_rfl);exact h
  |4,_=>(have h:(((begin Tryz.prog (λ_ _=>0) default).world.heap[4]?).bind Obj.row?).isSome=true:=by kernel_rfl);exact h
 obtain⟨⟨z,t⟩,b⟩:=XZ.1 h;exact⟨z,t,b⟩
def mo{W}(h:W.ShapedOpen Tryz.prog)(f:gF W):gQ W:=by (have b:∀g,g<5->∃c e F,W.heap[g]? =some (.cells c e F):=λg d=>by obtain⟨z,t,i⟩:=Ld g d;obtain⟨cs,a,_⟩:=h.1 g z t (by rw[ko];exact d) i;exact⟨cs,t,_,a⟩);refine⟨f,cell_of_shapedOpen_int (P:=Tryz.prog) (g:=2) (t:=3) (zero:=#[.int .i64 0]) h (UF (by kernel_rfl)) (by kernel_rfl) rfl (by kernel_rfl) (by kernel_rfl) Tryz.underlying3,b,?_⟩;rw[ko];obtain⟨c,e,F,a⟩:=b 4 (by decide);exact(Uk.1 a).1
end Go.Proofs
namespace Go.Proofs
def tk{w:Bs}(h:w.all aQ=true):aL [] w=w:=by unfold aL;induction w with|nil=>rfl|cons c cs a=>rw[Wd,Un]at h;show(if aQ c=true then[c]else[])++iu [] cs.length cs=_;rw[Ud h.1,a h.2];rfl
def bare(t:Table):Table:=⟨[],t.au,t.bz⟩
def IW{t}(h:bj t=0):bj (bare t)=0:=by obtain⟨_,a,b⟩:=kp h;have e:aT 0 12 letterF (bare t).aq=0:=rfl;unfold bj;rw[e];simp[bare,a,b]
def OO{c:UInt8}(h:aQ c=true):gV c=false:=by cases e:gV c with|false=>rfl|true=>(have:=(kq c).1 e;have a:97<=(c.toNat:Int):=by unfold aQ at h;simp only[Un,Uu]at h;exact h.1);omega
def LV{x:Bs}(a:x≠[])(f:x.length<=16)(b:x.all aQ=true):bd (bs x) 16=true:=by (unfold bd aw;rw[aR,bu];have d:x.any gV=false:=by rw[VN];intro c e;rw[OO (UJ.1 b c e)];decide);(have g:1<=x.length:=by cases x with|nil=>exact absurd rfl a|cons=>simp);rw[d,Um (by omega),Um (by omega)];rfl
def jU(a:ByteArray)(x:Bs):Mark:=⟨a,bs x,[],0,false⟩
def FZ{b}{x:Bs}(c:cu b=true)(d:x.length<=16)(e:x.all aQ=true):dB (jU b x)=0:=by unfold dB jU;simp only[c,bu];cases x with|nil=>rfl|cons a r=>rw[LV (by simp) d e];rfl
def im{t:Table}{k:Int}{n m x y}(h:bj t=0)(a:0<=k/\k<=5)(b:cu n=true)(c:cu m=true)(d:x.length<=16)(e:y.length<=16)(f:x.all aQ=true)(g:y.all aQ=true):fh (bare t) k (jU n x) (jU m y)=0:=by (have i:aw k 0 5=true:=by unfold aw;rw[Um a.1,Um a.2];rfl);unfold fh;rw[IW h,FZ b d f,FZ c e g,i];rfl
def pd{t:Table}{n m x y}(h:bj t=0)(c:cu n=true)(d:cu m=true)(e:x.length<=16)(f:y.length<=16)(a:x.all aQ=true)(b:y.all aQ=true):nI (bare t) 0 (jU n x) (jU m y)=bH x y:=by refine(Ud (im h (by decide) c d e f a b)).trans ?_;show bH (aL [] (bs x).data.toList) (aL [] (bs y).data.toList)=_;rw[bu,bu,tk a,tk b]
def F3{t:Table}{n m x y}(h:bj t=0)(c:cu n=true)(d:cu m=true)(e:x.length<=16)(f:y.length<=16)(a:x.all aQ=true)(b:y.all aQ=true):nI (bare t) 3 (jU n x) (jU m y)=bH x y.reverse:=by refine(Ud (im h (by decide) c d e f a b)).trans ?_;show bH (aL [] (bs x).data.toList) (aL [] (bs y).data.toList).reverse=_;rw[bu,bu,tk a,tk b]
def rA{a b:Bs}(c:a≠[])(d:b≠[]):bH a b=(100*((max a.length b.length:Nat)-(aK a b:Int)))/(max a.length b.length:Nat):=by
 unfold bH;cases a with
 |nil=>exact absurd rfl c
 |cons=>cases b with
  |nil=>exact absurd rfl d
  |cons=>rfl
theorem F4:∀(a:Bs) (k:Nat) (y:UInt8),k<a.length->aK a (a.take k++y::a.drop (k+1))<=1
 | [],k,y,h=>absurd h (Ut _)
 |x::a,0,y,h=>by have:=ur a a x y;rw[uu]at this;exact this
 |x::a,k+1,y,h=>by show aK (x::a) (x::(a.take k++y::a.drop (k+1)))<=1;rw[mR];exact F4 a k y (by simpa using h)
def F5{n:Int}(a:0<n){p q:Int}(h:q<=p+100):q/n<=p/n+(100/n+1):=by (have b:=Int.mul_ediv_add_emod p n;have c:=Int.mul_ediv_add_emod 100 n;have d:=WU p a;have f:=WU 100 a;refine Int.le_of_lt_add_one (Int.ediv_lt_of_lt_mul a ?_);have e:(p/n+(100/n+1)+1)*n=n*(p/n)+n*(100/n)+2*n:=by rw[Int.add_mul,Int.add_mul,Int.add_mul,Int.mul_comm (p/n) n,Int.mul_comm (100/n) n];omega);rw[e];omega
def IX{a b:Bs}{k:Nat}{y:UInt8}(h:b≠[])(j:b.length<=a.length)(f:k<a.length):bH (a.take k++y::a.drop (k+1)) b<=bH a b+(100/(a.length:Int)+1)/\bH a b<=bH (a.take k++y::a.drop (k+1)) b+(100/(a.length:Int)+1):=by (have l:=F4 a k y f;have d:(a.take k++y::a.drop (k+1)).length=a.length:=by rw[Uw,Ug,Ve,Uq];omega);(obtain⟨c,m⟩:=ex (a.take k++y::a.drop (k+1));rw[<-m]at l d⊢;have i:a≠[]:=λe=>by rw[e]at f;exact absurd f (Ut _));(have g:c≠[]:=λe=>by rw[e]at d;exact i (UH d.symm));rw[rA i h,rA g h,d,Nat.max_eq_left j];have o:=qu a c b;have n:=qu c a b;rw[AU c a]at n;exact⟨F5 (by omega) (by omega),F5 (by omega) (by omega)⟩
end Go.Proofs

import Derived.Conc.LeavingOf
import Derived.LaidSub
import Derived.MakeChecks
import Derived.OpenShut
import Derived.Shelf.Vars
import Derived.Test.YtaglpcmhopjebaaGreatDoorT36
set_option linter.all false
set_option maxRecDepth 100000
set_option maxHeartbeats 20000000
namespace Go.Proofs
open Go.Tm Go.RowKit
theorem pP{c}(b:OkC c)(m)(d:OkM m)(kin):∀(a) (i) (k) (v),ey c m kin i a=some (k,v)->k<i+a.length/\0<=v/\v<=100000
 | [],i,k,v,h=>by cases h
 |r::a,i,k,v,h=>by
  unfold ey at h;split at h
  ·cases h
   have:=lB c.table r.kind c.new m b.new.fig d.fig;exact⟨by simp,this.1,this.2⟩
  ·have:=pP b m d kin a (i+1) k v h
   simp only[SY];exact⟨by omega,this.2⟩
def MZ{c}(a:OkC c){i x}(h:gZ c i=some x):gi c x:=by unfold gZ at h;split at h;rename_i m k e g;(have f:i<c.marks.length:=(Uk.1 e).1;have b:=a.marks m (Ue e);cases d:ey c m k 0 c.rules with|none=>rw[d]at h;cases h|some p=>obtain⟨q,v⟩:=p;rw[d]at h;cases h;obtain⟨j,l,n⟩:=pP a m b k c.rules 0 q v d;have:=a.Fs;exact⟨⟨i,f,rfl⟩,by show(-1000:Int)<=(q:Int)/\(q:Int)<=1000;omega,by show(-1000000:Int)<=v/\v<=1000000;omega⟩);cases h
def EA{c}(a:OkC c):∀x∈bW c,gi c x:=λx b=>by have:=(jR c).mem_iff.1 b;obtain⟨i,_,d⟩:=List.mem_filterMap.1 this;exact MZ a d
section
variable {K:Nat->Prop} {W W':World}
def BR{b}(a:W'.heap[b]? =W.heap[b]?){o v}(h:W.cell? ⟨b,o,none⟩=some v):W'.cell? ⟨b,o,none⟩=some v:=(dk a).trans h
def TV.on(g:∀b,K b->W'.heap[b]? =W.heap[b]?){q v}(h:CV K W q v):TV (λa b=>a=b/\K a) K W' q v v:=by cases h with|bool=>exact .bool _|int=>exact .int _ _|string=>exact .string _|empty=>exact .empty _ _| @slice _ i l c j=>cases i with|none=>exact .iq _ _|some a=>obtain⟨b,o,p⟩:=a;obtain⟨f,d,m,e,F,k⟩:=j _ rfl;simp only[]at f;subst f;exact .slice _ _ ⟨rfl,d⟩ d ⟨_,_,_,(g b d).trans k⟩
def bH.on(e:∀b,K b->W'.heap[b]? =W.heap[b]?){sc c}(h:bH K W sc c):bH K W' sc c:=bH.carry (σ:=λa b=>a=b/\K a) ⟨λ_ _ _ f d=>f.1.symm.trans d.1,λb m o v j k g=>by obtain⟨rfl,l⟩:=j;exact⟨v,BR (e b l) k,TV.on e g⟩⟩ rfl (λi v V f d g=>by rw[f]at d;cases d;exact TV.on e g) h
end
def EB{fs}(L:bQ fs){c}(d:OkC c)(e:∀r∈c.rules,r.kind<=3):vi fs c:=λr b=>by (have g:=(d.rules r b).1;have h:=e r b;obtain⟨k,f⟩:=ex (r.kind.toNat);rw[<-f];have a:k<4:=by omega);match k,a with|0,_=>exact F3 L|1,_=>exact LP L|2,_=>exact LQ L|3,_=>exact F4 L
def masked{π:Ren Tryz.prog.globals.size}{W W' w B fz sc c}(i:∀g,g<5->π g g)(d:iM W)(n:bH (named π) W sc c) (a:∀b,named π b->W'.heap[b]? =W.heap[b]?) (o:∀b,named π b->(∃c e F,W.heap[b]? =some (.cells c e F))->B b) (j:w.heap=(cZ (idR Tryz.prog.globals.size B) fz W').heap):bH (named π) w sc c/\fN w/\fZ w:=by (have e:∀(p:Addr),w.cell? p=(cZ (idR Tryz.prog.globals.size B) fz W').cell? p:=λp=>by unfold World.cell?;rw[j]);refine⟨?_,?_,?_⟩;have q:=n.on a;(have r:bH (named π) (cZ (idR Tryz.prog.globals.size B) fz W') sc c:=q.mask λb l s=>o b l (by rw[<-a b l];exact s);exact r.stays λb c e f h=>by rw[j];exact h);obtain⟨m,t⟩:=d.len;exact⟨m,(e _).trans (oZ (BR (a 2 ⟨2,i 2 (by decide)⟩) t) (.int _ _))⟩;intro k u;exact(e _).trans (oZ (BR (a 0 ⟨0,i 0 (by decide)⟩) (d.kinds k u)) (Aa _ _ (zZ k)))
def Kd{π:Ren Tryz.prog.globals.size}{xs:List Value}(h:∀x∈xs,∃k n,x=.int k n):xs.toArray.map (mask π)=xs.toArray:=by refine Vd (by simp) λi b a=>?_;simp only[Array.getElem_map];obtain⟨k,n,e⟩:=h (xs.toArray[i]) (T3.1 (Ve a));rw[e];exact iJ (.int k n)
def He(k):∀x∈cJ jU k,∃kd n,x=.int kd n:=λx b=>by obtain⟨l,c,a⟩:=Ww.1 b;have:=Wx c;subst this;simp[jU]at a;subst a;exact⟨_,_,rfl⟩
def my:bQ (fI nu):=oY nu
def xK:tA gy dK:=by (rintro Pr π w W v A L Y F ⟨ab,c,rfl,⟨hc,G⟩,t,h3,H,rfl⟩ I;obtain⟨sc,rfl,J⟩:=hc.rel F Y;have Z:fJ (named π) W sc:=G.rel F Y;have p:∀g,g<5->π g g:=λg M=>I g (Ta M);have a:iM W:=H.rel F p;obtain⟨N,O,h9,P⟩:∃N O,sc[9]? =some (.slice N c.marks.length O)/\sc.size=11:=by obtain⟨v0,v1,v2,vr,vf,vm,vk,rfl,_,_,_,hm,_⟩:=J;obtain⟨ao,cm,rfl,_⟩:=hm;exact⟨ao,cm,rfl,rfl⟩);have Q:=t.sP;refine⟨sc,c.marks.length,uW c,λ_=>gR (bW c),named π,N,O,rfl,h9,by rw[P];kernel_rfl,by omega,λb m=>m,?_,?_,λ_ _=>rfl,tB _⟩;refine JQ (S:=lQ) (fs:=fI nu) zX (λ_=>rfl) tG (by kernel_rfl) (λg d=>⟨⟨g,I g d⟩,a.cells g (TG d)⟩) a.size (λB r=>Z.self r) λi hi w' W' B fz f r k=>?_;(obtain⟨m1,m2,m3⟩:=masked p a J f r k;exact(RX my i w' m1 t hi (EB my t h3) m2 m3).mono λe w2 ⟨u,s⟩=>⟨u,λb m=>s.block b m⟩);refine GQ (S:=lQ) (fs:=fI nu) zX (λ_=>rfl) tG (by kernel_rfl) (λg d=>⟨⟨g,I g d⟩,a.cells g (TG d)⟩) a.size (λB r=>Z.self r) (λhs R=>?_) λhs R w' W' B fz v6 N0 f r o y k=>?_;obtain⟨l,rfl,z⟩:=zT R;exact⟨by unfold gR;rw[T2,T2,z.length_eq],tB _⟩;obtain⟨m1,m2,m3⟩:=masked p a J f r k;(obtain⟨l,rfl,z⟩:=zT R;have C:(gR l).length=l.length:=by unfold gR;rw[T2]);rw[C,gS]at o;rw[C];obtain⟨rfl,h0⟩|⟨g,cap,rfl,D,T,ad,af,ag⟩:=o.2;(refine(JX my w').mono λe w2 ⟨u,s⟩=>⟨u,λg cap e=>by(cases e),λb m _=>by rw[s]⟩);obtain⟨ak,U,V⟩:=y g rfl;(obtain⟨rest,h⟩:=ex (cJ jU (cap-l.length));have j:w'.heap[g]? =some (.cells (bt l++rest).toArray 66 (0,0)):=by rw[k,fH,T,TH];show some (Obj.cells ((bt l++cJ jU (cap-l.length)).toArray.map (mask _)) 66 _)=_;rw[Kd λx hx=>?_,h];congr 2;exact SQ U;obtain hx|hx:=UC.1 hx;obtain⟨n,hn⟩:=sU l x hx;exact⟨_,n,hn⟩;exact He _ x hx);(have X:g<w'.heap.size:=(S8.1 j).1;have an:l.length<=8:=by rw[z.length_eq,(jR c).length_eq];exact SV (WU _ _) (by rw[Wr];exact Q));(have q:=MH my (cap:=cap) (d0:=l.toArray) (rest:=rest) w' m1.days t (λb m D=>V (by rw[<-D];exact m)) (λx hx=>EA t x (z.mem_iff.1 (by simpa using hx))) (by simp;omega) X ⟨SU _,λ_ _ _=>rfl,by simpa using j⟩;have E:=Es z;have hz:l.toArray.size=l.length:=by simp);(rw[hz]at q E;refine q.mono λe w2 ⟨u,s⟩=>⟨u,λg' aa e'=>?_,λb m ho=>s.other b m λe=>ho (by rw[e];rfl)⟩);cases e';rw[gS,s.row,E,h]
def iO:bQ (fI g74):=oY g74
def Ac{w w' v c}(h:fY w.heap.size w' v (bW c))(k:Below w.heap.size w w'):R77 (gR (bW c)) w v w':=by (refine⟨k.size,λb i=>k.block b i,?_⟩;have a:(gR (bW c)).length=(bW c).length:=by unfold gR;rw[T2]);rw[a,gS];obtain⟨⟨r,m⟩,n⟩:=h;by_cases f:bW c=[];exact .inl ⟨by rw[f];rfl,n f⟩;refine .inr ⟨λe=>f (by unfold gR at e;simpa using e),?_⟩;have l:0<(bW c).length:=TW.2 f;obtain⟨_,s⟩|⟨g,cap,o,e,t,p,x,y,z,q⟩:=m;omega;refine⟨⟨g,0,none⟩,cap,e,λj u d=>?_⟩;rw[show(Addr.add ⟨g,0,none⟩ j)=⟨g,0+j,none⟩ by simp[Addr.add];omega];refine cell_of_heap p _ _ ?_;rw[Tc,<-T1];rw[<-q]at d;rw[WA]at d;split at d;exact d;cases d
def Kl(P a f2):ah (ah P a) f2=ah P f2:=rfl
def oF{c}(a:OkC c):(bW c).length<=8:=by rw[(jR c).length_eq];exact SV (WU _ _) (by rw[Wr];exact a.sP)
def EC{Post}:m6 gy (fI g74) Post dK:=by have j:(fI g74)[77]? =some Tryz.f77:=(tC _ _).symm.trans (n77 iO);refine Ep (S₁:=lQ) (fs₁:=fI nu) (rT g74) j (by kernel_rfl) (by kernel_rfl) J6 G8 (λ_=>rfl) tG (by kernel_rfl) qw ?_ ?_ ?_ ?_ ?_ ?_;rintro w v L ⟨sc,c,rfl,d,f,i,a,rfl⟩;exact a.size;rintro w v L ⟨sc,c,rfl,d,f,i,a,rfl⟩;refine⟨?_,tB _⟩;have:=oF f;unfold gR;rw[T2];omega;rintro w v L ⟨sc,c,rfl,d,f,i,a,rfl⟩ g m;exact a.cells g (TG m);rintro w v L ⟨sc,c,rfl,d,f,i,a,rfl⟩;exact⟨⟨sc,c,rfl,⟨d.1.mask λb _ h=>h,d.2.mask⟩,f,i,a.mask,rfl⟩,d.2.self λb _ h=>h⟩;rintro w v L ⟨sc,c,rfl,d,f,i,a,rfl⟩;(exact(vZ iO w d.1 f).mono λe w' ⟨v,k,l,i⟩=>⟨v,k,Ac l i⟩);rintro w v L ⟨sc,c,rfl,d,f,i,a,rfl⟩;rw[Kl];exact(vZ my w d.1 f).mono λe w' ⟨v,k,l,i⟩=>⟨v,k⟩
end Go.Proofs
namespace Go.Proofs
open Go.Tm Go.RowKit Go.ChangeShapes Go.WideShapes Go.ChangeAt Go.WideElems Go.Conc
section
variable {H:Type} {enc:TypeId×Value->H}
def oE{a C os f fn s g b fresh d h}{X:World->Array Value->Prop} (E:∀(w w') (args),w.heap=w'.heap->X w args->X w' args) (own:ownKnob C.prog.godebug=none) (k:os.Started) (x:C.prog.funcs[f]? =some fn) (l:∃(w:World) (tape:Tape) (i:Input),w.os=os/\(w.forCall tape i).Shaped C.prog/\i.vars=[]/\Input.okWide C.prog (w.forCall tape i) .any w.heap.size f i/\((s.pre enc C.prog fn g b (w.forCall tape i).memory i.args/\X (w.forCall tape i).memory i.args)/\sizedMet enc C.prog fn (OpenSpec.ofChange s) b (w.forCall tape i).memory i.args)/\a.holds C.prog (lone (Frame.enter C.prog f i.args .normal) [] (w.forCall tape i))) (m:∀(W) (base) (args) (ds r) (c),(∀(j:Nat) t v,fn.params[j]? =some t->args[j]? =some v->Value.okWide C.prog W .any base t v)->DataW.Whole enc C.prog fn.params.toList s.vars b W args.toList ds r c->(DataW.weightsEach C.prog (fn.params.toList++s.plain.varTypes C.prog) (ds++r)).all (· <=reachBytes)=true->X W args->W.ShapedOpen C.prog->∃M last o w' u,runNT C.prog (M+1) (solo (G (Frame.enter C.prog f args .normal) []) W) #[]=(.ended o w',u)/\runN C.prog M (solo (G (Frame.enter C.prog f args .normal) []) W)=.next last/\step C.prog last=.ended o w'/\Conc.Good C.prog (λv F=>s.post enc C.prog fn b fresh d h W args v F) last o w' u):ReturnsInLeavingWide a C os f .any (λw args=>(s.pre enc C.prog fn g b w args/\X w args)/\sizedMet enc C.prog fn (OpenSpec.ofChange s) b w args) (s.post enc C.prog fn b fresh d h):=by refine returnsInLeavingWide_of_good own k l ?_;intro w tape i _ y _ z n _;obtain⟨_,_,_,A,p,_,_,_,_,q⟩:=z;have e:A=fn:=Tr (p.symm.trans x);subst e;obtain⟨⟨⟨ds,r,c,D,Q⟩,I⟩,J⟩:=n;have B:=DataW.Whole.of_heap (w':=w.forCall tape i) (by rfl) D;obtain⟨M,last,o,w',u,K,L,N,O⟩:=m (w.forCall tape i) w.heap.size i.args ds r c q B (J.weights D) (E _ _ _ (by rfl) I) y;exact⟨M,last,o,w',u,K,L,N,O.mono λv P=>ChangeSpec.post_blind P⟩
end
def MV:Tryz.prog.globalNamed "touchmark/like.kinds" =some 0:=by kernel_rfl
def Qd:(Tryz.prog.globals[0]?).map (·.type)=some 117:=by kernel_rfl
def Ez:Tryz.prog.cellsOf 116=2:=by kernel_rfl
def MW:Tryz.prog.cellsOf 114=1:=by kernel_rfl
def kindName(k:UInt8):List UInt8:=[116,111,117,99,104,109,97,114,107,47,108,105,107,101,46,107,105,110,100,115,36,k]
def xJ:DataW Unit:=.agg [.agg [.lit (.string [108,101,116,116,101,114,115]),.iface "func" (.lit (.string (kindName 49)))],.agg [.lit (.string [115,111,117,110,100,115]),.iface "func" (.lit (.string (kindName 50)))], .agg [.lit (.string [109,101,97,110,115]),.iface "func" (.lit (.string (kindName 51)))],.agg [.lit (.string [116,117,114,110,101,100]),.iface "func" (.lit (.string (kindName 52)))], .agg [.lit (.string [99,117,116]),.iface "func" (.lit (.string (kindName 53)))],.agg [.lit (.string [102,105,103,117,114,101,115]),.iface "func" (.lit (.string (kindName 54)))]]
def bO(k:Nat):List UInt8:=kindName (49+k.toUInt8)
def MY(k)(a:k<6):((List.range Tryz.prog.funcs.size).filter λf=>(Tryz.prog.funcs[f]?).any (·.name.toUTF8.data.toList==bO k))=[eD k]:=by
 match k,a with
 |0,_=>(have h:((List.range Tryz.prog.funcs.size).filter λf=>(Tryz.prog.funcs[f]?).any (·.name.toUTF8.data.toList==bO 0))=[eD 0]:=by kernel_rfl);exact h
 |1,_=>(have h:((List.range Tryz.prog.funcs.size).filter λf=>(Tryz.prog.funcs[f]?).any (·.name.toUTF8.data.toList==bO 1))=[eD 1]:=by kernel_rfl);exact h
 |2,_=>(have h:((List.range Tryz.prog.funcs.size).filter λf=>(Tryz.prog.funcs[f]?).any (·.name.toUTF8.data.toList==bO 2))=[eD 2]:=by kernel_rfl);exact h
 |3,_=>(have h:((List.range Tryz.prog.funcs.size).filter λf=>(Tryz.prog.funcs[f]?).any (·.name.toUTF8.data.toList==bO 3))=[eD 3]:=by kernel_rfl);exact h
 |4,_=>(have h:((List.range Tryz.prog.funcs.size).filter λf=>(Tryz.prog.funcs[f]?).any (·.name.toUTF8.data.toList==bO 4))=[eD 4]:=by kernel_rfl);exact h
 |5,_=>(have h:((List.range Tryz.prog.funcs.size).filter λf=>(Tryz.prog.funcs[f]?).any (·.name.toUTF8.data.toList==bO 5))=[eD 5]:=by kernel_rfl);exact h
def yN{l W}(h:laidMetH Tryz.prog l W)(z:("touchmark/like.kinds",DataW.iface "func table" xJ)∈l):fZ W:=by
 obtain⟨g,t,cs,fuel,p,A,B,C,D⟩:=h.funcs z;obtain rfl:=Tr (MV.symm.trans A);obtain rfl:=Tr (Qd.symm.trans B);obtain⟨xs,m,rfl,e,K,L,s⟩:=DataW.trod_array Tryz.underlying117 D;have E:xs.map (·.1)=[.agg [.lit (.string [108,101,116,116,101,114,115]),.held (bO 0)],.agg [.lit (.string [115,111,117,110,100,115]),.held (bO 1)],
  .agg [.lit (.string [109,101,97,110,115]),.held (bO 2)],.agg [.lit (.string [116,117,114,110,101,100]),.held (bO 3)],
  .agg [.lit (.string [99,117,116]),.held (bO 4)],.agg [.lit (.string [102,105,103,117,114,101,115]),.held (bO 5)]]:=by
  have e1:=(Va e).1;have v:xJ.funcsOut=_:=e1;have e3:xJ.funcsOut=.agg [.agg [.lit (.string [108,101,116,116,101,114,115]),.held (bO 0)],.agg [.lit (.string [115,111,117,110,100,115]),.held (bO 1)],
   .agg [.lit (.string [109,101,97,110,115]),.held (bO 2)],.agg [.lit (.string [116,117,114,110,101,100]),.held (bO 3)],
   .agg [.lit (.string [99,117,116]),.held (bO 4)],.agg [.lit (.string [102,105,103,117,114,101,115]),.held (bO 5)]]:=by
   simp[xJ,DataW.funcsOut,DataW.funcsOutAll,kindName,bO]
  rw[e3]at v;exact(DataW.agg.inj v).symm
 intro k u;have c:=s k u;rw[Ez]at c;have f:k<xs.length:=by omega
 rw[TA f]at c;obtain⟨M,w,F,e1,a,_,i⟩:=trod_struct2 Tryz.underlying116 c;have o:∃x,(xs[k]).1=.agg [x,.held (bO k)]:=by (have d:(xs.map (·.1))[k]? =some (xs[k]).1:=by rw[Ut,TA f];rfl);rw[E]at d;match k,u with|0,_=>exact⟨_,(Tr d).symm⟩|1,_=>exact⟨_,(Tr d).symm⟩|2,_=>exact⟨_,(Tr d).symm⟩|3,_=>exact⟨_,(Tr d).symm⟩|4,_=>exact⟨_,(Tr d).symm⟩|5,_=>exact⟨_,(Tr d).symm⟩
 obtain⟨x,o⟩:=o;rw[e1]at o;have G:w.1=.held (bO k):=by have:=DataW.agg.inj o;simp only[VM,and_true]at this;exact this.2
 rw[Ez]at a;obtain⟨q,c1,j⟩:∃q c1,(cs.toList.drop (k*2)).take 2=[q,c1]:=by match(cs.toList.drop (k*2)).take 2,a with| [q,c1],_=>exact⟨q,c1,rfl⟩
 rw[j]at i;have n:DataW.trod (funcToken Tryz.prog) Tryz.prog W 0 (λ_=>true) true F 114 [c1]=some (.held (bO k),w.2):=by rw[<-G];have I:Tryz.prog.cellsOf 114=1:=MW;simpa[I]using i
 have J:c1=.func (.func (eD k)) #[] #[]:=func_of_trod (b:=116) (r:=[111,117,99,104,109,97,114,107,47,108,105,107,101,46,107,105,110,100,115,36,49+k.toUInt8]) Tryz.underlying114 (MY k u) n;rw[World.var?_cell MV C (k*2+1),<-J,<-T1];have y:((cs.toList.drop (k*2)).take 2)[1]? =some c1:=by rw[j];rfl
 rw[WA,SS (by decide),VA]at y;exact y
def Kb(g)(a:g<5):∃zero t,(((begin Tryz.prog (λ_ _=>0) default).world.heap[g]?).bind Obj.row?)=some (zero,t):=by
 have h:(((begin Tryz.prog (λ_ _=>0) default).world.heap[g]?).bind Obj.row?).isSome=true:=by
  match g,a with
  |0,_=>(have h:(((begin Tryz.prog (λ_ _=>0) default).world.heap[0]?).bind Obj.row?).isSome=true:=by kernel_rfl);exact h
  |1,_=>(have h:(((begin Tryz.prog (λ_ _=>0) default).world.heap[1]?).bind Obj.row?).isSome=true:=by kernel_rfl);exact h
  |2,_=>(have h:(((begin Tryz.prog (λ_ _=>0) default).world.heap[2]?).bind Obj.row?).isSome=true:=by kernel_rfl);exact h
  |3,_=>(have h:(((begin Tryz.prog (λ_ _=>0) default).world.heap[3]?).bind Obj.row?).isSome=true:=by kernel_rfl);exact h
  |4,_=>(have h:(((begin Tryz.prog (λ_ _=>0) default).world.heap[4]?).bind Obj.row?).isSome=true:=by kernel_rfl);exact h
 obtain⟨⟨z,t⟩,b⟩:=WN.1 h;exact⟨z,t,b⟩
def yO{W}(h:W.ShapedOpen Tryz.prog)(f:fZ W):iM W:=by (have b:∀g,g<5->∃c e F,W.heap[g]? =some (.cells c e F):=λg d=>by obtain⟨z,t,i⟩:=Kb g d;obtain⟨cs,a,_⟩:=h.1 g z t (by rw[jW];exact d) i;exact⟨cs,t,_,a⟩);refine⟨f,cell_of_shapedOpen_int (P:=Tryz.prog) (g:=2) (t:=3) (zero:=#[.int .i64 0]) h (TG (by kernel_rfl)) (by kernel_rfl) rfl (by kernel_rfl) (by kernel_rfl) Tryz.underlying3,b,?_⟩;rw[jW];obtain⟨c,e,F,a⟩:=b 4 (by decide);exact(S8.1 a).1
end Go.Proofs

import Derived.Conc.LeavingOf
import Derived.LaidSub
import Derived.MakeChecks
import Derived.OpenShut
import Derived.Shelf.Vars
import Derived.Test.YtaglpcmhopjebaaGreatDoorY47
set_option linter.all false
set_option maxRecDepth 100000
set_option maxHeartbeats 20000000
namespace Go.Proofs
open Go.Tm Go.RowKit
theorem pJ{c}(b:OkC c)(m)(d:OkM m)(kin):∀(a) (i) (k) (v),ey c m kin i a=some (k,v)->k<i+a.length/\0<=v/\v<=100000
 | [],i,k,v,h=>by cases h
 |r::a,i,k,v,h=>by
  unfold ey at h;split at h
  ·cases h
   have:=lh c.table r.kind c.new m b.new.fig d.fig;exact⟨by simp,this.1,this.2⟩
  ·have:=pJ b m d kin a (i+1) k v h
   simp only[Rs];exact⟨by omega,this.2⟩
def Ly{c}(a:OkC c){i x}(h:gU c i=some x):gl c x:=by
 unfold gU at h;split at h
 ·rename_i m k e g
  have f:i<c.marks.length:=(Ts.1 e).1;have b:=a.marks m (SN e);cases d:ey c m k 0 c.rules with
  |none=>rw[d]at h;cases h
  |some p=>obtain⟨q,v⟩:=p;rw[d]at h;cases h;obtain⟨b1,b2,j⟩:=pJ a m b k c.rules 0 q v d;have:=a.Ev;exact⟨⟨i,f,rfl⟩,by show(-1000:Int)<=(q:Int)/\(q:Int)<=1000;omega,by show(-1000000:Int)<=v/\v<=1000000;omega⟩
 ·cases h
def D2{c}(a:OkC c):∀x∈bX c,gl c x:=λx b=>by have:=(jO c).mem_iff.1 b;obtain⟨i,_,d⟩:=List.mem_filterMap.1 this;exact Ly a d
section
variable {K:Nat->Prop} {W W':World}
def A5{b}(a:W'.heap[b]? =W.heap[b]?){o v}(h:W.cell? ⟨b,o,none⟩=some v):W'.cell? ⟨b,o,none⟩=some v:=(dh a).trans h
def TV.on(g:∀b,K b->W'.heap[b]? =W.heap[b]?){v}(h:CV K W v):TV (λa b=>a=b/\K a) K W' v v:=by
 cases h with
 |bool=>exact .bool _
 |int=>exact .int _ _
 |string=>exact .string _
 | @slice ao l c i=>
  cases ao with
  |none=>exact .js _ _
  |some a=>obtain⟨b,o,p⟩:=a;obtain⟨f,d,k,e,F,j⟩:=i _ rfl;simp only[]at f;subst f;exact .slice _ _ ⟨rfl,d⟩ d ⟨_,_,_,(g b d).trans j⟩
def bl.on(e:∀b,K b->W'.heap[b]? =W.heap[b]?){sc c}(h:bl K W sc c):bl K W' sc c:=bl.carry (σ:=λa b=>a=b/\K a) ⟨λ_ _ _ f d=>f.1.symm.trans d.1,λb m o v j k g=>by obtain⟨rfl,l⟩:=j;exact⟨v,A5 (e b l) k,TV.on e g⟩⟩ rfl (λi v V f d g=>by rw[f]at d;cases d;exact TV.on e g) h
end
def D3{fs}(L:bQ fs){c}(d:OkC c)(e:∀r∈c.rules,r.kind<=3):uO fs c:=λr b=>by
 have g:=(d.rules r b).1;have h:=e r b;obtain⟨k,f⟩:=ex (r.kind.toNat);rw[<-f];have a:k<4:=by omega
 match k,a with
 |0,_=>exact Ki L
 |1,_=>exact On L
 |2,_=>exact Oo L
 |3,_=>exact Kj L
def masked{π:Ren Tryz.prog.globals.size}{W W' w B fz sc c}(i:∀g,g<5->π g g)(d:jD W)(n:bl (named π) W sc c)
 (a:∀b,named π b->W'.heap[b]? =W.heap[b]?) (o:∀b,named π b->(∃c e F,W.heap[b]? =some (.cells c e F))->B b) (j:w.heap=(bZ (idR Tryz.prog.globals.size B) fz W').heap):
 bl (named π) w sc c/\gZ w/\ia w:=by
 have e:∀(p:Addr),w.cell? p=(bZ (idR Tryz.prog.globals.size B) fz W').cell? p:=λp=>by unfold World.cell?;rw[j]
 refine⟨?_,?_,?_⟩
 ·have q:=n.on a
  have r:bl (named π) (bZ (idR Tryz.prog.globals.size B) fz W') sc c:=q.mask λb l s=>o b l (by rw[<-a b l];exact s);exact r.stays λb c e f h=>by rw[j];exact h
 ·obtain⟨m,t⟩:=d.len
  exact⟨m,(e _).trans (fH (A5 (a 2 ⟨2,i 2 (by decide)⟩) t) (.int _ _))⟩
 ·intro k u
  exact(e _).trans (fH (A5 (a 0 ⟨0,i 0 (by decide)⟩) (d.kinds k u)) (zB _ _ (zA k)))
def I6{π:Ren Tryz.prog.globals.size}{xs:List Value}(h:∀x∈xs,∃k n,x=.int k n):xs.toArray.map (mask π)=xs.toArray:=by refine Uy (by simp) λi b a=>?_;simp only[Array.getElem_map];obtain⟨k,n,e⟩:=h (xs.toArray[i]) (SS.1 (Uz a));rw[e];exact tk (.int k n)
def Ga(k):∀x∈cO jR k,∃kd n,x=.int kd n:=λx b=>by obtain⟨l,c,a⟩:=U8.1 b;have:=U9 c;subst this;simp[jR]at a;subst a;exact⟨_,_,rfl⟩
def mi:bQ (fM nn):=oP nn
def xi:tl jC dN:=by
 rintro Pr π w W v A L Z V ⟨aa,c,rfl,hc,t,h3,G,rfl⟩ H;obtain⟨sc,rfl,u⟩:=hc.rel V Z;have p:∀g,g<5->π g g:=λg I=>H g (RE I);have a:jD W:=G.rel V p;obtain⟨J,M,h9,N⟩:∃J M,sc[9]? =some (.slice J c.marks.length M)/\sc.size=11:=by obtain⟨v0,v1,v2,vr,vf,vm,vk,rfl,_,_,_,hm,_⟩:=u;obtain⟨ao,cm,rfl,_⟩:=hm;exact⟨ao,cm,rfl,rfl⟩
 have O:=t.sx;refine⟨sc,c.marks.length,uF c,λ_=>gP (bX c),named π,J,M,rfl,h9,by rw[N];kernel_rfl,by omega,λb m=>m,?_,?_,λ_ _=>rfl,tp _⟩
 ·refine IN (S:=oq) (fs:=fM nn) zy (λ_=>rfl) tu (by kernel_rfl) (λg d=>⟨⟨g,H g d⟩,a.cells g (Su d)⟩) a.size (λB r=>u.self r) λi hi w' W' B fz f r k=>?_
  obtain⟨m1,m2,X⟩:=masked p a u f r k;exact(QE mi i w' m1 t hi (D3 mi t h3) m2 X).mono λe w2 ⟨y,s⟩=>⟨y,λb m=>s.block b m⟩
 ·refine FP (S:=oq) (fs:=fM nn) zy (λ_=>rfl) tu (by kernel_rfl) (λg d=>⟨⟨g,H g d⟩,a.cells g (Su d)⟩) a.size (λB r=>u.self r) (λhs P=>?_) λhs P w' W' B fz v6 N0 f r o z k=>?_
  ·obtain⟨l,rfl,C⟩:=zt P
   exact⟨by unfold gP;rw[SJ,SJ,C.length_eq],tp _⟩
  ·obtain⟨m1,m2,X⟩:=masked p a u f r k
   obtain⟨l,rfl,C⟩:=zt P;have D:(gP l).length=l.length:=by unfold gP;rw[SJ]
   rw[D,gQ]at o;rw[D];obtain⟨rfl,h0⟩|⟨g,cap,rfl,E,Q,ab,ad,af⟩:=o.2
   ·refine(IV mi w').mono λe w2 ⟨y,s⟩=>⟨y,λg cap e=>by(cases e),λb m _=>by rw[s]⟩
   ·obtain⟨ag,R,T⟩:=z g rfl
    obtain⟨rest,h⟩:=ex (cO jR (cap-l.length));have j:w'.heap[g]? =some (.cells (bq l++rest).toArray 66 (0,0)):=by
     rw[k,fG,Q,Sl];show some (Obj.cells ((bq l++cO jR (cap-l.length)).toArray.map (mask _)) 66 _)=_;rw[I6 λx hx=>?_,h]
     ·congr 2
      exact Ro R
     ·obtain hx|hx:=Tt.1 hx
      ·obtain⟨n,hn⟩:=sK l x hx
       exact⟨_,n,hn⟩
      ·exact Ga _ x hx
    have U:g<w'.heap.size:=(Rx.1 j).1;have ak:l.length<=8:=by rw[C.length_eq,(jO c).length_eq];exact Rr (Wi _ _) (by rw[U3];exact O)
    have q:=Lc mi (cap:=cap) (d0:=l.toArray) (rest:=rest) w' m1.days t (λb m E=>T (by rw[<-E];exact m)) (λx hx=>D2 t x (C.mem_iff.1 (by simpa using hx))) (by simp;omega) U ⟨Rq _,λ_ _ _=>rfl,by simpa using j⟩;have F:=DL C;have hz:l.toArray.size=l.length:=by simp
    rw[hz]at q F;refine q.mono λe w2 ⟨y,s⟩=>⟨y,λg' Y e'=>?_,λb m ho=>s.other b m λe=>ho (by rw[e];rfl)⟩
    cases e';rw[gQ,s.row,F,h]
def iP:bQ (fM g74):=oP g74
def zF{w w' v c}(h:fZ w.heap.size w' v (bX c))(k:Below w.heap.size w w'):R77 (gP (bX c)) w v w':=by
 refine⟨k.size,λb i=>k.block b i,?_⟩;have a:(gP (bX c)).length=(bX c).length:=by unfold gP;rw[SJ]
 rw[a,gQ];obtain⟨⟨r,m⟩,n⟩:=h;by_cases f:bX c=[]
 ·exact .inl ⟨by rw[f];rfl,n f⟩
 ·refine .inr ⟨λe=>f (by unfold gP at e;simpa using e),?_⟩
  have l:0<(bX c).length:=SY.2 f;obtain⟨_,s⟩|⟨g,cap,o,e,t,p,x,y,z,q⟩:=m
  ·omega
  ·refine⟨⟨g,0,none⟩,cap,e,λj u d=>?_⟩
   rw[show(Addr.add ⟨g,0,none⟩ j)=⟨g,0+j,none⟩ by simp[Addr.add];omega];refine cell_of_heap p _ _ ?_;rw[RB,<-Sv];rw[<-q]at d;rw[UC]at d;split at d
   ·exact d
   ·cases d
def Je(P a f2):ah (ah P a) f2=ah P f2:=rfl
def ox{c}(a:OkC c):(bX c).length<=8:=by rw[(jO c).length_eq];exact Rr (Wi _ _) (by rw[U3];exact a.sx)
def D4{Post}:mQ jC (fM g74) Post dN:=by
 have j:(fM g74)[77]? =some Tryz.f77:=(wY _ _).symm.trans (n77 iP);refine DJ (S₁:=oq) (fs₁:=fM nn) (rM g74) j (by kernel_rfl) (by kernel_rfl) I0 F4 (λ_=>rfl) tu (by kernel_rfl) ql ?_ ?_ ?_ ?_ ?_ ?_
 ·rintro w v L ⟨sc,c,rfl,d,f,i,a,rfl⟩
  exact a.size
 ·rintro w v L ⟨sc,c,rfl,d,f,i,a,rfl⟩
  refine⟨?_,tp _⟩;have:=ox f;unfold gP;rw[SJ];omega
 ·rintro w v L ⟨sc,c,rfl,d,f,i,a,rfl⟩ g m
  exact a.cells g (Su m)
 ·rintro w v L ⟨sc,c,rfl,d,f,i,a,rfl⟩
  exact⟨⟨sc,c,rfl,d.mask λb _ h=>h,f,i,a.mask,rfl⟩,d.self λb _ h=>h⟩
 ·rintro w v L ⟨sc,c,rfl,d,f,i,a,rfl⟩
  exact(vA iP w d f).mono λe w' ⟨v,k,l,i⟩=>⟨v,k,zF l i⟩
 ·rintro w v L ⟨sc,c,rfl,d,f,i,a,rfl⟩
  rw[Je];exact(vA mi w d f).mono λe w' ⟨v,k,l,i⟩=>⟨v,k⟩
end Go.Proofs
namespace Go.Proofs
open Go.Tm Go.RowKit Go.ChangeShapes Go.WideShapes Go.ChangeAt Go.WideElems Go.Conc
section
variable {H:Type} {enc:TypeId×Value->H}
def ow{a C os f fn s g b fresh d h}{X:World->Array Value->Prop}
 (E:∀(w w') (args),w.heap=w'.heap->X w args->X w' args)
 (own:ownKnob C.prog.godebug=none) (k:os.Started) (x:C.prog.funcs[f]? =some fn)
 (l:∃(w:World) (tape:Tape) (i:Input),w.os=os/\(w.forCall tape i).Shaped C.prog/\i.vars=[]/\Input.okWide C.prog (w.forCall tape i) .any w.heap.size f i/\((s.pre enc C.prog fn g b (w.forCall tape i).memory i.args/\X (w.forCall tape i).memory i.args)/\sizedMet enc C.prog fn (OpenSpec.ofChange s) b (w.forCall tape i).memory i.args)/\a.holds C.prog (lone (Frame.enter C.prog f i.args .normal) [] (w.forCall tape i)))
 (m:∀(W) (base) (args) (ds r) (c),
  (∀(j:Nat) t v,fn.params[j]? =some t->args[j]? =some v->Value.okWide C.prog W .any base t v)->
  DataW.Whole enc C.prog fn.params.toList s.vars b W args.toList ds r c->
  (DataW.weightsEach C.prog (fn.params.toList++s.plain.varTypes C.prog) (ds++r)).all (· <=reachBytes)=true->X W args->W.ShapedOpen C.prog->
  ∃M last o w' u,runNT C.prog (M+1) (solo (G (Frame.enter C.prog f args .normal) []) W) #[]=(.ended o w',u)/\runN C.prog M (solo (G (Frame.enter C.prog f args .normal) []) W)=.next last/\step C.prog last=.ended o w'/\Conc.Good C.prog (λv F=>s.post enc C.prog fn b fresh d h W args v F) last o w' u):
 ReturnsInLeavingWide a C os f .any (λw args=>(s.pre enc C.prog fn g b w args/\X w args)/\sizedMet enc C.prog fn (OpenSpec.ofChange s) b w args) (s.post enc C.prog fn b fresh d h):=by
 refine returnsInLeavingWide_of_good own k l ?_;intro w tape i _ y _ z n _;obtain⟨_,_,_,A,p,_,_,_,_,q⟩:=z;have e:A=fn:=RU (p.symm.trans x);subst e;obtain⟨⟨⟨ds,r,c,D,Q⟩,I⟩,J⟩:=n;have B:=DataW.Whole.of_heap (w':=w.forCall tape i) (by rfl) D;obtain⟨M,last,o,w',u,K,L,N,O⟩:=m (w.forCall tape i) w.heap.size i.args ds r c q B (J.weights D) (E _ _ _ (by rfl) I) y;exact⟨M,last,o,w',u,K,L,N,O.mono λv P=>ChangeSpec.post_blind P⟩
end
def Lt:Tryz.prog.globalNamed "touchmark/like.kinds" =some 0:=by kernel_rfl
def OS:(Tryz.prog.globals[0]?).map (·.type)=some 117:=by kernel_rfl
def Lu:Tryz.prog.globalNamed "touchmark/like.doing" =some 1:=by kernel_rfl
def OT:(Tryz.prog.globals[1]?).map (·.type)=some 146:=by kernel_rfl
def D1:Tryz.prog.cellsOf 116=2:=by kernel_rfl
def Lv:Tryz.prog.cellsOf 114=1:=by kernel_rfl
def kindName(k:UInt8):List UInt8:=[116,111,117,99,104,109,97,114,107,47,108,105,107,101,46,107,105,110,100,115,36,k]
def xh:DataW Unit:=.agg [.agg [.lit (.string [108,101,116,116,101,114,115]),.iface "func" (.lit (.string (kindName 49)))],.agg [.lit (.string [115,111,117,110,100,115]),.iface "func" (.lit (.string (kindName 50)))],
 .agg [.lit (.string [109,101,97,110,115]),.iface "func" (.lit (.string (kindName 51)))],.agg [.lit (.string [116,117,114,110,101,100]),.iface "func" (.lit (.string (kindName 52)))],
 .agg [.lit (.string [99,117,116]),.iface "func" (.lit (.string (kindName 53)))],.agg [.lit (.string [102,105,103,117,114,101,115]),.iface "func" (.lit (.string (kindName 54)))]]
def bN(k:Nat):List UInt8:=kindName (49+k.toUInt8)
def Lw(k)(a:k<6):((List.range Tryz.prog.funcs.size).filter λf=>(Tryz.prog.funcs[f]?).any (·.name.toUTF8.data.toList==bN k))=[eC k]:=by
 match k,a with
 |0,_=>
  have h:((List.range Tryz.prog.funcs.size).filter λf=>(Tryz.prog.funcs[f]?).any (·.name.toUTF8.data.toList==bN 0))=[eC 0]:=by kernel_rfl
  exact h
 |1,_=>
  have h:((List.range Tryz.prog.funcs.size).filter λf=>(Tryz.prog.funcs[f]?).any (·.name.toUTF8.data.toList==bN 1))=[eC 1]:=by kernel_rfl
  exact h
 |2,_=>
  have h:((List.range Tryz.prog.funcs.size).filter λf=>(Tryz.prog.funcs[f]?).any (·.name.toUTF8.data.toList==bN 2))=[eC 2]:=by kernel_rfl
  exact h
 |3,_=>
  have h:((List.range Tryz.prog.funcs.size).filter λf=>(Tryz.prog.funcs[f]?).any (·.name.toUTF8.data.toList==bN 3))=[eC 3]:=by kernel_rfl
  exact h
 |4,_=>
  have h:((List.range Tryz.prog.funcs.size).filter λf=>(Tryz.prog.funcs[f]?).any (·.name.toUTF8.data.toList==bN 4))=[eC 4]:=by kernel_rfl
  exact h
 |5,_=>
  have h:((List.range Tryz.prog.funcs.size).filter λf=>(Tryz.prog.funcs[f]?).any (·.name.toUTF8.data.toList==bN 5))=[eC 5]:=by kernel_rfl
  exact h
def yi{l W}(h:laidMetH Tryz.prog l W)(z:("touchmark/like.kinds",DataW.iface "func table" xh)∈l):ia W:=by
 obtain⟨g,t,cs,fuel,p,A,B,C,D⟩:=h.funcs z;obtain rfl:=RU (Lt.symm.trans A);obtain rfl:=RU (OS.symm.trans B);obtain⟨xs,m,rfl,e,K,L,s⟩:=DataW.trod_array Tryz.underlying117 D;have E:xs.map (·.1)=[.agg [.lit (.string [108,101,116,116,101,114,115]),.held (bN 0)],.agg [.lit (.string [115,111,117,110,100,115]),.held (bN 1)],
  .agg [.lit (.string [109,101,97,110,115]),.held (bN 2)],.agg [.lit (.string [116,117,114,110,101,100]),.held (bN 3)],
  .agg [.lit (.string [99,117,116]),.held (bN 4)],.agg [.lit (.string [102,105,103,117,114,101,115]),.held (bN 5)]]:=by
  have e1:=(TH e).1;have v:xh.funcsOut=_:=e1;have e3:xh.funcsOut=.agg [.agg [.lit (.string [108,101,116,116,101,114,115]),.held (bN 0)],.agg [.lit (.string [115,111,117,110,100,115]),.held (bN 1)],
   .agg [.lit (.string [109,101,97,110,115]),.held (bN 2)],.agg [.lit (.string [116,117,114,110,101,100]),.held (bN 3)],
   .agg [.lit (.string [99,117,116]),.held (bN 4)],.agg [.lit (.string [102,105,103,117,114,101,115]),.held (bN 5)]]:=by
   simp[xh,DataW.funcsOut,DataW.funcsOutAll,kindName,bN]
  rw[e3]at v;exact(DataW.agg.inj v).symm
 intro k u;have c:=s k u;rw[D1]at c;have f:k<xs.length:=by omega
 rw[R5 f]at c;obtain⟨M,w,F,e1,a,_,i⟩:=trod_struct2 Tryz.underlying116 c;have o:∃x,(xs[k]).1=.agg [x,.held (bN k)]:=by
  have d:(xs.map (·.1))[k]? =some (xs[k]).1:=by rw[TE,R5 f];rfl
  rw[E]at d
  match k,u with
  |0,_=>exact⟨_,(RU d).symm⟩
  |1,_=>exact⟨_,(RU d).symm⟩
  |2,_=>exact⟨_,(RU d).symm⟩
  |3,_=>exact⟨_,(RU d).symm⟩
  |4,_=>exact⟨_,(RU d).symm⟩
  |5,_=>exact⟨_,(RU d).symm⟩
 obtain⟨x,o⟩:=o;rw[e1]at o;have G:w.1=.held (bN k):=by have:=DataW.agg.inj o;simp only[Uw,and_true]at this;exact this.2
 rw[D1]at a;obtain⟨q,c1,j⟩:∃q c1,(cs.toList.drop (k*2)).take 2=[q,c1]:=by
  match(cs.toList.drop (k*2)).take 2,a with
  | [q,c1],_=>exact⟨q,c1,rfl⟩
 rw[j]at i;have n:DataW.trod (funcToken Tryz.prog) Tryz.prog W 0 (λ_=>true) true F 114 [c1]=some (.held (bN k),w.2):=by rw[<-G];have I:Tryz.prog.cellsOf 114=1:=Lv;simpa[I]using i
 have J:c1=.func (.func (eC k)) #[] #[]:=func_of_trod (b:=116) (r:=[111,117,99,104,109,97,114,107,47,108,105,107,101,46,107,105,110,100,115,36,49+k.toUInt8]) Tryz.underlying114 (Lw k u) n;rw[World.var?_cell Lt C (k*2+1),<-J,<-Sv];have y:((cs.toList.drop (k*2)).take 2)[1]? =some c1:=by rw[j];rfl
 rw[UC,Rp (by decide),Um]at y;exact y
def F9:Tryz.prog.underlying 94=some (.int .i64):=by kernel_rfl
def Lx:DataW Unit:=.map [(.int .i64 0,.lit (.int .i64 1)),(.int .i64 1,.lit (.int .i64 2)),(.int .i64 2,.lit (.int .i64 3))]
def GU{v z}(h:keyOf Tryz.prog 94 v=some (.int .i64 z)):v=.int .i64 z:=by
 rw[keyOf_int F9]at h;unfold mapKey at h;rw[F9]at h;cases v with
 |int q n=>
  simp only[]at h;split at h
  ·rename_i a
   obtain⟨rfl,_⟩:=a;cases h;rfl
  ·cases h
 |_=>simp at h
def yj{l W}(h:laidMetH Tryz.prog l W)(o:l.filter (λx=>x.1== "touchmark/like.doing")=[("touchmark/like.doing",Lx)]):gi W:=by
 have h:=h.filter λx=>x.1== "touchmark/like.doing";rw[o,MakeChecks.laidMetH_plain _ _ _ (by kernel_rfl)]at h;obtain⟨Q,⟨g,t,cs,fuel,p,q,I,J,K,L,_⟩,_⟩:=h;obtain rfl:=RU (Lu.symm.trans I);obtain rfl:=RU (OT.symm.trans J);obtain⟨_,o⟩|⟨C,es,f,m,rfl,u,M,_,F,o⟩:=open_map Tryz.underlying146 L
 ·simp[Lx]at o
 have b:=(sorted_perm (es.toList.map (rg Tryz.prog 94 (elemAt (λ_=>()) Tryz.prog W 0 (λ_=>true) false m 3)))).symm;have v:=(TH o).1;have r:=(DataW.map.inj v).symm;rw[r]at b;have i:W.cell? ⟨1,0,none⟩=some (.map (some C)):=by rw[World.var?_cell Lu K 0,<-Sv,u];rfl
 refine⟨C,i,es,f,M,λe s=>?_,λk D=>?_⟩
 ·obtain⟨y,n⟩:=F.reads e s
  have N:y∈es.toList.map (rg Tryz.prog 94 (elemAt (λ_=>()) Tryz.prog W 0 (λ_=>true) false m 3)):=SU.2 ⟨e,s,rg_of n⟩;have E:=b.mem_iff.1 N;have j:=rd_key n;obtain⟨z,O,c⟩:=rd_val n;obtain⟨a,w,A,_⟩:=elemAt_int Tryz.underlying3 O;rw[A]at c;simp only[RX,Se,Sf]at E;obtain rfl|rfl|rfl:=E
  ·cases c
   exact⟨0,GU j,w,rfl⟩
  ·cases c
   exact⟨1,GU j,w,rfl⟩
  ·cases c
   exact⟨2,GU j,w,rfl⟩
 ·have B:k=0\/k=1\/k=2:=by unfold kB au at D;rw[RD,RJ,RJ]at D;omega
  have:∃d,((.int .i64 k:Lit),d)∈es.toList.map (rg Tryz.prog 94 (elemAt (λ_=>()) Tryz.prog W 0 (λ_=>true) false m 3)):=by
   obtain rfl|rfl|rfl:=B
   ·exact⟨_,b.mem_iff.2 (TP ..)⟩
   ·exact⟨_,b.mem_iff.2 (TQ _ (TP ..))⟩
   ·exact⟨_,b.mem_iff.2 (TQ _ (TQ _ (TP ..)))⟩
  obtain⟨d,P⟩:=this;obtain⟨e,s,G⟩:=SU.1 P;obtain⟨y,n⟩:=F.reads e s;rw[rg_of n]at G;subst G;exact⟨e,s,GU (rd_key n)⟩
def I5(g)(a:g<5):∃zero t,(((begin Tryz.prog (λ_ _=>0) default).world.heap[g]?).bind Obj.row?)=some (zero,t):=by
 have h:(((begin Tryz.prog (λ_ _=>0) default).world.heap[g]?).bind Obj.row?).isSome=true:=by
  match g,a with
  |0,_=>
   have h:(((begin Tryz.prog (λ_ _=>0) default).world.heap[0]?).bind Obj.row?).isSome=true:=by kernel_rfl
   exact h
  |1,_=>
   have h:(((begin Tryz.prog (λ_ _=>0) default).world.heap[1]?).bind Obj.row?).isSome=true:=by kernel_rfl
   exact h
  |2,_=>
   have h:(((begin Tryz.prog (λ_ _=>0) default).world.heap[2]?).bind Obj.row?).isSome=true:=by kernel_rfl
   exact h
  |3,_=>
   have h:(((begin Tryz.prog (λ_ _=>0) default).world.heap[3]?).bind Obj.row?).isSome=true:=by kernel_rfl
   exact h
  |4,_=>
   have h:(((begin Tryz.prog (λ_ _=>0) default).world.heap[4]?).bind Obj.row?).isSome=true:=by kernel_rfl
   exact h
 obtain⟨⟨z,t⟩,b⟩:=VT.1 h;exact⟨z,t,b⟩
def yk{W}(h:W.ShapedOpen Tryz.prog)(f:ia W):jD W:=by
 have b:∀g,g<5->∃c e F,W.heap[g]? =some (.cells c e F):=λg d=>by obtain⟨z,t,i⟩:=I5 g d;obtain⟨cs,a,_⟩:=h.1 g z t (by rw[jT];exact d) i;exact⟨cs,t,_,a⟩
 refine⟨f,cell_of_shapedOpen_int (P:=Tryz.prog) (g:=2) (t:=3) (zero:=#[.int .i64 0]) h (Su (by kernel_rfl)) (by kernel_rfl) rfl (by kernel_rfl) (by kernel_rfl) Tryz.underlying3,b,?_⟩;rw[jT];obtain⟨c,e,F,a⟩:=b 4 (by decide);exact(Rx.1 a).1
end Go.Proofs

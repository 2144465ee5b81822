import Derived.Conc.LeavingOf
import Derived.LaidSub
import Derived.MakeChecks
import Derived.OpenShut
import Derived.Shelf.Vars
import Derived.Test.YtaglpcmhopjebaaGreatDoorZ48
set_option linter.all false
set_option maxRecDepth 100000
set_option maxHeartbeats 20000000
namespace Go.Proofs
open Go.Tm Go.RowKit
theorem pN{c}(b:OkC c)(m)(d:OkM m)(kin):∀(a) (i) (k) (v),eG c m kin i a=some (k,v)->k<i+a.length/\0<=v/\v<=100000
 | [],i,k,v,h=>by cases h
 |r::a,i,k,v,h=>by
  unfold eG at h;split at h
  ·cases h
   have:=lq c.table r.kind c.new m b.new.fig d.fig;exact⟨by simp,this.1,this.2⟩
  ·have:=pN b m d kin a (i+1) k v h
   simp only[Rq];exact⟨by omega,this.2⟩
def Ly{c}(a:OkC c){i x}(h:gY c i=some x):gq c x:=by
 unfold gY at h;split at h
 ·rename_i m k e g
  have f:i<c.marks.length:=(Tq.1 e).1;have b:=a.marks m (SL e);cases d:eG c m k 0 c.rules with
  |none=>rw[d]at h;cases h
  |some p=>obtain⟨q,v⟩:=p;rw[d]at h;cases h;obtain⟨b1,b2,j⟩:=pN a m b k c.rules 0 q v d;have:=a.EF;exact⟨⟨i,f,rfl⟩,by show(-1000:Int)<=(q:Int)/\(q:Int)<=1000;omega,by show(-1000000:Int)<=v/\v<=1000000;omega⟩
 ·cases h
def Ef{c}(a:OkC c):∀x∈bV c,gq c x:=λx b=>by have:=(jR c).mem_iff.1 b;obtain⟨i,_,d⟩:=List.mem_filterMap.1 this;exact Ly a d
section
variable {K:Nat->Prop} {W W':World}
def Bm{b}(a:W'.heap[b]? =W.heap[b]?){o v}(h:W.cell? ⟨b,o,none⟩=some v):W'.cell? ⟨b,o,none⟩=some v:=(dj a).trans h
def TV.on(g:∀b,K b->W'.heap[b]? =W.heap[b]?){v}(h:CV K W v):TV (λa b=>a=b/\K a) K W' v v:=by
 cases h with
 |bool=>exact .bool _
 |int=>exact .int _ _
 |string=>exact .string _
 | @slice ao l c i=>
  cases ao with
  |none=>exact .jw _ _
  |some a=>obtain⟨b,o,p⟩:=a;obtain⟨f,d,k,e,F,j⟩:=i _ rfl;simp only[]at f;subst f;exact .slice _ _ ⟨rfl,d⟩ d ⟨_,_,_,(g b d).trans j⟩
def bn.on(e:∀b,K b->W'.heap[b]? =W.heap[b]?){sc c}(h:bn K W sc c):bn K W' sc c:=bn.carry (σ:=λa b=>a=b/\K a) ⟨λ_ _ _ f d=>f.1.symm.trans d.1,λb m o v j k g=>by obtain⟨rfl,l⟩:=j;exact⟨v,Bm (e b l) k,TV.on e g⟩⟩ rfl (λi v V f d g=>by rw[f]at d;cases d;exact TV.on e g) h
end
def Eg{fs}(L:bX fs){c}(d:OkC c)(e:∀r∈c.rules,r.kind<=3):uU fs c:=λr b=>by
 have g:=(d.rules r b).1;have h:=e r b;obtain⟨k,f⟩:=ex (r.kind.toNat);rw[<-f];have a:k<4:=by omega
 match k,a with
 |0,_=>exact Kh L
 |1,_=>exact On L
 |2,_=>exact Oo L
 |3,_=>exact Ki L
def masked{π:Ren Tryz.prog.globals.size}{W W' w B fz sc c}(i:∀g,g<5->π g g)(d:jG W)(n:bn (named π) W sc c)
 (a:∀b,named π b->W'.heap[b]? =W.heap[b]?) (o:∀b,named π b->(∃c e F,W.heap[b]? =some (.cells c e F))->B b) (j:w.heap=(cE (idR Tryz.prog.globals.size B) fz W').heap):
 bn (named π) w sc c/\ia w/\ie w:=by
 have e:∀(p:Addr),w.cell? p=(cE (idR Tryz.prog.globals.size B) fz W').cell? p:=λp=>by unfold World.cell?;rw[j]
 refine⟨?_,?_,?_⟩
 ·have q:=n.on a
  have r:bn (named π) (cE (idR Tryz.prog.globals.size B) fz W') sc c:=q.mask λb l s=>o b l (by rw[<-a b l];exact s);exact r.stays λb c e f h=>by rw[j];exact h
 ·obtain⟨m,t⟩:=d.len
  exact⟨m,(e _).trans (gU (Bm (a 2 ⟨2,i 2 (by decide)⟩) t) (.int _ _))⟩
 ·intro k u
  exact(e _).trans (gU (Bm (a 0 ⟨0,i 0 (by decide)⟩) (d.kinds k u)) (zL _ _ (zK k)))
def I8{π:Ren Tryz.prog.globals.size}{xs:List Value}(h:∀x∈xs,∃k n,x=.int k n):xs.toArray.map (mask π)=xs.toArray:=by refine Ux (by simp) λi b a=>?_;simp only[Array.getElem_map];obtain⟨k,n,e⟩:=h (xs.toArray[i]) (SP.1 (Uy a));rw[e];exact tu (.int k n)
def Gi(k):∀x∈cN jU k,∃kd n,x=.int kd n:=λx b=>by obtain⟨l,c,a⟩:=U9.1 b;have:=Va c;subst this;simp[jU]at a;subst a;exact⟨_,_,rfl⟩
def mm:bX (fQ nt):=oP nt
def xy:tv jF dK:=by
 rintro Pr π w W v A L Z V ⟨aa,c,rfl,hc,t,h3,G,rfl⟩ H;obtain⟨sc,rfl,u⟩:=hc.rel V Z;have p:∀g,g<5->π g g:=λg I=>H g (Ry I);have a:jG W:=G.rel V p;obtain⟨J,M,h9,N⟩:∃J M,sc[9]? =some (.slice J c.marks.length M)/\sc.size=11:=by obtain⟨v0,v1,v2,vr,vf,vm,vk,rfl,_,_,_,hm,_⟩:=u;obtain⟨ao,cm,rfl,_⟩:=hm;exact⟨ao,cm,rfl,rfl⟩
 have O:=t.sJ;refine⟨sc,c.marks.length,uL c,λ_=>gQ (bV c),named π,J,M,rfl,h9,by rw[N];kernel_rfl,by omega,λb m=>m,?_,?_,λ_ _=>rfl,tw _⟩
 ·refine IU (S:=ou) (fs:=fQ nt) zI (λ_=>rfl) tA (by kernel_rfl) (λg d=>⟨⟨g,H g d⟩,a.cells g (Sp d)⟩) a.size (λB r=>u.self r) λi hi w' W' B fz f r k=>?_
  obtain⟨m1,m2,X⟩:=masked p a u f r k;exact(QB mm i w' m1 t hi (Eg mm t h3) m2 X).mono λe w2 ⟨y,s⟩=>⟨y,λb m=>s.block b m⟩
 ·refine F4 (S:=ou) (fs:=fQ nt) zI (λ_=>rfl) tA (by kernel_rfl) (λg d=>⟨⟨g,H g d⟩,a.cells g (Sp d)⟩) a.size (λB r=>u.self r) (λhs P=>?_) λhs P w' W' B fz v6 N0 f r o z k=>?_
  ·obtain⟨l,rfl,C⟩:=zE P
   exact⟨by unfold gQ;rw[SH,SH,C.length_eq],tw _⟩
  ·obtain⟨m1,m2,X⟩:=masked p a u f r k
   obtain⟨l,rfl,C⟩:=zE P;have D:(gQ l).length=l.length:=by unfold gQ;rw[SH]
   rw[D,gR]at o;rw[D];obtain⟨rfl,h0⟩|⟨g,cap,rfl,E,Q,ab,ad,af⟩:=o.2
   ·refine(I0 mm w').mono λe w2 ⟨y,s⟩=>⟨y,λg cap e=>by(cases e),λb m _=>by rw[s]⟩
   ·obtain⟨ag,R,T⟩:=z g rfl
    obtain⟨rest,h⟩:=ex (cN jU (cap-l.length));have j:w'.heap[g]? =some (.cells (bu l++rest).toArray 66 (0,0)):=by
     rw[k,fM,Q,Sk];show some (Obj.cells ((bu l++cN jU (cap-l.length)).toArray.map (mask _)) 66 _)=_;rw[I8 λx hx=>?_,h]
     ·congr 2
      exact Rm R
     ·obtain hx|hx:=Tr.1 hx
      ·obtain⟨n,hn⟩:=sP l x hx
       exact⟨_,n,hn⟩
      ·exact Gi _ x hx
    have U:g<w'.heap.size:=(Rx.1 j).1;have ak:l.length<=8:=by rw[C.length_eq,(jR c).length_eq];exact Rp (Wl _ _) (by rw[U4];exact O)
    have q:=Lb mm (cap:=cap) (d0:=l.toArray) (rest:=rest) w' m1.days t (λb m E=>T (by rw[<-E];exact m)) (λx hx=>Ef t x (C.mem_iff.1 (by simpa using hx))) (by simp;omega) U ⟨Ro _,λ_ _ _=>rfl,by simpa using j⟩;have F:=D1 C;have hz:l.toArray.size=l.length:=by simp
    rw[hz]at q F;refine q.mono λe w2 ⟨y,s⟩=>⟨y,λg' Y e'=>?_,λb m ho=>s.other b m λe=>ho (by rw[e];rfl)⟩
    cases e';rw[gR,s.row,F,h]
def iU:bX (fQ g74):=oP g74
def zP{w w' v c}(h:gl w.heap.size w' v (bV c))(k:Below w.heap.size w w'):R77 (gQ (bV c)) w v w':=by
 refine⟨k.size,λb i=>k.block b i,?_⟩;have a:(gQ (bV c)).length=(bV c).length:=by unfold gQ;rw[SH]
 rw[a,gR];obtain⟨⟨r,m⟩,n⟩:=h;by_cases f:bV c=[]
 ·exact .inl ⟨by rw[f];rfl,n f⟩
 ·refine .inr ⟨λe=>f (by unfold gQ at e;simpa using e),?_⟩
  have l:0<(bV c).length:=SU.2 f;obtain⟨_,s⟩|⟨g,cap,o,e,t,p,x,y,z,q⟩:=m
  ·omega
  ·refine⟨⟨g,0,none⟩,cap,e,λj u d=>?_⟩
   rw[show(Addr.add ⟨g,0,none⟩ j)=⟨g,0+j,none⟩ by simp[Addr.add];omega];refine cell_of_heap p _ _ ?_;rw[RA,<-Su];rw[<-q]at d;rw[UC]at d;split at d
   ·exact d
   ·cases d
def Jg(P a f2):ah (ah P a) f2=ah P f2:=rfl
def oy{c}(a:OkC c):(bV c).length<=8:=by rw[(jR c).length_eq];exact Rp (Wl _ _) (by rw[U4];exact a.sJ)
def Eh{Post}:mU jF (fQ g74) Post dK:=by
 have j:(fQ g74)[77]? =some Tryz.f77:=(xe _ _).symm.trans (n77 iU);refine DY (S₁:=ou) (fs₁:=fQ nt) (rQ g74) j (by kernel_rfl) (by kernel_rfl) I5 Gf (λ_=>rfl) tA (by kernel_rfl) qq ?_ ?_ ?_ ?_ ?_ ?_
 ·rintro w v L ⟨sc,c,rfl,d,f,i,a,rfl⟩
  exact a.size
 ·rintro w v L ⟨sc,c,rfl,d,f,i,a,rfl⟩
  refine⟨?_,tw _⟩;have:=oy f;unfold gQ;rw[SH];omega
 ·rintro w v L ⟨sc,c,rfl,d,f,i,a,rfl⟩ g m
  exact a.cells g (Sp m)
 ·rintro w v L ⟨sc,c,rfl,d,f,i,a,rfl⟩
  exact⟨⟨sc,c,rfl,d.mask λb _ h=>h,f,i,a.mask,rfl⟩,d.self λb _ h=>h⟩
 ·rintro w v L ⟨sc,c,rfl,d,f,i,a,rfl⟩
  exact(vL iU w d f).mono λe w' ⟨v,k,l,i⟩=>⟨v,k,zP l i⟩
 ·rintro w v L ⟨sc,c,rfl,d,f,i,a,rfl⟩
  rw[Jg];exact(vL mm w d f).mono λe w' ⟨v,k,l,i⟩=>⟨v,k⟩
end Go.Proofs
namespace Go.Proofs
open Go.Tm Go.RowKit Go.ChangeShapes Go.WideShapes Go.ChangeAt Go.WideElems Go.Conc
section
variable {H:Type} {enc:TypeId×Value->H}
def ox{a C os f fn s g b fresh d h}{X:World->Array Value->Prop}
 (E:∀(w w') (args),w.heap=w'.heap->X w args->X w' args)
 (own:ownKnob C.prog.godebug=none) (k:os.Started) (x:C.prog.funcs[f]? =some fn)
 (l:∃(w:World) (tape:Tape) (i:Input),w.os=os/\(w.forCall tape i).Shaped C.prog/\i.vars=[]/\Input.okWide C.prog (w.forCall tape i) .any w.heap.size f i/\((s.pre enc C.prog fn g b (w.forCall tape i).memory i.args/\X (w.forCall tape i).memory i.args)/\sizedMet enc C.prog fn (OpenSpec.ofChange s) b (w.forCall tape i).memory i.args)/\a.holds C.prog (lone (Frame.enter C.prog f i.args .normal) [] (w.forCall tape i)))
 (m:∀(W) (base) (args) (ds r) (c),
  (∀(j:Nat) t v,fn.params[j]? =some t->args[j]? =some v->Value.okWide C.prog W .any base t v)->
  DataW.Whole enc C.prog fn.params.toList s.vars b W args.toList ds r c->
  (DataW.weightsEach C.prog (fn.params.toList++s.plain.varTypes C.prog) (ds++r)).all (· <=reachBytes)=true->X W args->W.ShapedOpen C.prog->
  ∃M last o w' u,runNT C.prog (M+1) (solo (G (Frame.enter C.prog f args .normal) []) W) #[]=(.ended o w',u)/\runN C.prog M (solo (G (Frame.enter C.prog f args .normal) []) W)=.next last/\step C.prog last=.ended o w'/\Conc.Good C.prog (λv F=>s.post enc C.prog fn b fresh d h W args v F) last o w' u):
 ReturnsInLeavingWide a C os f .any (λw args=>(s.pre enc C.prog fn g b w args/\X w args)/\sizedMet enc C.prog fn (OpenSpec.ofChange s) b w args) (s.post enc C.prog fn b fresh d h):=by
 refine returnsInLeavingWide_of_good own k l ?_;intro w tape i _ y _ z n _;obtain⟨_,_,_,A,p,_,_,_,_,q⟩:=z;have e:A=fn:=RS (p.symm.trans x);subst e;obtain⟨⟨⟨ds,r,c,D,Q⟩,I⟩,J⟩:=n;have B:=DataW.Whole.of_heap (w':=w.forCall tape i) (by rfl) D;obtain⟨M,last,o,w',u,K,L,N,O⟩:=m (w.forCall tape i) w.heap.size i.args ds r c q B (J.weights D) (E _ _ _ (by rfl) I) y;exact⟨M,last,o,w',u,K,L,N,O.mono λv P=>ChangeSpec.post_blind P⟩
end
def Lt:Tryz.prog.globalNamed "touchmark/like.kinds" =some 0:=by kernel_rfl
def OQ:(Tryz.prog.globals[0]?).map (·.type)=some 117:=by kernel_rfl
def Lu:Tryz.prog.globalNamed "touchmark/like.doing" =some 1:=by kernel_rfl
def OR:(Tryz.prog.globals[1]?).map (·.type)=some 146:=by kernel_rfl
def Ee:Tryz.prog.cellsOf 116=2:=by kernel_rfl
def Lv:Tryz.prog.cellsOf 114=1:=by kernel_rfl
def kindName(k:UInt8):List UInt8:=[116,111,117,99,104,109,97,114,107,47,108,105,107,101,46,107,105,110,100,115,36,k]
def xx:DataW Unit:=.agg [.agg [.lit (.string [108,101,116,116,101,114,115]),.iface "func" (.lit (.string (kindName 49)))],.agg [.lit (.string [115,111,117,110,100,115]),.iface "func" (.lit (.string (kindName 50)))],
 .agg [.lit (.string [109,101,97,110,115]),.iface "func" (.lit (.string (kindName 51)))],.agg [.lit (.string [116,117,114,110,101,100]),.iface "func" (.lit (.string (kindName 52)))],
 .agg [.lit (.string [99,117,116]),.iface "func" (.lit (.string (kindName 53)))],.agg [.lit (.string [102,105,103,117,114,101,115]),.iface "func" (.lit (.string (kindName 54)))]]
def bO(k:Nat):List UInt8:=kindName (49+k.toUInt8)
def Lw(k)(a:k<6):((List.range Tryz.prog.funcs.size).filter λf=>(Tryz.prog.funcs[f]?).any (·.name.toUTF8.data.toList==bO k))=[eJ k]:=by
 match k,a with
 |0,_=>
  have h:((List.range Tryz.prog.funcs.size).filter λf=>(Tryz.prog.funcs[f]?).any (·.name.toUTF8.data.toList==bO 0))=[eJ 0]:=by kernel_rfl
  exact h
 |1,_=>
  have h:((List.range Tryz.prog.funcs.size).filter λf=>(Tryz.prog.funcs[f]?).any (·.name.toUTF8.data.toList==bO 1))=[eJ 1]:=by kernel_rfl
  exact h
 |2,_=>
  have h:((List.range Tryz.prog.funcs.size).filter λf=>(Tryz.prog.funcs[f]?).any (·.name.toUTF8.data.toList==bO 2))=[eJ 2]:=by kernel_rfl
  exact h
 |3,_=>
  have h:((List.range Tryz.prog.funcs.size).filter λf=>(Tryz.prog.funcs[f]?).any (·.name.toUTF8.data.toList==bO 3))=[eJ 3]:=by kernel_rfl
  exact h
 |4,_=>
  have h:((List.range Tryz.prog.funcs.size).filter λf=>(Tryz.prog.funcs[f]?).any (·.name.toUTF8.data.toList==bO 4))=[eJ 4]:=by kernel_rfl
  exact h
 |5,_=>
  have h:((List.range Tryz.prog.funcs.size).filter λf=>(Tryz.prog.funcs[f]?).any (·.name.toUTF8.data.toList==bO 5))=[eJ 5]:=by kernel_rfl
  exact h
def yv{l W}(h:laidMetH Tryz.prog l W)(z:("touchmark/like.kinds",DataW.iface "func table" xx)∈l):ie W:=by
 obtain⟨g,t,cs,fuel,p,A,B,C,D⟩:=h.funcs z;obtain rfl:=RS (Lt.symm.trans A);obtain rfl:=RS (OQ.symm.trans B);obtain⟨xs,m,rfl,e,K,L,s⟩:=DataW.trod_array Tryz.underlying117 D;have E:xs.map (·.1)=[.agg [.lit (.string [108,101,116,116,101,114,115]),.held (bO 0)],.agg [.lit (.string [115,111,117,110,100,115]),.held (bO 1)],
  .agg [.lit (.string [109,101,97,110,115]),.held (bO 2)],.agg [.lit (.string [116,117,114,110,101,100]),.held (bO 3)],
  .agg [.lit (.string [99,117,116]),.held (bO 4)],.agg [.lit (.string [102,105,103,117,114,101,115]),.held (bO 5)]]:=by
  have e1:=(TF e).1;have v:xx.funcsOut=_:=e1;have e3:xx.funcsOut=.agg [.agg [.lit (.string [108,101,116,116,101,114,115]),.held (bO 0)],.agg [.lit (.string [115,111,117,110,100,115]),.held (bO 1)],
   .agg [.lit (.string [109,101,97,110,115]),.held (bO 2)],.agg [.lit (.string [116,117,114,110,101,100]),.held (bO 3)],
   .agg [.lit (.string [99,117,116]),.held (bO 4)],.agg [.lit (.string [102,105,103,117,114,101,115]),.held (bO 5)]]:=by
   simp[xx,DataW.funcsOut,DataW.funcsOutAll,kindName,bO]
  rw[e3]at v;exact(DataW.agg.inj v).symm
 intro k u;have c:=s k u;rw[Ee]at c;have f:k<xs.length:=by omega
 rw[Sn f]at c;obtain⟨M,w,F,e1,a,_,i⟩:=trod_struct2 Tryz.underlying116 c;have o:∃x,(xs[k]).1=.agg [x,.held (bO k)]:=by
  have d:(xs.map (·.1))[k]? =some (xs[k]).1:=by rw[TC,Sn f];rfl
  rw[E]at d
  match k,u with
  |0,_=>exact⟨_,(RS d).symm⟩
  |1,_=>exact⟨_,(RS d).symm⟩
  |2,_=>exact⟨_,(RS d).symm⟩
  |3,_=>exact⟨_,(RS d).symm⟩
  |4,_=>exact⟨_,(RS d).symm⟩
  |5,_=>exact⟨_,(RS d).symm⟩
 obtain⟨x,o⟩:=o;rw[e1]at o;have G:w.1=.held (bO k):=by have:=DataW.agg.inj o;simp only[Uv,and_true]at this;exact this.2
 rw[Ee]at a;obtain⟨q,c1,j⟩:∃q c1,(cs.toList.drop (k*2)).take 2=[q,c1]:=by
  match(cs.toList.drop (k*2)).take 2,a with
  | [q,c1],_=>exact⟨q,c1,rfl⟩
 rw[j]at i;have n:DataW.trod (funcToken Tryz.prog) Tryz.prog W 0 (λ_=>true) true F 114 [c1]=some (.held (bO k),w.2):=by rw[<-G];have I:Tryz.prog.cellsOf 114=1:=Lv;simpa[I]using i
 have J:c1=.func (.func (eJ k)) #[] #[]:=func_of_trod (b:=116) (r:=[111,117,99,104,109,97,114,107,47,108,105,107,101,46,107,105,110,100,115,36,49+k.toUInt8]) Tryz.underlying114 (Lw k u) n;rw[World.var?_cell Lt C (k*2+1),<-J,<-Su];have y:((cs.toList.drop (k*2)).take 2)[1]? =some c1:=by rw[j];rfl
 rw[UC,Rn (by decide),Ul]at y;exact y
def Gg:Tryz.prog.underlying 94=some (.int .i64):=by kernel_rfl
def Lx:DataW Unit:=.map [(.int .i64 0,.lit (.int .i64 1)),(.int .i64 1,.lit (.int .i64 2)),(.int .i64 2,.lit (.int .i64 3))]
def G0{v z}(h:keyOf Tryz.prog 94 v=some (.int .i64 z)):v=.int .i64 z:=by
 rw[keyOf_int Gg]at h;unfold mapKey at h;rw[Gg]at h;cases v with
 |int q n=>
  simp only[]at h;split at h
  ·rename_i a
   obtain⟨rfl,_⟩:=a;cases h;rfl
  ·cases h
 |_=>simp at h
def yw{l W}(h:laidMetH Tryz.prog l W)(o:l.filter (λx=>x.1== "touchmark/like.doing")=[("touchmark/like.doing",Lx)]):gp W:=by
 have h:=h.filter λx=>x.1== "touchmark/like.doing";rw[o,MakeChecks.laidMetH_plain _ _ _ (by kernel_rfl)]at h;obtain⟨Q,⟨g,t,cs,fuel,p,q,I,J,K,L,_⟩,_⟩:=h;obtain rfl:=RS (Lu.symm.trans I);obtain rfl:=RS (OR.symm.trans J);obtain⟨_,o⟩|⟨C,es,f,m,rfl,u,M,_,F,o⟩:=open_map Tryz.underlying146 L
 ·simp[Lx]at o
 have b:=(sorted_perm (es.toList.map (rg Tryz.prog 94 (elemAt (λ_=>()) Tryz.prog W 0 (λ_=>true) false m 3)))).symm;have v:=(TF o).1;have r:=(DataW.map.inj v).symm;rw[r]at b;have i:W.cell? ⟨1,0,none⟩=some (.map (some C)):=by rw[World.var?_cell Lu K 0,<-Su,u];rfl
 refine⟨C,i,es,f,M,λe s=>?_,λk D=>?_⟩
 ·obtain⟨y,n⟩:=F.reads e s
  have N:y∈es.toList.map (rg Tryz.prog 94 (elemAt (λ_=>()) Tryz.prog W 0 (λ_=>true) false m 3)):=SQ.2 ⟨e,s,rg_of n⟩;have E:=b.mem_iff.1 N;have j:=rd_key n;obtain⟨z,O,c⟩:=rd_val n;obtain⟨a,w,A,_⟩:=elemAt_int Tryz.underlying3 O;rw[A]at c;simp only[RX,R9,Sd]at E;obtain rfl|rfl|rfl:=E
  ·cases c
   exact⟨0,G0 j,w,rfl⟩
  ·cases c
   exact⟨1,G0 j,w,rfl⟩
  ·cases c
   exact⟨2,G0 j,w,rfl⟩
 ·have B:k=0\/k=1\/k=2:=by unfold kE au at D;rw[RD,RI,RI]at D;omega
  have:∃d,((.int .i64 k:Lit),d)∈es.toList.map (rg Tryz.prog 94 (elemAt (λ_=>()) Tryz.prog W 0 (λ_=>true) false m 3)):=by
   obtain rfl|rfl|rfl:=B
   ·exact⟨_,b.mem_iff.2 (TM ..)⟩
   ·exact⟨_,b.mem_iff.2 (TN _ (TM ..))⟩
   ·exact⟨_,b.mem_iff.2 (TN _ (TN _ (TM ..)))⟩
  obtain⟨d,P⟩:=this;obtain⟨e,s,G⟩:=SQ.1 P;obtain⟨y,n⟩:=F.reads e s;rw[rg_of n]at G;subst G;exact⟨e,s,G0 (rd_key n)⟩
def I7(g)(a:g<5):∃zero t,(((begin Tryz.prog (λ_ _=>0) default).world.heap[g]?).bind Obj.row?)=some (zero,t):=by
 have h:(((begin Tryz.prog (λ_ _=>0) default).world.heap[g]?).bind Obj.row?).isSome=true:=by
  match g,a with
  |0,_=>
   have h:(((begin Tryz.prog (λ_ _=>0) default).world.heap[0]?).bind Obj.row?).isSome=true:=by kernel_rfl
   exact h
  |1,_=>
   have h:(((begin Tryz.prog (λ_ _=>0) default).world.heap[1]?).bind Obj.row?).isSome=true:=by kernel_rfl
   exact h
  |2,_=>
   have h:(((begin Tryz.prog (λ_ _=>0) default).world.heap[2]?).bind Obj.row?).isSome=true:=by kernel_rfl
   exact h
  |3,_=>
   have h:(((begin Tryz.prog (λ_ _=>0) default).world.heap[3]?).bind Obj.row?).isSome=true:=by kernel_rfl
   exact h
  |4,_=>
   have h:(((begin Tryz.prog (λ_ _=>0) default).world.heap[4]?).bind Obj.row?).isSome=true:=by kernel_rfl
   exact h
 obtain⟨⟨z,t⟩,b⟩:=VU.1 h;exact⟨z,t,b⟩
def yx{W}(h:W.ShapedOpen Tryz.prog)(f:ie W):jG W:=by
 have b:∀g,g<5->∃c e F,W.heap[g]? =some (.cells c e F):=λg d=>by obtain⟨z,t,i⟩:=I7 g d;obtain⟨cs,a,_⟩:=h.1 g z t (by rw[jW];exact d) i;exact⟨cs,t,_,a⟩
 refine⟨f,cell_of_shapedOpen_int (P:=Tryz.prog) (g:=2) (t:=3) (zero:=#[.int .i64 0]) h (Sp (by kernel_rfl)) (by kernel_rfl) rfl (by kernel_rfl) (by kernel_rfl) Tryz.underlying3,b,?_⟩;rw[jW];obtain⟨c,e,F,a⟩:=b 4 (by decide);exact(Rx.1 a).1
end Go.Proofs

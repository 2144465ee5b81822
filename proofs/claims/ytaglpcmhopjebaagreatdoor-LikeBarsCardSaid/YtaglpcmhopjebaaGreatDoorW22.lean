import Derived.Conc.LeavingOf
import Derived.LaidSub
import Derived.MakeChecks
import Derived.OpenShut
import Derived.Shelf.Vars
import Derived.Test.YtaglpcmhopjebaaGreatDoorW21
set_option linter.all false
set_option maxRecDepth 100000
set_option maxHeartbeats 20000000
namespace Go.Proofs
open Go.Tm Go.RowKit
theorem sk{c}(b:OkC c)(m)(d:OkM m)(kin):∀(a) (i) (k) (v),cQ c m kin i a=some (k,v)->k<i+a.length/\0<=v/\v<=100000
 | [],i,k,v,h=>by cases h
 |r::a,i,k,v,h=>by
  unfold cQ at h;split at h
  .cases h
   have:=m7 c.table r.kind c.new m b.new.fig d.fig;exact⟨by simp,this.1,this.2⟩
  .have:=sk b m d kin a (i+1) k v h
   simp only[WA];exact⟨by omega,this.2⟩
def QA{c}(a:OkC c){i x}(h:en c i=some x):iA c x:=by unfold en at h;split at h;rename_i m k e g;(have f:i<c.marks.length:=(Xk.1 e).1;have b:=a.marks m (Xr e);cases d:cQ c m k 0 c.rules with|none=>rw[d]at h;cases h|some p=>obtain⟨q,v⟩:=p;rw[d]at h;cases h;obtain⟨j,l,n⟩:=sk a m b k c.rules 0 q v d;have:=a.vo;exact⟨⟨i,f,rfl⟩,by show(-1000:Int)<=(q:Int)/\(q:Int)<=1000;omega,by show(-1000000:Int)<=v/\v<=1000000;omega⟩);cases h
def Iy{c}(a:OkC c):∀x∈aA c,iA c x:=λx b=>by have:=(dN c).mem_iff.1 b;obtain⟨i,_,d⟩:=aau.1 this;exact QA a d
section
variable {K:Nat->Prop} {W W':xv}
def E6{b}(a:W'.heap[b]? =W.heap[b]?){o v}(h:W.cell? ⟨b,o,none⟩=some v):W'.cell? ⟨b,o,none⟩=some v:=(dz a).trans h
def TV.on(g:∀b,K b->W'.heap[b]? =W.heap[b]?){q v}(h:CV K W q v):TV (λa b=>a=b/\K a) K W' q v v:=by cases h with|bool=>exact .bool _|int=>exact .int _ _|string=>exact .string _|empty=>exact .empty _ _| @slice _ i l c j=>cases i with|none=>exact .jv _ _|some a=>obtain⟨b,o,p⟩:=a;obtain⟨f,d,m,e,F,k⟩:=j _ rfl;simp only[]at f;subst f;exact .slice _ _ ⟨rfl,d⟩ d ⟨_,_,_,(g b d).trans k⟩
def bD.on(e:∀b,K b->W'.heap[b]? =W.heap[b]?){sc c}(h:bD K W sc c):bD K W' sc c:=bD.carry (σ:=λa b=>a=b/\K a) ⟨λ_ _ _ f d=>f.1.symm.trans d.1,λb m o v j k g=>by obtain⟨rfl,l⟩:=j;exact⟨v,E6 (e b l) k,TV.on e g⟩⟩ rfl (λi v V f d g=>by rw[f]at d;cases d;exact TV.on e g) h
end
def uH{fs}(L:bT fs){c}(d:OkC c)(b:Ku c):uy fs c:=λr e m f=>by (obtain⟨h,i,_⟩:=d.rules r e;obtain⟨k,g⟩:=ex (r.kind.toNat);rw[<-g];have a:k<6:=by omega);match k,a with|0,_=>exact(O6 L).at _ _|1,_=>exact(Tt L).at _ _|2,_=>exact(Tu L).at _ _|3,_=>exact(O7 L).at _ _|4,_=>exact(TX L).at _ _|5,_=>exact Qz L b.1 (b.2 m f)
def masked{π:Ren Tryz.prog.globals.size}{W W' w B fz sc c}(i:∀g,g<5->π g g)(d:gG W)(n:bD (named π) W sc c) (a:∀b,named π b->W'.heap[b]? =W.heap[b]?) (o:∀b,named π b->(∃c e F,W.heap[b]? =some (.cells c e F))->B b) (j:w.heap=(dD (idR Tryz.prog.globals.size B) fz W').heap):bD (named π) w sc c/\hZ w/\fX w:=by (have e:∀(p:Addr),w.cell? p=(dD (idR Tryz.prog.globals.size B) fz W').cell? p:=λp=>by unfold World.cell?;rw[j]);refine⟨?_,?_,?_⟩;have q:=n.on a;(have r:bD (named π) (dD (idR Tryz.prog.globals.size B) fz W') sc c:=q.mask λb l s=>o b l (by rw[<-a b l];exact s);exact r.stays λb c e f h=>by rw[j];exact h);obtain⟨m,t⟩:=d.len;exact⟨m,(e _).trans (rm (E6 (a 2 ⟨2,i 2 (by decide)⟩) t) (.int _ _))⟩;intro k u;exact(e _).trans (rm (E6 (a 0 ⟨0,i 0 (by decide)⟩) (d.kinds k u)) (C7 _ _ (C6 k)))
def Nw{π:Ren Tryz.prog.globals.size}{xs:List x6}(h:∀x∈xs,∃k n,x=.int k n):xs.toArray.map (mask π)=xs.toArray:=by refine Y9 (by simp) λi b a=>?_;simp only[Array.getElem_map];obtain⟨k,n,e⟩:=h (xs.toArray[i]) (Xs.1 (Za a));rw[e];exact jJ (.int k n)
def KJ(k):∀x∈dk lz k,∃kd n,x=.int kd n:=λx b=>by obtain⟨l,c,a⟩:=aaq.1 b;have:=aar c;subst this;simp[lz]at a;subst a;exact⟨_,_,rfl⟩
def oc:bT (gY py):=rj py
def Ar:vZ iJ dL:=by (rintro Pr π w W v A L Y F ⟨ab,c,rfl,⟨hc,G⟩,t,h3,H,rfl⟩ I;obtain⟨sc,rfl,J⟩:=hc.rel F Y;have Z:gZ (named π) W sc:=G.rel F Y;have p:∀g,g<5->π g g:=λg M=>I g (WE M);have a:gG W:=H.rel F p;obtain⟨N,O,h9,P⟩:∃N O,sc[9]? =some (.slice N c.marks.length O)/\sc.size=11:=by obtain⟨v0,v1,v2,vr,vf,vm,vk,rfl,_,_,_,hm,_⟩:=J;obtain⟨ao,cm,rfl,_⟩:=hm;exact⟨ao,cm,rfl,rfl⟩);have Q:=t.lT;refine⟨sc,c.marks.length,yg c,λ_=>iW (aA c),named π,N,O,rfl,h9,by rw[P];kernel_rfl,by omega,λb m=>m,?_,?_,λ_ _=>rfl,wh _⟩;refine MQ (S:=nw) (fs:=gY py) C4 (λ_=>rfl) wI (by kernel_rfl) (λg d=>⟨⟨g,I g d⟩,a.cells g (W6 d)⟩) a.size (λB r=>Z.self r) λi hi w' W' B fz f r k=>?_;(obtain⟨m1,m2,m3⟩:=masked p a J f r k;exact(VF oc i w' m1 t hi (uH oc t h3) m2 m3).mono λe w2 ⟨u,s⟩=>⟨u,λb m=>s.block b m⟩);refine Kh (S:=nw) (fs:=gY py) C4 (λ_=>rfl) wI (by kernel_rfl) (λg d=>⟨⟨g,I g d⟩,a.cells g (W6 d)⟩) a.size (λB r=>Z.self r) (λhs R=>?_) λhs R w' W' B fz v6 N0 f r o y k=>?_;obtain⟨l,rfl,z⟩:=CX R;exact⟨by unfold iW;rw[Xa,Xa,z.length_eq],wh _⟩;obtain⟨m1,m2,m3⟩:=masked p a J f r k;(obtain⟨l,rfl,z⟩:=CX R;have C:(iW l).length=l.length:=by unfold iW;rw[Xa]);rw[C,iX]at o;rw[C];obtain⟨rfl,h0⟩|⟨g,cap,rfl,D,T,ad,af,ag⟩:=o.2;(refine(MW oc w').mono λe w2 ⟨u,s⟩=>⟨u,λg cap e=>by(cases e),λb m _=>by rw[s]⟩);obtain⟨ah,U,V⟩:=y g rfl;(obtain⟨rest,h⟩:=ex (dk lz (cap-l.length));have j:w'.heap[g]? =some (.cells (bI l++rest).toArray 66 (0,0)):=by rw[k,gX,T,Xm];show some (Obj.cells ((bI l++dk lz (cap-l.length)).toArray.map (mask _)) 66 _)=_;rw[Nw λx hx=>?_,h];congr 2;exact Wt U;obtain hx|hx:=XT.1 hx;obtain⟨n,hn⟩:=vv l x hx;exact⟨_,n,hn⟩;exact KJ _ x hx);(have X:g<w'.heap.size:=(WC.1 j).1;have ak:l.length<=8:=by rw[z.length_eq,(dN c).length_eq];exact Ww (aav _ _) (by rw[Zm];exact Q));(have q:=P3 oc (cap:=cap) (d0:=l.toArray) (rest:=rest) w' m1.days t (λb m D=>V (by rw[<-D];exact m)) (λx hx=>Iy t x (z.mem_iff.1 (by simpa using hx))) (by simp;omega) X ⟨Wv _,λ_ _ _=>rfl,by simpa using j⟩;have E:=Ie z;have hz:l.toArray.size=l.length:=by simp);(rw[hz]at q E;refine q.mono λe w2 ⟨u,s⟩=>⟨u,λg' aa e'=>?_,λb m ho=>s.other b m λe=>ho (by rw[e];rfl)⟩);cases e';rw[iX,s.row,E,h]
def eE:bT (gY g74):=rj g74
def De{w w' v c}(h:fg w.heap.size w' v (aA c))(k:Below w.heap.size w w'):R77 (iW (aA c)) w v w':=by (refine⟨k.size,λb i=>k.block b i,?_⟩;have a:(iW (aA c)).length=(aA c).length:=by unfold iW;rw[Xa]);rw[a,iX];obtain⟨⟨r,m⟩,n⟩:=h;by_cases f:aA c=[];exact .inl ⟨by rw[f];rfl,n f⟩;refine .inr ⟨λe=>f (by unfold iW at e;simpa using e),?_⟩;have l:0<(aA c).length:=XQ.2 f;obtain⟨_,s⟩|⟨g,cap,o,e,t,p,x,y,z,q⟩:=m;omega;refine⟨⟨g,0,none⟩,cap,e,λj u d=>?_⟩;rw[show(Addr.add ⟨g,0,none⟩ j)=⟨g,0+j,none⟩ by simp[Addr.add];omega];refine cell_of_heap p _ _ ?_;rw[WH,<-XF];rw[<-q]at d;rw[ZQ]at d;split at d;exact d;cases d
def NG(P a f2):ai (ai P a) f2=ai P f2:=rfl
def qJ{c}(a:OkC c):(aA c).length<=8:=by rw[(dN c).length_eq];exact Ww (aav _ _) (by rw[Zm];exact a.lT)
def Iz{Post}:oY iJ (gY g74) Post dL:=by have j:(gY g74)[77]? =some Tryz.f77:=(wj _ _).symm.trans (n77 eE);refine Ib (S₁:=nw) (fs1:=gY py) (uz g74) j (by kernel_rfl) (by kernel_rfl) Nb Kt (λ_=>rfl) wI (by kernel_rfl) th ?_ ?_ ?_ ?_ ?_ ?_;rintro w v L ⟨sc,c,rfl,d,f,i,a,rfl⟩;exact a.size;rintro w v L ⟨sc,c,rfl,d,f,i,a,rfl⟩;refine⟨?_,wh _⟩;have:=qJ f;unfold iW;rw[Xa];omega;rintro w v L ⟨sc,c,rfl,d,f,i,a,rfl⟩ g m;exact a.cells g (W6 m);rintro w v L ⟨sc,c,rfl,d,f,i,a,rfl⟩;exact⟨⟨sc,c,rfl,⟨d.1.mask λb _ h=>h,d.2.mask⟩,f,i,a.mask,rfl⟩,d.2.self λb _ h=>h⟩;rintro w v L ⟨sc,c,rfl,d,f,i,a,rfl⟩;(exact(y5 eE w d.1 f).mono λe w' ⟨v,k,l,i⟩=>⟨v,k,De l i⟩);rintro w v L ⟨sc,c,rfl,d,f,i,a,rfl⟩;rw[NG];exact(y5 oc w d.1 f).mono λe w' ⟨v,k,l,i⟩=>⟨v,k⟩
def qN{c}(h:bO c=0):du c.table=0/\aL 0 6 eG c.rules=0/\bL c.new=0/\aL 0 8 (eK c.new.name) c.marks=0/\aL c.marks.length c.marks.length mY c.kin=0:=by rw[Aw]at h;split at h;rename_i a;exact absurd h a;rename_i b;split at h;rename_i a;exact absurd h a;rename_i d;split at h;rename_i a;exact absurd h a;rename_i e;split at h;rename_i a;exact absurd h a;rename_i f;exact⟨by simpa using b,by simpa using d,by simpa using e,by simpa using f,h⟩
def iY{n a hi:Int}(h:av n a hi=true):a<=n/\n<=hi:=by unfold av at h;simpa using h
def Ax{nm seen m}(h:eK nm seen m=0):bL m=0:=by unfold eK at h;simp only[]at h;split at h;rename_i a;exact absurd h a;rename_i a;simpa using a
def ew{c}(h:bO c=0):OkC c/\Ku c:=by (obtain⟨p,i,j,l,o⟩:=qN h;have t:=(eV i).1;have u:=(eV l).1;have v:=(eV o).1;have g:∀m∈c.marks,bL m=0:=λm g=>by obtain⟨_,h⟩:=kA l g;exact Ax h);refine⟨⟨Qk p,E3 j,λm k=>E3 (g m k),by omega,by omega,by omega,λr q=>?_,λn s=>?_⟩,Ir j,λm k=>Ir (g m k)⟩;obtain⟨_,h⟩:=kA i q;unfold eG at h;split at h;cases h;rename_i f;simp only[X3,not_or,Bool.not_eq_true,Bool.not_eq_false']at f;obtain⟨⟨⟨a,b⟩,d⟩,e⟩:=f;have a:=iY a;have b:=iY b;have d:=iY d;have e:=iY e;exact⟨a.1,a.2,b.1,b.2,d.1,d.2,e.1,e.2⟩;obtain⟨_,h⟩:=kA o s;unfold mY at h;split at h;cases h;rename_i f;simp only[Bool.not_eq_true,Bool.not_eq_false']at f;exact iY f
end Go.Proofs
namespace Go.Proofs
open Go.Tm Go.RowKit Go.ChangeShapes Go.WideShapes Go.ChangeAt Go.WideElems Go.Conc
section
variable {H:Type} {enc:TypeId×x6->H}
def gH{a C os f fn s g b fresh d h}{X:xv->WZ->Prop} (E:∀(w w') (args),w.heap=w'.heap->X w args->X w' args) (own:ownKnob C.prog.godebug=none) (k:os.Started) (x:C.prog.funcs[f]? =some fn) (l:∃(w:xv) (tape:Tape) (i:Input),w.os=os/\(w.forCall tape i).Shaped C.prog/\i.vars=[]/\Input.okWide C.prog (w.forCall tape i) .any w.heap.size f i/\((s.pre enc C.prog fn g b (w.forCall tape i).memory i.args/\X (w.forCall tape i).memory i.args)/\sizedMet enc C.prog fn (OpenSpec.ofChange s) b (w.forCall tape i).memory i.args)/\a.holds C.prog (lone (Frame.enter C.prog f i.args .normal) [] (w.forCall tape i))) (m:∀(W) (base) (args) (ds r) (c),(∀(j:Nat) t v,fn.params[j]? =some t->args[j]? =some v->Value.okWide C.prog W .any base t v)->DataW.Whole enc C.prog fn.params.toList s.vars b W args.toList ds r c->(DataW.weightsEach C.prog (fn.params.toList++s.plain.varTypes C.prog) (ds++r)).all (· <=reachBytes)=true->X W args->W.ShapedOpen C.prog->∃M last o w' u,runNT C.prog (M+1) (solo (G (Frame.enter C.prog f args .normal) []) W) #[]=(.ended o w',u)/\runN C.prog M (solo (G (Frame.enter C.prog f args .normal) []) W)=.next last/\step C.prog last=.ended o w'/\Conc.Good C.prog (λv F=>s.post enc C.prog fn b fresh d h W args v F) last o w' u):ReturnsInLeavingWide a C os f .any (λw args=>(s.pre enc C.prog fn g b w args/\X w args)/\sizedMet enc C.prog fn (OpenSpec.ofChange s) b w args) (s.post enc C.prog fn b fresh d h):=by refine returnsInLeavingWide_of_good own k l ?_;intro w tape i _ y _ z n _;obtain⟨_,_,_,A,p,_,_,_,_,q⟩:=z;have e:A=fn:=WV (p.symm.trans x);subst e;obtain⟨⟨⟨ds,r,c,D,Q⟩,I⟩,J⟩:=n;have B:=DataW.Whole.of_heap (w':=w.forCall tape i) (by rfl) D;obtain⟨M,last,o,w',u,K,L,N,O⟩:=m (w.forCall tape i) w.heap.size i.args ds r c q B (J.weights D) (E _ _ _ (by rfl) I) y;exact⟨M,last,o,w',u,K,L,N,O.mono λv P=>ChangeSpec.post_blind P⟩
end
def Qg:Tryz.prog.globalNamed "touchmark/like.kinds" =some 0:=by kernel_rfl
def TQ:(Tryz.prog.globals[0]?).map (·.type)=some 117:=by kernel_rfl
def Il:Tryz.prog.cellsOf 116=2:=by kernel_rfl
def Qh:Tryz.prog.cellsOf 114=1:=by kernel_rfl
def kindName(k:UInt8):List UInt8:=[116,111,117,99,104,109,97,114,107,47,108,105,107,101,46,107,105,110,100,115,36,k]
def tj:DataW Unit:=.agg [.agg [.lit (.string [108,101,116,116,101,114,115]),.iface "func" (.lit (.string (kindName 49)))],.agg [.lit (.string [115,111,117,110,100,115]),.iface "func" (.lit (.string (kindName 50)))], .agg [.lit (.string [109,101,97,110,115]),.iface "func" (.lit (.string (kindName 51)))],.agg [.lit (.string [116,117,114,110,101,100]),.iface "func" (.lit (.string (kindName 52)))], .agg [.lit (.string [99,117,116]),.iface "func" (.lit (.string (kindName 53)))],.agg [.lit (.string [102,105,103,117,114,101,115]),.iface "func" (.lit (.string (kindName 54)))]]
def bZ(k:Nat):List UInt8:=kindName (49+k.toUInt8)
def Qi(k)(a:k<6):((List.range Tryz.prog.funcs.size).filter λf=>(Tryz.prog.funcs[f]?).any (·.name.toUTF8.data.toList==bZ k))=[fC k]:=by
 match k,a with
 |0,_=>(have h:((List.range Tryz.prog.funcs.size).filter λf=>(Tryz.prog.funcs[f]?).any (·.name.toUTF8.data.toList==bZ 0))=[fC 0]:=by kernel_rfl);exact h
 |1,_=>(have h:((List.range Tryz.prog.funcs.size).filter λf=>(Tryz.prog.funcs[f]?).any (·.name.toUTF8.data.toList==bZ 1))=[fC 1]:=by kernel_rfl);exact h
 |2,_=>(have h:((List.range Tryz.prog.funcs.size).filter λf=>(Tryz.prog.funcs[f]?).any (·.name.toUTF8.data.toList==bZ 2))=[fC 2]:=by kernel_rfl);exact h
 |3,_=>(have h:((List.range Tryz.prog.funcs.size).filter λf=>(Tryz.prog.funcs[f]?).any (·.name.toUTF8.data.toList==bZ 3))=[fC 3]:=by kernel_rfl);exact h
 |4,_=>(have h:((List.range Tryz.prog.funcs.size).filter λf=>(Tryz.prog.funcs[f]?).any (·.name.toUTF8.data.toList==bZ 4))=[fC 4]:=by kernel_rfl);exact h
 |5,_=>(have h:((List.range Tryz.prog.funcs.size).filter λf=>(Tryz.prog.funcs[f]?).any (·.name.toUTF8.data.toList==bZ 5))=[fC 5]:=by kernel_rfl);exact h
def nz{l W}(h:laidMetH Tryz.prog l W)(y:("touchmark/like.kinds",DataW.iface "func table" tj)∈l):fX W:=by
 obtain⟨g,t,cs,fuel,p,z,A,B,C⟩:=h.funcs y;obtain rfl:=WV (Qg.symm.trans z);obtain rfl:=WV (TQ.symm.trans A);obtain⟨xs,m,rfl,e,J,K,s⟩:=DataW.trod_array Tryz.underlying117 C;have D:xs.map (·.1)=[.agg [.lit (.string [108,101,116,116,101,114,115]),.held (bZ 0)],.agg [.lit (.string [115,111,117,110,100,115]),.held (bZ 1)],
  .agg [.lit (.string [109,101,97,110,115]),.held (bZ 2)],.agg [.lit (.string [116,117,114,110,101,100]),.held (bZ 3)],
  .agg [.lit (.string [99,117,116]),.held (bZ 4)],.agg [.lit (.string [102,105,103,117,114,101,115]),.held (bZ 5)]]:=by
  have e1:=(Y4 e).1;have v:tj.funcsOut=_:=e1;have e3:tj.funcsOut=.agg [.agg [.lit (.string [108,101,116,116,101,114,115]),.held (bZ 0)],.agg [.lit (.string [115,111,117,110,100,115]),.held (bZ 1)],
   .agg [.lit (.string [109,101,97,110,115]),.held (bZ 2)],.agg [.lit (.string [116,117,114,110,101,100]),.held (bZ 3)],
   .agg [.lit (.string [99,117,116]),.held (bZ 4)],.agg [.lit (.string [102,105,103,117,114,101,115]),.held (bZ 5)]]:=by
   simp[tj,DataW.funcsOut,DataW.funcsOutAll,kindName,bZ]
  rw[e3]at v;exact(DataW.agg.inj v).symm
 intro k u;have c:=s k u;rw[Il]at c;have f:k<xs.length:=by omega
 rw[WN f]at c;obtain⟨L,w,E,e1,a,_,i⟩:=trod_struct2 Tryz.underlying116 c;have o:∃nm,(xs[k]).1=.agg [nm,.held (bZ k)]:=by (have d:(xs.map (·.1))[k]? =some (xs[k]).1:=by rw[Xq,WN f];rfl);rw[D]at d;match k,u with|0,_=>exact⟨_,(WV d).symm⟩|1,_=>exact⟨_,(WV d).symm⟩|2,_=>exact⟨_,(WV d).symm⟩|3,_=>exact⟨_,(WV d).symm⟩|4,_=>exact⟨_,(WV d).symm⟩|5,_=>exact⟨_,(WV d).symm⟩
 obtain⟨nm,o⟩:=o;rw[e1]at o;have F:w.1=.held (bZ k):=by have:=DataW.agg.inj o;simp only[Y2,and_true]at this;exact this.2
 rw[Il]at a;obtain⟨q,c1,j⟩:∃q c1,(cs.toList.drop (k*2)).take 2=[q,c1]:=by match(cs.toList.drop (k*2)).take 2,a with| [q,c1],_=>exact⟨q,c1,rfl⟩
 rw[j]at i;have n:DataW.trod (funcToken Tryz.prog) Tryz.prog W 0 (λ_=>true) true E 114 [c1]=some (.held (bZ k),w.2):=by rw[<-F];have G:Tryz.prog.cellsOf 114=1:=Qh;simpa[G]using i
 have I:c1=.func (.func (fC k)) #[] #[]:=func_of_trod (b:=116) (r:=[111,117,99,104,109,97,114,107,47,108,105,107,101,46,107,105,110,100,115,36,49+k.toUInt8]) Tryz.underlying114 (Qi k u) n;rw[World.var?_cell Qg B (k*2+1),<-I,<-XF];have x:((cs.toList.drop (k*2)).take 2)[1]? =some c1:=by rw[j];rfl
 rw[ZQ,Wu (by decide),Zf]at x;exact x
def Ni(g)(a:g<5):∃zero t,(((begin Tryz.prog (λ_ _=>0) default).world.heap[g]?).bind Obj.row?)=some (zero,t):=by
 have h:(((begin Tryz.prog (λ_ _=>0) default).world.heap[g]?).bind Obj.row?).isSome=true:=by
  match g,a with
  |0,_=>(have h:(((begin Tryz.prog (λ_ _=>0) default).world.heap[0]?).bind Obj.row?).isSome=true:=by kernel_rfl);exact h
  |1,_=>(have h:(((begin Tryz.prog (λ_ _=>0) default).world.heap[1]?).bind Obj.row?).isSome=true:=by kernel_rfl);exact h
  |2,_=>(have h:(((begin Tryz.prog (λ_ _=>0) default).world.heap[2]?).bind Obj.row?).isSome=true:=by kernel_rfl);exact h
  |3,_=>(have h:(((begin Tryz.prog (λ_ _=>0) default).world.heap[3]?).bind Obj.row?).isSome=true:=by kernel_rfl);exact h
  |4,_=>(have h:(((begin Tryz.prog (λ_ _=>0) default).world.heap[4]?).bind Obj.row?).isSome=true:=by kernel_rfl);exact h
 obtain⟨⟨z,t⟩,b⟩:=aaD.1 h;exact⟨z,t,b⟩
def nA{W}(h:W.ShapedOpen Tryz.prog)(f:fX W):gG W:=by (have b:∀g,g<5->∃c e F,W.heap[g]? =some (.cells c e F):=λg d=>by obtain⟨z,t,i⟩:=Ni g d;obtain⟨cs,a,_⟩:=h.1 g z t (by rw[lB];exact d) i;exact⟨cs,t,_,a⟩);refine⟨f,cell_of_shapedOpen_int (P:=Tryz.prog) (g:=2) (t:=3) (zero:=#[.i 0]) h (W6 (by kernel_rfl)) (by kernel_rfl) rfl (by kernel_rfl) (by kernel_rfl) Tryz.underlying3,b,?_⟩;rw[lB];obtain⟨c,e,F,a⟩:=b 4 (by decide);exact(WC.1 a).1
end Go.Proofs
namespace Go.Proofs
def lO{c i h}(e:en c i=some h):h.mark=(i:Int)/\i<c.marks.length:=by unfold en at e;split at e;rename_i m k a b;obtain⟨x,_,rfl⟩:=Xb.1 e;exact⟨rfl,(Xk.1 a).1⟩;cases e
def gJ{c h}(a:h∈aA c):∃i:Nat,i<c.marks.length/\h.mark=i/\en c i=some h:=by have:=(dN c).mem_iff.1 a;obtain⟨i,_,e⟩:=aau.1 this;obtain⟨b,d⟩:=lO e;exact⟨i,d,b,e⟩
def tq{c h}{i:Nat}(a:i<c.marks.length)(e:en c i=some h):h∈aA c:=(dN c).mem_iff.2 (aau.2 ⟨i,Y0.2 a,e⟩)
def jO(c):(aA c).length<=c.marks.length:=by rw[(dN c).length_eq];have:=aav (en c) (List.range c.marks.length);rwa[Zm]at this
def pd(c):(aA c).Pairwise λa b=>a.mark≠b.mark:=by refine((dN c).pairwise_iff (λh=>h.symm)).2 ?_;refine List.Pairwise.filterMap (S:=λa b:Hit=>a.mark≠b.mark) (en c) (R:=λa b=>a≠b) (λa i d b g j f e=>d ?_) List.nodup_range;have k:=(lO g).1;have l:=(lO f).1;omega
def Fi(c){i:Nat}(e:0<i)(a:i<(aA c).length):aV c ((aA c)[i-1]'(by omega)) (aA c)[i]=true:=by have b:=Y3.1 (pR c) (i-1) i (by omega) a (by omega);have d:=Y3.1 (pd c) (i-1) i (by omega) a (by omega);cases h:aV c ((aA c)[i-1]'(by omega)) (aA c)[i]with|true=>rfl|false=>exact absurd (W8 Hit.mark (Cj h b)) d
theorem jY{c m k}:∀(a:List jd) (i:Nat) (q:Nat) (v:Int),cQ c m k i a=some (q,v)->i<=q/\∃h:q-i<a.length,fK c m k a[q-i]=⟨0,0,0⟩/\v=bn c.table a[q-i].kind c.new m/\∀j (e:j<q-i),fK c m k (a[j]'(by omega))≠⟨0,0,0⟩
 | [],i,q,v,h=>by cases h
 |r::a,i,q,v,h=>by
  unfold cQ at h;split at h
  .rename_i b
   cases h;refine⟨Wv _,by simp,by simpa using b,by simp,λj e=>by omega⟩
  .rename_i b
   obtain⟨p,o,f,g,l⟩:=jY a (i+1) q v h;obtain⟨d,rfl⟩:∃d,q=i+1+d:=⟨q-(i+1),by omega⟩
   have e1:i+1+d-(i+1)=d:=by omega
   have n:i+1+d-i=d+1:=by omega
   simp only[e1]at o f g l;refine⟨by omega,by simp only[n,WA];omega,?_⟩;simp only[n,List.getElem_cons_succ];refine⟨f,g,λj e=>?_⟩;cases j with
   |zero=>exact b
   |succ j=>exact l j (by omega)
def QV{c:Case}{i:Nat}{h:Hit}(e:en c i=some h):∃(a:i<c.marks.length) (q:Nat) (j:q<c.rules.length),h=⟨i,q,bn c.table c.rules[q].kind c.new c.marks[i]⟩:=by obtain⟨e0,a⟩:=lO e;unfold en at e;rw[WN a]at e;split at e;rename_i m k f l;cases f;obtain⟨⟨q,v⟩,g,rfl⟩:=Xb.1 e;obtain⟨_,b,_,d,_⟩:=jY _ _ _ _ g;simp only[Nat.sub_zero]at b d;exact⟨a,q,b,by rw[d]⟩;cases e
end Go.Proofs

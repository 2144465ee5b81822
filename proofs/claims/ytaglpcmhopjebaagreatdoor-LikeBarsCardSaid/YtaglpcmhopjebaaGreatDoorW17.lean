import Derived.Test.YtaglpcmhopjebaaGreatDoorW16
set_option linter.all false
set_option maxRecDepth 100000
set_option maxHeartbeats 20000000
namespace Go.Proofs
open Go.Tm Go.RowKit
variable {fs:Array Func} (L:bT fs)
def fC(k:Nat):Nat:=if k=0 then 230 else if k=1 then 232 else if k=2 then 233 else if k=3 then 236 else if k=4 then 238 else 240
def fX(w:xv):Prop:=∀k,k<6->w.cell? ⟨0,k*2+1,none⟩=some (.func (.func (fC k)) #[] #[])
def fX.stays{w w'}(h:fX w)(a:ae w w'):fX w':=λk b=>a.cell (h k b)
def lY(fs:Array Func)(k:Nat):Prop:=∀(K:Nat->Prop) (v0 v1 v2:x6) (t:Table) (m1 m2:WZ) (one two:Mark) (w:xv),IsTable K w v0 v1 v2 t->OkT t->bF K w m1 one->bF K w m2 two->OkM one->OkM two->hZ w->ac fs (fC k) #[.agg #[v0,v1,v2],.agg m1,.agg m2] w (.i (bn t k one two))
def Ts(md:Region.Mode)(ops:Array Oper):Bool:=(List.range ops.size).all λk=>match ops[k]? with
 |some o=>o.after.all λe=> !Region.binds md e||decide (e.on<k)
 |none=>true
theorem nN{md ops s}(a:s.size=ops.size)(f:Ts md ops=true)(g:Region.ready md ops s=[]):∀(n k),k<n->k<ops.size->s.getD k false=true
 |0,k,h,_=>absurd h (WM _)
 |n+1,k,h,b=>by
  cases i:s.getD k false with
  |true=>rfl
  |false=>
   exfalso;have c:k<s.size:=by omega
   have o:s.getD k true=false:=by rw[XC,W4 c]at i⊢;exact i
   have j:k∈Region.ready md ops s:=mem_ready.2 ⟨o,ops[k],W4 b,λe p d=>by have l:=Xe.1 f k (Y0.2 b);rw[W4 b]at l;have m:=YC.1 l e p;simp only[d,XW,YY]at m;have q:e.on<k:=W6 m;exact nN a f g n e.on (by omega) (by omega)⟩
   rw[g]at j;cases j
def vA{w:xv}{b x y z a1 a c}(n0:w.cell? ⟨b,0,none⟩=some a1)(d:w.cell? ⟨b,1,none⟩=some a)(f:w.cell? ⟨b,2,none⟩=some c):(((w.setCell ⟨b,0,none⟩ x).setCell ⟨b,1,none⟩ y).setCell ⟨b,2,none⟩ z).cell? ⟨b,0,none⟩=some x/\(((w.setCell ⟨b,0,none⟩ x).setCell ⟨b,1,none⟩ y).setCell ⟨b,2,none⟩ z).cell? ⟨b,1,none⟩=some y/\(((w.setCell ⟨b,0,none⟩ x).setCell ⟨b,1,none⟩ y).setCell ⟨b,2,none⟩ z).cell? ⟨b,2,none⟩=some z:=by have e:∀i j:Nat,i≠j->(⟨b,i,none⟩:Addr)≠⟨b,j,none⟩:=λi j h g=>h (by cases g;rfl);refine⟨?_,?_,?_⟩;rw[World.cell?_setCell_other _ _ _ _ (e 2 0 (by decide)),World.cell?_setCell_other _ _ _ _ (e 1 0 (by decide))];exact World.cell?_setCell_same' _ _ _ (by rw[n0];rfl);rw[World.cell?_setCell_other _ _ _ _ (e 2 1 (by decide))];exact World.cell?_setCell_same' _ _ _ (by rw[World.cell?_setCell_other _ _ _ _ (e 0 1 (by decide)),d];rfl);exact World.cell?_setCell_same' _ _ _ (by rw[World.cell?_setCell_other _ _ _ _ (e 1 2 (by decide)),World.cell?_setCell_other _ _ _ _ (e 0 2 (by decide)),f];rfl)
def fD{s:Array Bool}{i}(h:i<s.size):(s.setIfInBounds i true).getD i false=true:=by simp[h]
def sS(fs:Array Func)(k:Nat)(one two:Mark):Prop:=∀(K:Nat->Prop) (v0 v1 v2:x6) (t:Table) (m1 m2:WZ) (w:xv),IsTable K w v0 v1 v2 t->OkT t->bF K w m1 one->bF K w m2 two->OkM one->OkM two->hZ w->ac fs (fC k) #[.agg #[v0,v1,v2],.agg m1,.agg m2] w (.i (bn t k one two))
def lY.at{fs k}(h:lY fs k)(one two):sS fs k one two:=λK v0 v1 v2 t m1 m2 w=>h K v0 v1 v2 t m1 m2 one two w
def O6:lY fs 0:=λK v0 v1 v2 t m1 m2 one two w a b c d e f g=>RF L w a b c d e f
def Tt:lY fs 1:=λK v0 v1 v2 t m1 m2 one two w a b c d e f g=>RG L w a b c d e f g
def Tu:lY fs 2:=λK v0 v1 v2 t m1 m2 one two w a b c d e f g=>RH L w a b c d e f
def O7:lY fs 3:=λK v0 v1 v2 t m1 m2 one two w a b c d e f g=>RM L w a b c d e f
def O8(k:Nat)(b:k<6):∀a w,(callFunc (fC k) a).run (Qs fs) w=.ok (.enter (fC k) a) w:=by match k,b with|0,_=>exact VY L|1,_=>exact VZ L|2,_=>exact V5 L|3,_=>exact V7 L|4,_=>exact V8 L|5,_=>exact V9 L
def O9{K:Nat->Prop}{sc:WZ}{c:Case}(i k:Nat)(w:xv)(hc:bD K w sc c)(M:OkC c)(hi:i<c.marks.length)(hk:k<c.rules.length)(bo:i<c.kin.length)(l:sS fs c.rules[k].kind.toNat c.new c.marks[i])(hm:hZ w)(br:fX w):Calls (Qs fs) 84 #[.agg sc,.i i,.agg #[.i c.rules[k].kind,.i c.rules[k].least,.i c.rules[k].plain,.i c.rules[k].known]] w λe w'=>e=.returned (.tuple #[FI (fK c c.marks[i] c.kin[i] c.rules[k]),.i (bn c.table c.rules[k].kind c.new c.marks[i])])/\Below w.heap.size w w':=by
 obtain⟨v0,v1,v2,vr,vf,vm,vk,rfl,ht,hr,hf,cb,z⟩:=hc;obtain⟨r1,r2,r3,r4,r5,r6,r7,r8⟩:=M.rules _ (WG hk);obtain⟨k1,k2⟩:=M.kin _ (WG bo);have A:=M.marks _ (WG hi);obtain⟨am,cm,rfl,_,_,_,gm⟩:=cb;obtain⟨bm,om,rfl,x0,x1,xf,x3,x4⟩:=gm i hi;obtain⟨c0,a7,xf⟩:=xf;obtain⟨af,cf,rfl,_⟩:=id xf;obtain⟨ak,ck,rfl,_,_,_,gk⟩:=z;obtain⟨G,f,rfl,z0⟩:=gk i bo;rw[Xj]at z0;have z0:w.cell? ⟨G,f+i,none⟩=some (.i c.kin[i]):=z0;obtain⟨m,bs⟩:=ex (c.marks[i]);obtain⟨r,bx⟩:=ex (c.rules[k]);obtain⟨q,bA⟩:=ex (c.kin[i]);rw[<-bs]at x0 x1 a7 xf x3 x4 A l⊢;rw[<-bx]at r1 r2 r3 r4 r5 r6 r7 r8 l⊢;rw[<-bA]at z0 k1 k2⊢;obtain⟨kn,z⟩:∃kn:Nat,r.kind=kn:=⟨r.kind.toNat,by omega⟩
 have a6:kn<6:=by omega
 rw[z]at l⊢;have l:sS fs kn c.new m:=l;clear bs bx bA gm gk;have cc:c.marks.length<=8:=M.lT;obtain⟨wa,B⟩:=ex (((w.alloc (.cells #[v0,v1,v2,vr,.string c.new.name,.string c.new.word,vf,.i c.new.day,.bool c.new.known,.slice (some ⟨bm,om,none⟩) c.marks.length cm,.slice (some ⟨G,f,none⟩) c.kin.length ck] 125)).alloc (.cells #[.i kn,.i r.least,.i r.plain,.i r.known] 69)).alloc (.cells #[.i 0,.i 0,.i 0] 86));obtain⟨Sa,Ba,cs,cr,cz⟩:=gS w _ _ _ _ _ _ wa B;obtain⟨w1,C⟩:=ex (wa.alloc (.cells #[.string m.name,.string m.word,.slice af m.aU.length cf,.i m.day,.bool m.known] 38));have b:ae wa w1:=by rw[C];exact ae.alloc _ _
 have S1:ae w w1:=Sa.trans b;have B1:Below w.heap.size w w1:=by rw[C];exact Ba.alloc Ba.size _
 have bB:wa.heap.size=w.heap.size+1+1+1:=by rw[B];simp
 have g:∀i v,(#[.string m.name,.string m.word,.slice af m.aU.length cf,.i m.day,.bool m.known]:WZ)[i]? =some v->w1.cell? ⟨w.heap.size+1+1+1,i,none⟩=some v:=λi v h=>by rw[C,<-bB];exact aC wa _ 38 i v h
 have a8:w1.heap[w.heap.size+1+1]? =some (.cells #[.i 0,.i 0,.i 0] 86):=by (refine b _ _ _ _ ?_;have h:((w.alloc (.cells #[v0,v1,v2,vr,.string c.new.name,.string c.new.word,vf,.i c.new.day,.bool c.new.known,.slice (some ⟨bm,om,none⟩) c.marks.length cm,.slice (some ⟨G,f,none⟩) c.kin.length ck] 125)).alloc (.cells #[.i kn,.i r.least,.i r.plain,.i r.known] 69)).heap.size=w.heap.size+1+1:=by simp);rw[B,<-h];exact Xh
 obtain⟨N0,h0⟩:=ex (w.heap.size);obtain⟨N1,h1⟩:=ex (w.heap.size+1);obtain⟨H,h2⟩:=ex (w.heap.size+1+1);obtain⟨N3,h3⟩:=ex (w.heap.size+1+1+1);have s0:=b.cell (cs 0 _ rfl);have s1:=b.cell (cs 1 _ rfl);have s2:=b.cell (cs 2 _ rfl);have s4:=b.cell (cs 4 _ rfl);have s5:=b.cell (cs 5 _ rfl);have s6:=b.cell (cs 6 _ rfl);have s7:=b.cell (cs 7 _ rfl);have s8:=b.cell (cs 8 _ rfl);have ba:=b.cell (cs 10 _ rfl);have bC:=cs 9 _ rfl;have y0:=b.cell (cr 0 _ rfl);have y1:=b.cell (cr 1 _ rfl);have y2:=b.cell (cr 2 _ rfl);have y3:=b.cell (cr 3 _ rfl);have p0:=g 0 _ rfl;have p1:=g 1 _ rfl;have p2:=g 2 _ rfl;have p3:=g 3 _ rfl;have p4:=g 4 _ rfl;have zx:=S1.cell z0;have E:=(br.stays S1) kn a6;have cd:=Sa.cell x0;have cg:=Sa.cell x1;have cl:=Sa.cell a7;have cn:=Sa.cell x3;have cp:=Sa.cell x4;rw[<-h3]at p0 p1 p2 p3 p4;rw[<-h2]at a8;rw[<-h1]at y0 y1 y2 y3;rw[<-h0]at s0 s1 s2 s4 s5 s6 s7 s8 ba bC;have HB:Hid (Below w.heap.size w w1/\w.heap.size<=H):=⟨B1,by omega⟩
 have b0:N3=wa.heap.size:=by omega
 have b5:Hid (w1=wa.alloc (.cells #[.string m.name,.string m.word,.slice af m.aU.length cf,.i m.day,.bool m.known] 38)/\N3=wa.heap.size):=⟨C,b0⟩
 have cU:(i:Int)<(c.marks.length:Int):=by omega
 have cV:(i:Int)<(c.kin.length:Int):=by omega
 have cX:(kn:Int)<6:=by omega
 have ek:=O8 L kn a6;have qL:∀x:au w w1,Calls (Qs fs) (fC kn) #[.agg #[v0,v1,v2],.agg #[.string c.new.name,.string c.new.word,vf,.i c.new.day,.bool c.new.known],.agg #[.string m.name,.string m.word,.slice af m.aU.length cf,.i m.day,.bool m.known]] x.val λe w'=>e=.returned (.i (bn c.table kn c.new m))/\∃y:au w w1,w'=y.val:=λx=>au.calls (l K v0 v1 v2 c.table _ _ x.val (ht.stays (S1.trans x.st)) M.table ⟨vf,rfl,hf.ints (S1.trans x.st)⟩ ⟨_,rfl,xf.ints (S1.trans x.st)⟩ M.new A (hm.stays (S1.trans x.st)));have lb:=m7 c.table kn c.new m M.new.fig A.fig;have nb: -1000<=kV m r/\kV m r<=1000:=by unfold kV;split<;>omega
 have n:Hid (kV m r=if m.known then min r.plain r.known else r.plain):=rfl;have HV:Hid (fK c m q r=⟨max 0 (m.day+1-c.new.day),max 0 (r.least-bn c.table kn c.new m),max 0 (kV m r-q)⟩):=by rw[Hid,FJ,z]
 obtain⟨lv,b6⟩:=ex (bn c.table kn c.new m);rw[<-b6]at qL lb HV⊢;have c1:=A.day;have c5:=M.new.day;obtain⟨F,hF⟩:=ex (fC kn);rw[<-hF]at qL E ek;clear b6 z l hF br hm x0 x1 x3 x4 a7 xf z0 ht hr hf cs cr cz g S1 b B1 Ba M A bB cc C b0 h3;go_enter (n84 L),Tryz.ntmps84;go_upto_region 1 with fail;rw[<-B,<-h2,<-h1,<-h0];clear B h0 h1 h2;go_upto_region 2 with fail;rw[<-b5.o.1,<-b5.o.2];clear cd cg cl cn cp bC;go_upto_if 20 with fail;go_cut [9]from 10 (λs9 wx=>s9=.i (kV m r)/\wx=w1)
 case first=>
  have cY:∀x y:Int,(if x<y then x else y)=min x y:=λx y=>by split<;>omega
  rcases hkw:m.known
  ·(have bb:Hid (kV m r=r.plain):=by rw[Hid,n.o,hkw];rfl);rw[hkw]at p4;go_wp2_with fail;all_goals (go_meet;refine⟨W8 (Value.int .i64) ?_,rfl⟩;rw[bb.o])
  have bb:Hid (kV m r=min r.plain r.known):=by rw[Hid,n.o,hkw];rfl
  rw[hkw]at p4;go_wp2_with fail;all_goals (go_meet;refine⟨W8 (Value.int .i64) ?_,rfl⟩;rw[bb.o])
 case rest=>
  obtain⟨rfl,rfl⟩:=hcut;obtain⟨N,b7⟩:=ex (kV m r);rw[<-b7]at nb HV⊢;clear b7 n;have c6:IntKind.i64.wrap (m.day+1)=m.day+1:=wrap_i64 _ (by omega);have c7:IntKind.i64.wrap (m.day+1-c.new.day)=m.day+1-c.new.day:=wrap_i64 _ (by omega);have c8:IntKind.i64.wrap (r.least-lv)=r.least-lv:=wrap_i64 _ (by omega);have c9:IntKind.i64.wrap (N-q)=N-q:=wrap_i64 _ (by omega);have da:∀x y:Int,(if x<y then y else x)=max x y:=λx y=>by split<;>omega
  have l0:=λx:au w wc=>And.intro (x.cell s0)<|And.intro (x.cell s1)<|And.intro (x.cell s2)<|And.intro (x.cell s4)<|And.intro (x.cell s5)<|And.intro (x.cell s6)<|And.intro (x.cell s7)<|And.intro (x.cell s8)<|And.intro (x.cell y0)<|And.intro (x.cell p0)<|And.intro (x.cell p1)<|And.intro (x.cell p2)<|And.intro (x.cell p3)<|And.intro (x.cell p4)<|x.cell E;have T0:Hid (wc.cell? ⟨N0,7,none⟩=some (.i c.new.day)/\wc.cell? ⟨N0,10,none⟩=some (.slice (some ⟨G,f,none⟩) c.kin.length ck)/\wc.cell? ⟨N1,1,none⟩=some (.i r.least)/\wc.cell? ⟨N3,3,none⟩=some (.i m.day)/\wc.cell? ⟨G,f+i,none⟩=some (.i q)/\wc.heap[H]? =some (.cells #[.i 0,.i 0,.i 0] 86)):=⟨s7,ba,y1,p3,zx,a8⟩
  clear s0 s1 s2 s4 s5 s6 s7 s8 ba y0 y1 y2 y3 p0 p1 p2 p3 p4 zx a8 E;go_upto_region 5 with fail;refine aO (w0:=w) (w1:=wc) (by kernel_rfl) (by kernel_rfl) (ae.refl _) HB.o.1 ?_;haveI cq:Nonempty (au w wc):=⟨⟨wc,ae.refl _,HB.o.1⟩⟩
  repeat (go_big_quiet_step ((go_at_fn F;exact qL _)))
  refine wpQuiet_nil ?_;rintro wz ⟨⟨_,Sz,Bz⟩,rfl⟩;have t0:=Sz.cell T0.o.1;have t1:=Sz.cell T0.o.2.1;have t2:=Sz.cell T0.o.2.2.1;have t3:=Sz.cell T0.o.2.2.2.1;have t4:=Sz.cell T0.o.2.2.2.2.1;have b8:=Sz _ _ _ _ T0.o.2.2.2.2.2;have BZ:Hid _:=Bz;clear qL l0 cq Sz Bz;go_upto_region 6 with fail;refine wp_region_any (by kernel_rfl) ?_;obtain⟨O,j⟩:=ex (wz.drew);rw[show({heap:=wz.heap,tape:=wz.tape,drawn:=wz.drawn+1,os:=wz.os,output:=wz.output}:xv)=O from j.symm];have BY:Hid (Below w.heap.size w O):=by rw[j];exact BZ.o.drew
  have m0:O.cell? ⟨N0,7,none⟩=some (.i c.new.day):=by rw[j];exact t0
  have m1:O.cell? ⟨N0,10,none⟩=some (.slice (some ⟨G,f,none⟩) c.kin.length ck):=by rw[j];exact t1
  have m2:O.cell? ⟨N1,1,none⟩=some (.i r.least):=by rw[j];exact t2
  have m3:O.cell? ⟨N3,3,none⟩=some (.i m.day):=by rw[j];exact t3
  have m4:O.cell? ⟨G,f+i,none⟩=some (.i q):=by rw[j];exact t4
  have t:O.heap[H]? =some (.cells #[.i 0,.i 0,.i 0] 86):=by rw[j];exact b8
  have n0:=cell_of_heap t 0 _ rfl;have n1:=cell_of_heap t 1 _ rfl;have n2:=cell_of_heap t 2 _ rfl;have g0:=frozen_of_heap t 0;have g1:=frozen_of_heap t 1;have g2:=frozen_of_heap t 2;clear t0 t1 t2 t3 t4 j b8 t;refine lH (I:=λs a W=>∃x7 P Q R S T U V X Y Z aa ab ad ag ah al an ao ar ax ay aK aM aR a1:x6,a=⟨#[.agg #[v0,v1,v2,vr,.string c.new.name,.string c.new.word,vf,.i c.new.day,.bool c.new.known,.slice (some ⟨bm,om,none⟩) c.marks.length cm,.slice (some ⟨G,f,none⟩) c.kin.length ck],.i i,.agg #[.i kn,.i r.least,.i r.plain,.i r.known],.pointer (some ⟨N0,0,none⟩),undef,.pointer (some ⟨N1,0,none⟩),.pointer (some ⟨H,0,none⟩),x7,.pointer (some ⟨N3,0,none⟩),.i N,.i lv,u11,u12,u13,u14,u15,u16,u17,u18,u19,u20,u21,u22,u23,u24,.pointer (some ⟨N1,0,none⟩),.i kn,.pointer (some ⟨0,kn*2,none⟩),.pointer (some ⟨0,kn*2+1,none⟩),.func (.func F) #[] #[],.pointer (some ⟨N0,0,none⟩),.pointer (some ⟨N0,0,none⟩),.agg #[v0,v1,v2],.agg #[v0,v1,v2],.pointer (some ⟨N0,0,none⟩),.pointer (some ⟨N0,4,none⟩),.agg #[.string c.new.name,.string c.new.word,vf,.i c.new.day,.bool c.new.known],.agg #[.string m.name,.string m.word,.slice af m.aU.length cf,.i m.day,.bool m.known],.i lv,P,Q,R,S,T,U,V,X,Y,Z,aa,ab,ad,ag,ah,al,an,ao,ar,ax,ay,aK,aM,aR,a1],[]⟩/\Agr s 0 [P,Q,R,S,T,U,V,X,Y,Z,aa,ab,ad,ag,ah,al,an,ao,ar,ax,ay,aK,aM,aR,a1,undef,x7] [.pointer (some ⟨N3,3,none⟩),.i (m.day),.i (m.day+1),.pointer (some ⟨N0,0,none⟩),.pointer (some ⟨N0,4,none⟩),.pointer (some ⟨N0,7,none⟩),.i (c.new.day),.i (m.day+1-c.new.day),.i (max 0 (m.day+1-c.new.day)),.pointer (some ⟨N1,1,none⟩),.i (r.least),.i (lv),.i (r.least-lv),.i (max 0 (r.least-lv)),.i (N),.pointer (some ⟨N0,0,none⟩),.pointer (some ⟨N0,10,none⟩),.slice (some ⟨G,f,none⟩) c.kin.length ck,.i (i),.pointer (some ⟨G,f+i,none⟩),.i (q),.i (N-q),.i (max 0 (N-q)),.agg #[.i (max 0 (m.day+1-c.new.day)),.i (max 0 (r.least-lv)),.i (max 0 (N-q))],.i (lv),undef,.i lv]/\s.size=27/\((s.getD 25 false=false/\W=O)\/(s.getD 25 false=true/\(∀k,k<24->s.getD k false=true)/\Below w.heap.size w W/\W.cell? ⟨H,0,none⟩=some (.i (max 0 (m.day+1-c.new.day)))/\W.cell? ⟨H,1,none⟩=some (.i (max 0 (r.least-lv)))/\W.cell? ⟨H,2,none⟩=some (.i (max 0 (N-q)))))) ?step ?fin _ _ _ _ (by simp) ?start;case start=>refine⟨_,_,_,_,_,_,_,_,_,_,_,_,_,_,_,_,_,_,_,_,_,_,_,_,_,_,rfl,Agr.start rfl,?_⟩;simp
  case fin=>
   rintro s a W ⟨x7,P,Q,R,S,T,U,V,X,Y,Z,aa,ab,ad,ag,ah,al,an,ao,ar,ax,ay,aK,aM,aR,a1,rfl,J,u,hW⟩ hr;have D:=λk (hk:k<27)=>nN u (by kernel_rfl) hr (k+1) k (XK k) hk;obtain⟨k0,k1,k2,k3,k4,k5,k6,k7,k8,k9,cv,cw,cx,cy,cA,cB,cC,cD,cF,cG,cH,cI,cK,cL,cM,cR,cS,_⟩:=J;obtain rfl:=cS (D 26 (by decide));obtain⟨_,_,b1,b2,b3,b4⟩:=hW.resolve_left λh=>by rw[D 25 (by decide)]at h;cases h.1
   clear D k0 k1 k2 k3 k4 k5 k6 k7 k8 k9 cv cw cx cy cA cB cC cD cF cG cH cI cK cL cM cR;go_wp2;all_goals
    refine bodyPost_ret (v:=.tuple #[.agg #[.i (max 0 (m.day+1-c.new.day)),.i (max 0 (r.least-lv)),.i (max 0 (N-q))],.i lv]) ?_ rfl ⟨by rw[HV.o];rfl,b1⟩;simp[results,Tryz.results84,go_sem, *]
  case step=>
   rintro s a W i ⟨x7,P,Q,R,S,T,U,V,X,Y,Z,aa,ab,ad,ag,ah,al,an,ao,ar,ax,ay,aK,aM,aR,a1,rfl,J,u,hW⟩ hr;obtain⟨b9,o,ho,d⟩:=mem_ready.1 hr;have hi:i<27:=(WC.1 ho).1;clear hr;obtain rfl|rfl|rfl|rfl|rfl|rfl|rfl|rfl|rfl|rfl|rfl|rfl|rfl|rfl|rfl|rfl|rfl|rfl|rfl|rfl|rfl|rfl|rfl|rfl|rfl|rfl|rfl:i=25\/i=26\/i=24\/i=0\/i=1\/i=2\/i=3\/i=4\/i=5\/i=6\/i=7\/i=8\/i=9\/i=10\/i=11\/i=12\/i=13\/i=14\/i=15\/i=16\/i=17\/i=18\/i=19\/i=20\/i=21\/i=22\/i=23:=by omega
   all_goals
    obtain rfl:=WV ho;clear ho hi;refine wpOp_step rfl λK' ca=>?_;have HK:Hid (∀a w,_->K' a w):=ca;clear ca
   .obtain⟨hu,rfl⟩:=hW.resolve_right λh=>absurd h.1 (gU b9);have hH:Hid _:=d;(try (have e:=J.dep d 0 rfl rfl;(conv at e=>lhs;whnf);(conv at e=>rhs;whnf);subst e));clear d hW;go_simp;exact HK.o _ _ ⟨_,_,_,_,_,_,_,_,_,_,_,_,_,_,_,_,_,_,_,_,_,_,_,_,_,_,rfl,J.set _,by rw[W9];exact u,.inr ⟨fD (by rw[u];decide),λk hk=>bt (qX hH.o (by kernel_rfl) k hk),((BY.o.setCell (p:=⟨H,0,none⟩) HB.o.2 _).setCell (p:=⟨H,1,none⟩) HB.o.2 _).setCell (p:=⟨H,2,none⟩) HB.o.2 _,(vA n0 n1 n2).1,(vA n0 n1 n2).2.1,(vA n0 n1 n2).2.2⟩⟩
   iterate 2
    (try (have e:=J.dep d 0 rfl rfl;(conv at e=>lhs;whnf);(conv at e=>rhs;whnf);subst e))
    clear d;go_simp;exact HK.o _ _ ⟨_,_,_,_,_,_,_,_,_,_,_,_,_,_,_,_,_,_,_,_,_,_,_,_,_,_,rfl,J.set _,by rw[W9];exact u,hW.imp (λh=>⟨(getD_set_ne false (by decide)).trans h.1,h.2⟩) λh=>⟨bt h.1,λk hk=>bt (h.2.1 k hk),h.2.2⟩⟩
   all_goals
    obtain⟨hu,rfl⟩:=hW.resolve_right λh=>absurd (h.2.1 _ (by decide)) (gU b9)
    (try (have e:=J.dep d 0 rfl rfl;(conv at e=>lhs;whnf);(conv at e=>rhs;whnf);subst e))
    (try (have e:=J.dep d 1 rfl rfl;(conv at e=>lhs;whnf);(conv at e=>rhs;whnf);subst e))
    (try (have e:=J.dep d 2 rfl rfl;(conv at e=>lhs;whnf);(conv at e=>rhs;whnf);subst e))
    clear d hW;go_simp;exact HK.o _ _ ⟨_,_,_,_,_,_,_,_,_,_,_,_,_,_,_,_,_,_,_,_,_,_,_,_,_,_,rfl,J.set _,by rw[W9];exact u,.inl ⟨(getD_set_ne false (by decide)).trans hu,rfl⟩⟩


structure EZ(t:Table):Prop where
 lets:t.az.length<=1000/\∀p∈t.az,p.1.size<=1000/\p.2.size<=1000
 Sv:t.aI.length<=1000/\∀x∈t.aI,x.name.size<=1000/\∀p∈x.bd,p.1.size<=1000/\p.2.size<=1000
 bG:t.bG.length<=1000/\∀g∈t.bG,g.length<=1000/\∀s∈g,s.size<=1000
def Qj(l:List UV)(i:Nat)(s:UV):j8 (l.take i) s=if !bg s 1 48 then 3 else if(l.take i).any (λq=>decide (q=s))then 5 else 0:=rfl
def BF{K:Nat->Prop}{v0 v1 v2:x6}{t:Table}(w:xv)(ht:IsTable K w v0 v1 v2 t)(hs:EZ t):ac fs 21 #[.agg #[v0,v1,v2]] w (.i (du t)):=by
 have e58:=e58 L;have e59:=e59 L;have e60:=e60 L;have e61:=e61 L;have e62:=e62 L;obtain⟨w1,C⟩:=ex (w.alloc (.cells #[v0,v1,v2] 26));have S1:ae w w1:=by rw[C];exact ae.alloc _ _
 have B1:Below w.heap.size w w1:=by rw[C];exact aN _ _
 have ct:∀i v,(#[v0,v1,v2]:WZ)[i]? =some v->w1.cell? ⟨w.heap.size,i,none⟩=some v:=λi v h=>by rw[C];exact aC w _ 26 i v h
 obtain⟨N,hN⟩:=ex (w.heap.size);rw[<-hN]at ct;have u0:=ct 0 _ rfl;have u1:=ct 1 _ rfl;have u2:=ct 2 _ rfl;have Q:=Ai L w1 (ht.stays S1).1 hs.lets.2 hs.lets.1;have B:=λwx (hb:Below w1.heap.size w1 wx)=>Aj L wx (ht.stays (S1.trans (ae.below hb))).2.1 hs.Sv.2 hs.Sv.1;obtain⟨fa,R⟩:=ex (aL 0 12 letterF t.az);obtain⟨fb,hfb⟩:=ex (aL 0 3 dJ t.aI);have hT:du t=if fa≠0 then fa else if fb≠0 then fb else aL 0 4 iC t.bG:=by rw[R,hfb];rfl
 rw[<-R]at Q;simp only[<-hfb]at B;have HB:Hid _:=B1;have HT:Hid _:=hT;have ad:=(ht.stays S1).2.2;have HM:Hid _:=hs.bG;obtain⟨ao,c,rfl,br,hc,_,D⟩:=ad;have HC:Hid _:=D;clear ht hs ct R hfb S1 B1 hT D;go_enter (n21 L),Tryz.ntmps21;go_upto_region 1 with fail;rw[<-C,<-hN];clear C hN;go_upto_region 2 with((go_at_call 58;refine Q.mono ?_;rintro e w2 ⟨rfl,I⟩))
 have S2:=ae.below I;have u0:=S2.cell u0;have u1:=S2.cell u1;have u2:=S2.cell u2;have S:Hid (Below w.heap.size w w2):=HB.o.trans (I.mono HB.o.size);have B:=B w2 I;have a1:Hid _:=S2;clear Q S2 I;by_cases ha:fa=0
 .subst ha;go_upto_region 5 with((go_at_call 59;refine B.mono ?_;rintro e w3 ⟨rfl,T⟩))
  have S3:=ae.below T;have u0:=S3.cell u0;have u1:=S3.cell u1;have u2:=S3.cell u2;have U:Hid (Below w.heap.size w w3):=S.o.trans (T.mono S.o.size);have a6:Hid _:=ae.trans a1.o S3;clear B S3 T;by_cases hb:fb=0
  .subst hb;have af:Hid (du t=aL 0 4 iC t.bG):=HT.o;by_cases h4:4<t.bG.length
   ·(have g4:(4:Int)<(t.bG.length:Int):=by omega);have n:du t=2:=af.o.trans (by unfold aL av;rw[Wz (p:=(t.bG.length:Int)<=4) (by omega),YA];rfl);have HV:Hid _:=n;clear n;go_wp2;go_ret;exact⟨by rw[HV.o];rfl,U.o⟩
   have g4:decide ((4:Int)<(t.bG.length:Int))=false:=Wz (by omega);have J:Hid (du t=dq iC [] t.bG):=af.o.trans (by unfold aL av;rw[WE (by omega),WE (by omega)];rfl);go_wp2;have a7:=u2;clear u0 u1 u2;go_loopw [5] (λs wr=>∃k:Nat,k<=t.bG.length/\s=.i k/\(∀j (_:j<k) (h':j<t.bG.length),iC (t.bG.take j) t.bG[j]=0)/\ae w3 wr/\Below w.heap.size w wr) (λs _=>t.bG.length-(intOf s).toNat);case atStart=>exact⟨0,WB _,rfl,λj h=>absurd h (WM _),ae.refl _,U.o⟩
   case round=>
    (obtain⟨k,hk,rfl,hf,l,u⟩:=hrel;have HF:Hid _:=hf;have HI:Hid _:=(⟨l,u⟩:ae w3 wr/\Below w.heap.size w wr));have y2:=l.cell a7;clear hf;obtain M|hge:=Wx k t.bG.length
    .obtain⟨b,off,rfl,vs,hx,E⟩:=HC.o k M;(have SW:ae w1 wr:=ae.trans a6.o l;have hx:=SW.cell hx;have hx:wr.cell? ⟨b,off+k,none⟩=some vs:=by simpa using hx);have E:=E.stays SW λx y o z e h=>by subst e;exact SW.cell h
     obtain⟨a8,ah⟩:=HM.o.2 _ (WG M);have d:iC (t.bG.take k) t.bG[k]=aL 2 4 j8 t.bG[k]:=rfl;obtain⟨g,V⟩:=ex (t.bG[k]);rw[<-V]at E a8 ah d;have ak:Hid _:=V;have HL:Hid _:=d;have F:=E;obtain⟨ag,cg,rfl,bs,bx,_,A⟩:=E;have ba:Hid _:=A;have al:Hid _:=F;have O:∀{f:Int},aL 2 4 j8 g=f->f≠0->dq iC [] t.bG=f:=λh1 h2=>fR M HF.o (by rw[<-ak.o];exact HL.o.trans h1) h2;have HG:Hid (aL 2 4 j8 g=0->∀j (_:j<k+1) (h':j<t.bG.length),iC (t.bG.take j) t.bG[j]=0):=λh=>fS HF.o M (by rw[<-ak.o];exact HL.o.trans h);have an:Hid _:=@O;have W:=λwx=>yB L (g.length:Int) 2 4 wx;clear V d F A O l u SW;obtain⟨z0,X⟩:=ex (av g.length 2 4);simp only[<-X]at W;have ar:Hid _:=X;clear X;cases z0 with
     |false=>have n:=an.o (by unfold aL;rw[<-ar.o];rfl:_=(2:Int)) (by decide);have HV:Hid _:=n;clear n;go_wp2_with (go_at_call 60;refine(W _).mono ?_;rintro e w' ⟨rfl,q⟩;rw[q];clear q);go_ret;exact⟨by rw[J.o,HV.o];rfl,HI.o.2⟩
     |true=>
      have HE:Hid (aL 2 4 j8 g=dq j8 [] g):=by rw[Hid];unfold aL;rw[<-ar.o];rfl
      (go_upto_block 2 with((go_at_call 60;refine(W _).mono ?_;rintro e w' ⟨rfl,q⟩;rw[q];clear q)));go_wp2;go_loopw [7] (λs wi=>∃m:Nat,m<=g.length/\s=.i m/\(∀i (_:i<m) (h':i<g.length),j8 (g.take i) g[i]=0)/\ae wr wi/\Below w.heap.size w wi) (λs _=>g.length-(intOf s).toNat);case atStart=>exact⟨0,WB _,rfl,λj h=>absurd h (WM _),ae.refl _,HI.o.2⟩
      case round=>
       (obtain⟨m,hm,rfl,ax,l,u⟩:=hrel;have Y:Hid _:=ax;have G:Hid _:=(⟨l,u⟩:_/\Below w.heap.size w wr));clear ax;obtain hmk|hmk:=Wx m g.length
       .obtain⟨b2,o2,rfl,Z⟩:=ba.o m hmk;(have k1:=ah g[m] (WG hmk);have Z:=l.cell Z;have Z:wr.cell? ⟨b2,o2+m,none⟩=some (.string g[m]):=by simpa using Z);(have d:=Qj g m g[m];have ay:=(aB.take al.o m hm).stays l λx y o z e h=>by subst e;exact l.cell h);obtain⟨r,hr⟩:=ex (g[m]);rw[<-hr]at Z k1 d;have qa:=λwx=>oz L r 1 48 wx (by omega);have qb:∀x:au w wr,Calls (Qs fs) 62 #[.slice (some ⟨b2,o2,none⟩) m cg,.string r] x.val λe w'=>e=.returned (.i (kU (g.take m) r))/\∃y:au w wr,w'=y.val:=λx=>au.same (DC L r x.val (ay.stays x.st λa b o z e h=>by subst e;exact x.st.cell h))
        have l0:∀x:au w wr,x.val.cell? ⟨b2,o2+m,none⟩=some (.string r):=λx=>x.st.cell Z;obtain⟨z1,aK⟩:=ex (bg r 1 48);obtain⟨fi,H⟩:=ex (kU (g.take m) r);have aa:=tv (g.take m) r;simp only[<-aK]at qa d;simp only[<-H]at qb aa;rw[<-aa]at d;have aM:Hid _:=hr;have ab:Hid _:=d;clear aK H hr d l u ay aa;have aR:∀{f:Int},j8 (g.take m) r=f->f≠0->dq iC [] t.bG=f:=λh1 h2=>an.o (HE.o.trans (fR hmk Y.o (by rw[<-aM.o];exact h1) h2)) h2;have P:Hid _:=@aR;have bb:Hid (j8 (g.take m) r=0->∀i (_:i<m+1) (h':i<g.length),j8 (g.take i) g[i]=0):=λh=>fS Y.o hmk (by rw[<-aM.o];exact h);clear aR;cases z1 with
        |false=>have n:=P.o (ab.o.trans rfl:_=(3:Int)) (by decide);have HV:Hid _:=n;clear n qb l0;go_wp2_with (go_at_call 61;refine(qa _).mono ?_;rintro e w' ⟨rfl,q⟩;rw[q];clear q);go_ret;exact⟨by rw[J.o,HV.o];rfl,G.o.2⟩
        |true=>
         (go_upto_region 20 with((go_at_call 61;refine(qa _).mono ?_;rintro e w' ⟨rfl,q⟩;rw[q];clear q)));(have bA:¬(m:Int)<0:=by omega);(have bB:(m:Int)<=(cg:Int):=by omega);(refine aO (w0:=w) (w1:=wr) (by kernel_rfl) (by kernel_rfl) (ae.refl _) G.o.2 ?_;haveI bk:Nonempty (au w wr):=⟨⟨wr,ae.refl _,G.o.2⟩⟩);(repeat (go_big_quiet_step ((go_at_call 62;exact qb _))));(refine wpQuiet_nil ?_;rintro wz ⟨⟨_,Sz,Bz⟩,rfl⟩;have HZ:Hid _:=(⟨ae.trans G.o.1 Sz,Bz⟩:_/\_));clear qa qb l0 bk Sz Bz Z;by_cases H:0<=fi
         .have n:=P.o (ab.o.trans (by rw[WE H];rfl):_=(5:Int)) (by decide);have HV:Hid _:=n;clear n;go_wp2;go_ret;exact⟨by rw[J.o,HV.o];rfl,HZ.o.2⟩
         have n:=bb.o (ab.o.trans (by rw[Wz H];rfl));have HV:Hid _:=n;clear n;go_wp2;exact⟨⟨m+1,by omega,by go_num,HV.o,HZ.o.1,HZ.o.2⟩,by simp[intOf];omega⟩
       (have bm:m=g.length:=by omega);subst bm;have n:=HG.o (HE.o.trans (fI λi h=>Y.o i h h));have HV:Hid _:=n;have bo:Hid _:=ae.trans HI.o.1 l;clear n l u;go_wp2;exact⟨⟨k+1,by omega,by go_num,HV.o,bo.o,G.o.2⟩,by simp[intOf];omega⟩
    clear l u;go_wp2;go_ret;exact⟨by rw[J.o,fI λj h=>HF.o j (by omega) h];rfl,HI.o.2⟩
  have bC:(fb !=0)=true:=by simpa using hb
  have n:du t=fb:=HT.o.trans (by rw[Wt (by simp),Wu hb]);have HV:Hid _:=n;clear n;go_wp2;go_ret;exact⟨by rw[HV.o];rfl,U.o⟩
 have b0:(fa !=0)=true:=by simpa using ha
 have n:du t=fa:=HT.o.trans (by rw[Wu ha]);have HV:Hid _:=n;clear n B;go_wp2;go_ret;exact⟨by rw[HV.o];rfl,S.o⟩
structure KC(t:Table):Prop where
 lets:∀p∈t.az,p.1.size<=140737488351232/\p.2.size<=140737488351232
 Sv:∀x∈t.aI,x.name.size<=140737488351232/\∀p∈x.bd,p.1.size<=140737488351232/\p.2.size<=140737488351232
 bG:∀g∈t.bG,∀s∈g,s.size<=140737488351232
def wrap_add{a b:Nat}(h:a+b<=9223372036854775807):wrap64 ((a:Int)+b)=((a+b:Nat):Int):=by unfold wrap64;omega
def Da{a b c:Nat}(h:a+b+c<=9223372036854775807):wrap64 (wrap64 ((a:Int)+b)+c)=((a+b+c:Nat):Int):=by rw[wrap_add (by omega),wrap_add h]
def TR{K:Nat->Prop}{v0 v1 v2:x6}{t:Table}(w:xv)(ht:IsTable K w v0 v1 v2 t)(hr:KC t):Calls (Qs fs) 16 #[.agg #[v0,v1,v2]] w λe w'=>∃z,e=.returned (.bool z)/\(z=false->EZ t)/\Below w.heap.size w w':=by
 obtain⟨w1,H⟩:=ex (w.alloc (.cells #[v0,v1,v2] 26));have S1:ae w w1:=by rw[H];exact ae.alloc _ _
 have B1:Below w.heap.size w w1:=by rw[H];exact aN _ _
 have ct:∀i v,(#[v0,v1,v2]:WZ)[i]? =some v->w1.cell? ⟨w.heap.size,i,none⟩=some v:=λi v h=>by rw[H];exact aC w _ 26 i v h
 obtain⟨N,hN⟩:=ex (w.heap.size);rw[<-hN]at ct;have u0:=ct 0 _ rfl;have u1:=ct 1 _ rfl;have u2:=ct 2 _ rfl;have HB:Hid _:=B1;have HR:Hid _:=hr;have ak:=ht.stays S1;obtain⟨⟨aK,c0,rfl,aM,aR,_,g0⟩,⟨a6,c1,rfl,a7,ag,_,g1⟩,⟨a8,X,rfl,ba,ah,_,g2⟩⟩:=ak;have G0:Hid _:=g0;have G1:Hid _:=g1;have G2:Hid _:=g2;clear ht hr ct S1 B1 g0 g1 g2;have dn:∀n:Nat,40<n->decide ((40:Int)<(n:Int))=true:=λn h=>WE (by omega);have dm:∀n:Nat,¬40<n->decide ((40:Int)<(n:Int))=false:=λn h=>Wz (by omega);go_enter (n16 L),Tryz.ntmps16;go_upto_region 1 with fail;rw[<-H,<-hN];clear H hN;by_cases a0:40<t.az.length
 .have d0:=dn _ a0;go_wp2;go_ret;exact⟨true,rfl,(λh=>by cases h),HB.o⟩
 have d0:=dm _ a0;by_cases a1:40<t.aI.length
 .have d1:=dn _ a1;go_wp2;go_ret;exact⟨true,rfl,(λh=>by cases h),HB.o⟩
 have d1:=dm _ a1;by_cases a2:40<t.bG.length
 .have d2:=dn _ a2;go_wp2;go_ret;exact⟨true,rfl,(λh=>by cases h),HB.o⟩
 have d2:=dm _ a2;have A:t.az.length<=40/\t.aI.length<=40/\t.bG.length<=40:=by omega
 clear dn dm a0 a1 a2;go_wp2;have Y:=u0;have Z:=u1;have I:=u2;clear u0 u1 u2;go_loopw [3,4] (λS s wr=>∃j n:Nat,j<=t.az.length/\s=.i j/\S=.i n/\n<=j*281474976702464/\(∀i (_:i<j) (h':i<t.az.length),t.az[i].1.size<=n/\t.az[i].2.size<=n)/\ae w1 wr/\Below w.heap.size w wr) (λ_ s _=>t.az.length-(intOf s).toNat);case atStart=>exact⟨0,0,WB _,rfl,rfl,WB _,λj h=>absurd h (WM _),ae.refl _,HB.o⟩
 case round=>
  obtain⟨j,n,hj,rfl,rfl,hn,f,c,J⟩:=hrel;have R:Hid _:=f;have u:Hid _:=(⟨c,J⟩:ae w1 wr/\Below w.heap.size w wr)
  have y0:=c.cell Y;have y1:=c.cell Z;have y2:=c.cell I;clear f;obtain y|hge:=Wx j t.az.length
  .obtain⟨b,off,rfl,M,k⟩:=G0.o j y;(have W:=c.cell M;have T:=c.cell k;obtain⟨k1,U⟩:=HR.o.lets _ (WG y);obtain⟨p,l⟩:=ex (t.az[j]);rw[<-l]at W T k1 U;obtain⟨p0,p1⟩:=p;simp only[]at W T k1 U;have l0:∀x:au w wr,x.val.cell? ⟨N,0,none⟩=some _:=λx=>x.st.cell y0;have l1:∀x:au w wr,x.val.cell? ⟨b,off+j*2,none⟩=some (.string p0):=λx=>x.st.cell W;have l2:∀x:au w wr,x.val.cell? ⟨b,off+j*2+1,none⟩=some (.string p1):=λx=>x.st.cell T;have HP:Hid _:=l;clear l M k c J;go_upto_region 7 with fail;refine aZ (w0:=w) (w1:=wr) 17 (by kernel_rfl) (by kernel_rfl) (ae.refl _) u.o.2 ?_;simp only[Xi,Xf,Xn,Xl];haveI aa:Nonempty (au w wr):=⟨⟨wr,ae.refl _,u.o.2⟩⟩);(repeat (go_big_quiet_step (fail)));(refine wpQuiet_nil ?_;rintro wz ⟨⟨_,Sz,Bz⟩,rfl⟩;have HZ:Hid _:=(⟨ae.trans u.o.1 Sz,Bz⟩:_/\_));clear l0 l1 l2 aa Sz Bz W T y0 y1 y2;go_wp2;refine⟨⟨j+1,n+p0.size+p1.size,by omega,by go_num,by first|rw[Da (by omega)]|exact W8 (Value.int .i64) (by omega),by omega,λi E V=>?_,HZ.o.1,HZ.o.2⟩,by simp[intOf];omega⟩;obtain h3|h3:=Wx i j;have:=R.o i h3 V;omega;(have:i=j:=by omega);subst this;rw[<-HP.o];show p0.size<=_/\p1.size<=_;omega
  have O:j=t.az.length:=by omega
  subst O;have H0:Hid (n<=11258999068098560/\∀p∈t.az,p.1.size<=n/\p.2.size<=n):=⟨by omega,λp l=>by obtain⟨i,E,rfl⟩:=XO l;exact R.o i E E⟩
  have W1:=u;clear c J R u hge hn;go_wp2;clear y0 y1 y2;go_loopw [3,5] (λS s wr=>∃j C:Nat,j<=t.aI.length/\s=.i j/\S=.i C/\n<=C/\C<=11258999068098560+j*11399736556449792/\(∀i (_:i<j) (h':i<t.aI.length),t.aI[i].name.size<=C/\t.aI[i].bd.length<=40/\∀p∈t.aI[i].bd,p.1.size<=C/\p.2.size<=C)/\ae w1 wr/\Below w.heap.size w wr) (λ_ s _=>t.aI.length-(intOf s).toNat);case atStart=>exact⟨0,n,WB _,rfl,rfl,Wv _,by have:=H0.o.1;omega,λj h=>absurd h (WM _),W1.o.1,W1.o.2⟩
  case round=>
   (obtain⟨j,C,hj,rfl,rfl,bb,hn,f,c,J⟩:=hrel;have R:Hid _:=f;have u:Hid _:=(⟨c,J⟩:ae w1 wr/\Below w.heap.size w wr));have y0:=c.cell Y;have y1:=c.cell Z;have y2:=c.cell I;clear f;obtain y|hge:=Wx j t.aI.length
   .obtain⟨b,off,rfl,M,vs,k,F⟩:=G1.o j y;have W:=c.cell M;have T:=c.cell k;obtain⟨k1,U⟩:=HR.o.Sv _ (WG y);obtain⟨p,l⟩:=ex (t.aI[j]);rw[<-l]at W k1 U F;obtain⟨p0,p1⟩:=p;simp only[]at W T k1 U F;obtain⟨al,cs,rfl,an,ao,_,d⟩:=F;have ab:Hid _:=d;have HP:Hid _:=l;have ad:=k;clear l M k c J d;by_cases ar:40<p1.length
    ·(have g5:(40:Int)<(p1.length:Int):=by omega);go_wp2;go_ret;exact⟨true,rfl,(λh=>by cases h),u.o.2⟩
    have g5:decide ((40:Int)<(p1.length:Int))=false:=Wz (by omega)
    (go_upto_block 4 with fail);go_wp2;clear y0 y1 y2 W T;go_loopw [3,6] (λS s wi=>∃m n3:Nat,m<=p1.length/\s=.i m/\S=.i n3/\C+p0.size<=n3/\n3<=11258999068098560+j*11399736556449792+140737488351232+m*281474976702464/\(∀i (_:i<m) (h':i<p1.length),p1[i].1.size<=n3/\p1[i].2.size<=n3)/\ae w1 wi/\Below w.heap.size w wi) (λ_ s _=>p1.length-(intOf s).toNat);case atStart=>exact⟨0,C+p0.size,WB _,rfl,by first|rw[wrap_add (by omega)]|exact W8 (Value.int .i64) (by omega),Wv _,by omega,λj h=>absurd h (WM _),u.o.1,u.o.2⟩
    case round=>
     (obtain⟨m,n3,hm,rfl,rfl,ag,ah,o,a,D⟩:=hrel;have P:Hid _:=o;have r:Hid _:=(⟨a,D⟩:ae w1 wr/\Below w.heap.size w wr));have z0:=a.cell Y;have z1:=a.cell Z;have z2:=a.cell I;have z3:=a.cell ad;clear o;obtain B|hge2:=Wx m p1.length
     .obtain⟨b2,o2,rfl,G,r2⟩:=ab.o m B;(have G:=a.cell G;have r2:=a.cell r2;obtain⟨e1,e2⟩:=U p1[m] (WG B);obtain⟨q,hq⟩:=ex (p1[m]);rw[<-hq]at G r2 e1 e2;obtain⟨q0,q1⟩:=q;simp only[]at G r2 e1 e2;have l0:∀x:au w wr,x.val.cell? ⟨N,1,none⟩=some _:=λx=>x.st.cell z1;have l3:∀x:au w wr,x.val.cell? ⟨b,off+j*2+1,none⟩=some _:=λx=>x.st.cell z3;have l1:∀x:au w wr,x.val.cell? ⟨b2,o2+m*2,none⟩=some (.string q0):=λx=>x.st.cell G;have l2:∀x:au w wr,x.val.cell? ⟨b2,o2+m*2+1,none⟩=some (.string q1):=λx=>x.st.cell r2;have HQ:Hid _:=hq;clear hq a D;go_upto_region 17 with fail;refine aZ (w0:=w) (w1:=wr) 25 (by kernel_rfl) (by kernel_rfl) (ae.refl _) r.o.2 ?_;simp only[Xi,Xf,Xn,Xl];haveI aa:Nonempty (au w wr):=⟨⟨wr,ae.refl _,r.o.2⟩⟩);(repeat (go_big_quiet_step (fail)));(refine wpQuiet_nil ?_;rintro wz ⟨⟨_,Sz,Bz⟩,rfl⟩;have HZ:Hid _:=(⟨ae.trans r.o.1 Sz,Bz⟩:_/\_));clear l0 l1 l2 l3 aa Sz Bz G r2 z0 z1 z2 z3;go_wp2;refine⟨⟨m+1,n3+q0.size+q1.size,by omega,by go_num,by first|rw[Da (by omega)]|exact W8 (Value.int .i64) (by omega),by omega,by omega,λi E V=>?_,HZ.o.1,HZ.o.2⟩,by simp[intOf];omega⟩;obtain h3|h3:=Wx i m;have:=P.o i h3 V;omega;(have:i=m:=by omega);subst this;rw[<-HQ.o];show q0.size<=_/\q1.size<=_;omega
     (have af:m=p1.length:=by omega);subst af;clear a D;go_wp2;refine⟨⟨j+1,n3,by omega,by go_num,rfl,by omega,by omega,λi E V=>?_,r.o.1,r.o.2⟩,by simp[intOf];omega⟩;obtain h3|h3:=Wx i j;obtain⟨c1,X,c3⟩:=R.o i h3 V;exact⟨by omega,X,λp l=>by have:=c3 p l;omega⟩;(have:i=j:=by omega);subst this;rw[<-HP.o];refine⟨by show p0.size<=_;omega,by show p1.length<=_;omega,λp l=>?_⟩;obtain⟨i',Q,rfl⟩:=XO l;exact P.o i' Q Q
   (have O:j=t.aI.length:=by omega);(subst O;have H1:Hid (C<=467248461326090240/\∀x∈t.aI,x.name.size<=C/\x.bd.length<=40/\∀p∈x.bd,p.1.size<=C/\p.2.size<=C):=⟨by omega,λp l=>by obtain⟨i,E,rfl⟩:=XO l;exact R.o i E E⟩);have W2:=u;clear c J R u hge hn;go_wp2;clear y0 y1 y2;go_loopw [3,7] (λS s wr=>∃j n3:Nat,j<=t.bG.length/\s=.i j/\S=.i n3/\C<=n3/\n3<=467248461326090240+j*5629499534049280/\(∀i (_:i<j) (h':i<t.bG.length),t.bG[i].length<=40/\∀s∈t.bG[i],s.size<=n3)/\ae w1 wr/\Below w.heap.size w wr) (λ_ s _=>t.bG.length-(intOf s).toNat);case atStart=>exact⟨0,C,WB _,rfl,rfl,Wv _,by have:=H1.o.1;omega,λj h=>absurd h (WM _),W2.o.1,W2.o.2⟩
   case round=>
    (obtain⟨j,n3,hj,rfl,rfl,ax,hn,f,c,J⟩:=hrel;have R:Hid _:=f;have u:Hid _:=(⟨c,J⟩:ae w1 wr/\Below w.heap.size w wr));have y2:=c.cell I;clear f;obtain y|hge:=Wx j t.bG.length
    .obtain⟨b,off,rfl,vs,k,F⟩:=G2.o j y;(have k:w1.cell? ⟨b,off+j,none⟩=some vs:=by simpa using k);have T:=c.cell k;have U:=HR.o.bG _ (WG y);obtain⟨g,hg⟩:=ex (t.bG[j]);rw[<-hg]at U F;obtain⟨al,cs,rfl,an,ao,_,d⟩:=F;have ab:Hid _:=d;have HP:Hid _:=hg;have ad:=k;clear hg k c J d;by_cases ar:40<g.length
     ·(have g5:(40:Int)<(g.length:Int):=by omega);go_wp2;go_ret;exact⟨true,rfl,(λh=>by cases h),u.o.2⟩
     have g5:decide ((40:Int)<(g.length:Int))=false:=Wz (by omega)
     (go_upto_block 8 with fail);go_wp2;clear y2 T;go_loopw [3,8] (λS s wi=>∃m n4:Nat,m<=g.length/\s=.i m/\S=.i n4/\n3<=n4/\n4<=467248461326090240+j*5629499534049280+m*140737488351232/\(∀i (_:i<m) (h':i<g.length),g[i].size<=n4)/\ae w1 wi/\Below w.heap.size w wi) (λ_ s _=>g.length-(intOf s).toNat);case atStart=>exact⟨0,n3,WB _,rfl,rfl,Wv _,Ww hn (aaj _ _),λj h=>absurd h (WM _),u.o.1,u.o.2⟩
     case round=>
      (obtain⟨m,n4,hm,rfl,rfl,ag,ah,o,a,D⟩:=hrel;have P:Hid _:=o;have r:Hid _:=(⟨a,D⟩:ae w1 wr/\Below w.heap.size w wr));have z2:=a.cell I;have z3:=a.cell ad;clear o;obtain B|hge2:=Wx m g.length
      .obtain⟨b2,o2,rfl,G⟩:=ab.o m B;(have G:=a.cell G;have G:wr.cell? ⟨b2,o2+m,none⟩=some (.string g[m]):=by simpa using G);have e1:=U g[m] (WG B);obtain⟨q,hq⟩:=ex (g[m]);rw[<-hq]at G e1;have HQ:Hid _:=hq;clear hq a D;go_wp2;refine⟨⟨m+1,n4+q.size,by omega,by go_num,by first|rw[wrap_add (by omega)]|exact W8 (Value.int .i64) (by omega),by omega,by omega,λi E V=>?_,r.o.1,r.o.2⟩,by simp[intOf];omega⟩;obtain h3|h3:=Wx i m;have:=P.o i h3 V;omega;(have:i=m:=by omega);subst this;rw[<-HQ.o];omega
      (have af:m=g.length:=by omega);subst af;clear a D;go_wp2;refine⟨⟨j+1,n4,by omega,by go_num,rfl,by omega,by omega,λi E V=>?_,r.o.1,r.o.2⟩,by simp[intOf];omega⟩;obtain h3|h3:=Wx i j;obtain⟨c1,X⟩:=R.o i h3 V;exact⟨c1,λp l=>by have:=X p l;omega⟩;(have:i=j:=by omega);subst this;rw[<-HP.o];refine⟨by omega,λp l=>?_⟩;obtain⟨i',Q,rfl⟩:=XO l;exact P.o i' Q Q
    (have O:j=t.bG.length:=by omega);subst O;clear c J;by_cases ay:1000<n3
    .have d9:decide ((1000:Int)<(n3:Int))=true:=WE (by omega);go_wp2;go_ret;exact⟨true,rfl,(λh=>by cases h),u.o.2⟩
    have d9:decide ((1000:Int)<(n3:Int))=false:=Wz (by omega)
    have hT:EZ t:=⟨⟨by omega,λp l=>by have:=H0.o.2 p l;omega⟩,⟨by omega,λx hx=>by
     obtain⟨c1,X,c3⟩:=H1.o.2 x hx;exact⟨by omega,λp l=>by have:=c3 p l;omega⟩⟩,⟨by omega,λg hg=>by
     obtain⟨i,E,rfl⟩:=XO hg;obtain⟨c1,X⟩:=R.o i E E;exact⟨by omega,λs hs=>by have:=X s hs;omega⟩⟩⟩
    have HT:Hid _:=hT;clear hT;go_wp2;go_ret;exact⟨false,rfl,λ_=>HT.o,u.o.2⟩
def TS{K:Nat->Prop}{v0 v1 v2:x6}{t:Table}(s:UV)(w:xv)(l:IsTable K w v0 v1 v2 t)(u:∀p∈t.az,1<=p.1.size/\p.1.size<=4/\p.2.size<=3)(x:du t=0)(H:s.size<=16):ac fs 18 #[.agg #[v0,v1,v2],.string s] w (.tuple #[.string (bs (aX t.az s.data.toList)),.i 0]):=by (have e20:=e20 L;have e51:=e51 L;have e52:=e52 L;have e53:=e53 L;obtain⟨w1,a⟩:=ex (w.alloc (.cells #[v0,v1,v2] 26));have m:ae w w1:=by rw[a];exact ae.alloc _ _);(have y:Below w.heap.size w w1:=by rw[a];exact aN _ _);(have ct:∀i v,(#[v0,v1,v2]:WZ)[i]? =some v->w1.cell? ⟨w.heap.size,i,none⟩=some v:=λi v h=>by rw[a];exact aC w _ 26 i v h);(have b:=ji L w1 (l.stays m);rw[x]at b;have f:=λd=>ep L false 2 d;have g:=λd=>dA L 0 0 d;have j:=λd (h:ae w1 d)=>sN L (v0:=v0) (v1:=v1) (v2:=v2) s d ((l.stays (m.trans h)).1) u (by omega);obtain⟨N,n⟩:=ex (w.heap.size);rw[<-n]at ct;have z:=ct 0 _ rfl;have A:=ct 1 _ rfl;have B:=ct 2 _ rfl;have C:Hid _:=y;have E:¬((s.size:Int)>16):=by omega);(have F:¬(16<s.size):=by omega);(have G:decide ((16:Int)<(s.size:Int))=false:=Wz (by omega);clear l u x m y ct;go_enter (n18 L),Tryz.ntmps18;go_upto_region 1 with fail;rw[<-a,<-n];clear a n;go_upto_region 4 with(first|(go_at_call 20;refine b.mono ?_;rintro e w2 ⟨rfl,c⟩)|(go_at_call 52;refine(f _).mono ?_;rintro e w3 ⟨rfl,rfl⟩)|(go_at_call 51;refine(g _).mono ?_;rintro e w4 ⟨rfl,rfl⟩)));have k:=(ae.below c).trans (ae.alloc w3 (.cells #[.i 0,.i 0] 29));have z:=k.cell z;have A:=k.cell A;have B:=k.cell B;have q:=j _ k;have o:=C.o.trans (c.mono C.o.size);have D:Hid _:=o.alloc o.size (.cells #[.i 0,.i 0] 29);clear b f g j k c o;go_wp2_with (go_at_call 53;refine q.mono ?_;rintro e I ⟨rfl,r⟩);(go_ret2);exact⟨rfl,D.o.trans (r.mono D.o.size)⟩
def Sw{K:Nat->Prop}{v0 v1 v2:x6}{t:Table}(k:Nat)(s:UV)(w:xv)(l:IsTable K w v0 v1 v2 t)(G:OkT t)(H:du t=0)(hs:s.size<=16)(Q:k<t.aI.length)(I:hZ w):ac fs 22 #[.agg #[v0,v1,v2],.i k,.string s] w (.tuple #[.string (bs (bS t k s.data.toList)),.i 0]):=by (have e20:=e20 L;have e51:=e51 L;have e52:=e52 L;have e63:=e63 L;have e64:=e64 L;obtain⟨u,z,rfl,R,S,_⟩:=id l.2.1;obtain⟨w1,a⟩:=ex (w.alloc (.cells #[v0,.slice u t.aI.length z,v2] 26));have m:ae w w1:=by rw[a];exact ae.alloc _ _);(have J:Below w.heap.size w w1:=by rw[a];exact aN _ _);(have ct:∀i v,(#[v0,.slice u t.aI.length z,v2]:WZ)[i]? =some v->w1.cell? ⟨w.heap.size,i,none⟩=some v:=λi v h=>by rw[a];exact aC w _ 26 i v h);(have A:(decide ((0:Int)<=(k:Int))&&decide ((k:Int)<=(t.aI.length:Int)-1))=true:=by rw[WE (by omega),WE (by omega)];rfl);(have T:IntKind.i64.wrap ((t.aI.length:Int)-1)=(t.aI.length:Int)-1:=wrap_i64 _ (by omega);have d:∀x:au w w1,Calls (Qs fs) 20 #[.agg #[v0,.slice u t.aI.length z,v2]] x.val λe w'=>e=.returned (.i 0)/\∃y:au w w1,w'=y.val:=λx=>by have h:=ji L x.val (l.stays (m.trans x.st));rw[H]at h;exact au.calls h);(have f:∀x:au w w1,Calls (Qs fs) 63 #[.i k,.i 0,.i ((t.aI.length:Int)-1)] x.val λe w'=>e=.returned (.bool true)/\∃y:au w w1,w'=y.val:=λx=>by have h:=dV fs (n63 L) k 0 ((t.aI.length:Int)-1) x.val;rw[A]at h;exact au.same h);(have b:∀x:au w w1,Calls (Qs fs) 52 #[.bool false,.i 6] x.val λe w'=>e=.returned (.i 0)/\∃y:au w w1,w'=y.val:=λx=>au.same (ep L false 6 x.val);have c:∀x:au w w1,Calls (Qs fs) 52 #[.bool false,.i 2] x.val λe w'=>e=.returned (.i 0)/\∃y:au w w1,w'=y.val:=λx=>au.same (ep L false 2 x.val);have B:=λn=>Gi L 0 0 0 n;have g:=λn (h:ae w1 n)=>Le L k s n (l.stays (m.trans h)) G (by omega) Q (I.stays (m.trans h));obtain⟨N,C⟩:=ex (w.heap.size);rw[<-C]at ct;have o:=ct 0 _ rfl;have p:=ct 1 _ rfl;have r:=ct 2 _ rfl;have U:=λx:au w w1=>x.cell o;have V:=λx:au w w1=>x.cell p;have W:=λx:au w w1=>x.cell r;have M:Hid _:=J;have X:¬((s.size:Int)>16):=by omega);(have Y:¬(16<s.size):=by omega);(have Z:decide ((16:Int)<(s.size:Int))=false:=Wz (by omega);clear l G H m J ct I;go_enter (n22 L),Tryz.ntmps22;go_upto_region 1 with fail;rw[<-a,<-C];clear a C;have U0:Hid _:=o;have U1:Hid _:=p;have U2:Hid _:=r;clear o p r;refine aZ (w0:=w) (w1:=w1) 14 (by kernel_rfl) (by kernel_rfl) (ae.refl _) M.o ?_;simp only[Xi,Xf,Xn,Xl];haveI D:Nonempty (au w w1):=⟨⟨w1,ae.refl _,M.o⟩⟩);(repeat (go_big_quiet_step (first|(go_at_call 20;exact d _)|(go_at_call 63;exact f _)|(go_at_call 52;first|exact b _|exact c _))));refine wpQuiet_nil ?_;rintro wy ⟨⟨_,O,E⟩,rfl⟩;have j:=O.trans (ae.alloc wy (.cells #[.i 0,.i 0,.i 0] 29));have o:=j.cell U0.o;have p:=j.cell U1.o;have r:=j.cell U2.o;have q:=g _ j;have P:Hid _:=E.alloc E.size (.cells #[.i 0,.i 0,.i 0] 29);clear d f b c g j O E U V W D;go_wp2_with (first|(go_at_call 51;refine(B _).mono ?_;rintro e w4 ⟨rfl,rfl⟩)|(go_at_call 64;refine q.mono ?_;rintro e w5 ⟨rfl,F⟩));(go_ret2);exact⟨rfl,P.o.trans (F.mono P.o.size)⟩
theorem Ak{c}{chk:List c->c->Int}:∀{seen l:List c},dq chk seen l=0->∀j (b:j<l.length),chk (seen++l.take j) l[j]=0
 |seen,[],_,j,b=>absurd b (WM _)
 |seen,x::xs,h,j,b=>by
  unfold dq at h;by_cases a:chk seen x≠0
  .rw[Wu a]at h
   exact absurd h a
  .rw[Wt a]at h
   have a:chk seen x=0:=by omega
   cases j with
   |zero=>simpa using a
   |succ j=>have:=Ak h j (by simpa using b);simpa using this
def eV{a}{b c}{chk:List a->a->Int}{l:List a}(h:aL b c chk l=0):(b<=l.length/\(l.length:Int)<=c)/\∀j (d:j<l.length),chk (l.take j) l[j]=0:=by unfold aL av at h;split at h;rename_i e;simp only[WI,WR]at e;exact⟨e,λj d=>by simpa using Ak h j d⟩;cases h
def kA{a}{c b}{chk:List a->a->Int}{l:List a}(h:aL c b chk l=0){x}(d:x∈l):∃seen,chk seen x=0:=by obtain⟨i,b,rfl⟩:=XO d;exact⟨_,(eV h).2 i b⟩
def nB{s a hi}(h:bg s a hi=true):a<=s.size/\(s.size:Int)<=hi:=by unfold bg av at h;simp only[WI,WR]at h;exact h.1
def E0{t}(h:du t=0):aL 0 12 letterF t.az=0/\aL 0 3 dJ t.aI=0/\aL 0 4 iC t.bG=0:=by unfold du at h;simp only[]at h;split at h;rename_i a;exact absurd h a;rename_i b;split at h;rename_i a;exact absurd h a;rename_i c;exact⟨by simpa using b,by simpa using c,h⟩
def Qk{t}(h:du t=0):OkT t:=by (obtain⟨i,j,k⟩:=E0 h;have l:=(eV i).1;have m:=(eV j).1;have n:=(eV k).1;have a:∀x∈t.aI,aL 0 5 eF x.bd=0:=λx b=>by obtain⟨seen,e⟩:=kA j b;unfold dJ at e;split at e;cases e;split at e;cases e;exact e);refine⟨λp d=>?_,by omega,λx b p d=>?_,λx b=>?_,by omega,by omega⟩;obtain⟨seen,e⟩:=kA i d;unfold letterF at e;split at e;cases e;rename_i c;split at e;cases e;split at e;cases e;rename_i f;(have f:=nB (by simpa using f);have c:bz p.1 4=true:=by simpa using c);unfold bz av at c;simp only[WI,WR]at c;omega;obtain⟨seen,e⟩:=kA (a x b) d;unfold eF at e;split at e;cases e;rename_i g;simp only[Bool.not_eq_eq_eq_not,XW,X3,not_or,Zz,ne_eq,Decidable.not_not]at g;have c:=nB g.1;have f:=nB g.2;omega;have:=(eV (a x b)).1;omega
def nC(m:Mark):Prop:=m.name.size<=100/\m.word.size<=100/\m.aU.length<=40
def gI{w1:xv}{N:Nat}{a:WZ}(ct:∀i v,a[i]? =some v->w1.cell? ⟨N,i,none⟩=some v):Hid (∀b,Below w1.heap.size w1 b->∀i v,a[i]? =some v->b.cell? ⟨N,i,none⟩=some v):=λb c i v h=>(ae.below c).cell (ct i v h)
def dT(w:xv){cs:WZ}{ty}:∀w1,w1=w.alloc (.cells cs ty)->ae w w1/\Below w.heap.size w w1/\∀i v,cs[i]? =some v->w1.cell? ⟨w.heap.size,i,none⟩=some v:=λw1 h=>by subst h;exact⟨ae.alloc _ _,aN _ _,λi v h=>aC w _ ty i v h⟩
def Ql{K:Nat->Prop}{mc:WZ}{m:Mark}(w:xv)(k:bF K w mc m):Calls (Qs fs) 24 #[.agg mc] w λe w'=>∃z,e=.returned (.bool z)/\(z=false->nC m)/\Below w.heap.size w w':=by
 obtain⟨p,rfl,a⟩:=k;obtain⟨l,c,rfl,_⟩:=id a;obtain⟨w1,b⟩:=ex (w.alloc (.cells #[.string m.name,.string m.word,.slice l m.aU.length c,.i m.day,.bool m.known] 38));obtain⟨n,i,ct⟩:=dT w w1 b;obtain⟨N,g⟩:=ex (w.heap.size);rw[<-g]at ct;have q:=ct 0 _ rfl;have r:=ct 1 _ rfl;have s:=ct 2 _ rfl;have d:Hid _:=i;clear n i ct a;go_enter (n24 L),Tryz.ntmps24;go_upto_region 1 with fail;rw[<-b,<-g];clear b g;by_cases f:100<m.name.size
 .have d0:decide ((100:Int)<(m.name.size:Int))=true:=WE (by omega);clear f;go_wp2;go_ret;exact⟨true,rfl,(λh=>by cases h),d.o⟩
 have d0:decide ((100:Int)<(m.name.size:Int))=false:=Wz (by omega);by_cases a1:100<m.word.size
 .have d1:decide ((100:Int)<(m.word.size:Int))=true:=WE (by omega);clear f a1;go_wp2;go_ret;exact⟨true,rfl,(λh=>by cases h),d.o⟩
 have d1:decide ((100:Int)<(m.word.size:Int))=false:=Wz (by omega);by_cases j:40<m.aU.length
 .have d2:decide ((40:Int)<(m.aU.length:Int))=true:=WE (by omega);clear f a1 j;go_wp2;go_ret;exact⟨true,rfl,(λh=>by cases h),d.o⟩
 have d2:decide ((40:Int)<(m.aU.length:Int))=false:=Wz (by omega);have o:nC m:=⟨by omega,by omega,by omega⟩
 clear f a1 j;go_wp2;go_ret;exact⟨false,rfl,(λ_=>o),d.o⟩
def Nl(k:Int)(w:xv):ap fs 68 #[.i k] w (.bool (av k 0 5)):=by
 by_cases a:0<=k
 .by_cases b:k<=5
  ·(have e:av k 0 5=true:=by unfold av;rw[WE a,WE b];rfl);have d0:decide (0<=k)=true:=WE a;have d1:decide (k<=5)=true:=WE b;rw[e];clear e a b;go_enter (n68 L),Tryz.ntmps68;go_wp2;go_ret;exact⟨rfl,rfl⟩
  have e:av k 0 5=false:=by unfold av;rw[WE a,Wz b];rfl
  have d0:decide (0<=k)=true:=WE a;have d1:decide (k<=5)=false:=Wz b;rw[e];clear e a b;go_enter (n68 L),Tryz.ntmps68;go_wp2;go_ret;exact⟨rfl,rfl⟩
 have e:av k 0 5=false:=by unfold av;rw[Wz a];rfl
 have d0:decide (0<=k)=false:=Wz a;rw[e];clear e a;go_enter (n68 L),Tryz.ntmps68;go_wp2;go_ret;exact⟨rfl,rfl⟩
def Al(m:Mark):bL m=if !dZ m.name then 4 else if !m.word.data.toList.isEmpty&& !bz m.word 16 then 3 else if aL 0 5 codeF m.aU≠0 then aL 0 5 codeF m.aU else if !av m.day 0 99999 then 1 else 0:=rfl
def uB{K:Nat->Prop}{mc:WZ}{m:Mark}(w:xv)(hm:bF K w mc m)(M:nC m):Calls (Qs fs) 69 #[.agg mc] w λe w'=>e=.returned (.i (bL m))/\Below w.heap.size w w':=by
 obtain⟨vf,rfl,t⟩:=hm;have Rb:=Rb L;have Ra:=Ra L;have e60:=e60 L;obtain⟨ao,c,rfl,an,hc,ar⟩:=id t;clear ar;obtain⟨w1,C⟩:=ex (w.alloc (.cells #[.string m.name,.string m.word,.slice ao m.aU.length c,.i m.day,.bool m.known] 38));obtain⟨S1,B1,ct⟩:=dT w w1 C;obtain⟨N,hN⟩:=ex (w.heap.size);rw[<-hN]at ct;obtain⟨nm,D⟩:=ex (m.name);obtain⟨wd,E⟩:=ex (m.word);obtain⟨l,hl⟩:=ex (m.aU);obtain⟨O,P⟩:=ex (m.day);have hM:=Al m;obtain⟨s0,s1,s2⟩:=M;rw[<-D,<-E,<-hl,<-P]at hM;rw[<-D]at s0;rw[<-E]at s1;rw[<-hl]at s2 t an;rw[<-D,<-E,<-hl,<-P]at ct C⊢;clear D E hl P;have u0:=ct 0 _ rfl;have u1:=ct 1 _ rfl;have u2:=ct 2 _ rfl;have u3:=ct 3 _ rfl;have u:=Lx L nm w1 (by omega);obtain⟨z0,aa⟩:=ex (dZ nm);rw[<-aa]at u hM;have HB:Hid _:=B1;have HR:Hid (aB K 1 dh w1 (.slice ao l.length c) l):=t.ints S1;have d:Hid _:=hM;clear S1 B1 ct t hM aa;go_enter (n69 L),Tryz.ntmps69;go_upto_region 1 with fail;rw[<-C,<-hN];clear C hN;go_wp2_with fail
 refine u.mono ?_;clear u;rintro e w2 ⟨rfl,Q⟩;have F:Hid (Below w.heap.size w w2):=HB.o.trans (Q.mono HB.o.size);have Z:=ae.below Q;have u0:=Z.cell u0;have u1:=Z.cell u1;have u2:=Z.cell u2;have u3:=Z.cell u3;have HR:Hid (aB K 1 dh w2 (.slice ao l.length c) l):=HR.o.ints Z;clear Q Z;cases z0 with
 |false=>have e:bL m=4:=d.o.trans rfl;have G:Hid _:=e;clear e d;go_wp2;go_ret;exact⟨by rw[G.o];rfl,F.o⟩
 |true=>
 have hE:wd.toList.isEmpty=wd.data.toList.isEmpty:=ze wd;obtain⟨z1,R⟩:=ex (wd.data.toList.isEmpty);obtain⟨z2,S⟩:=ex (bz wd 16);have i:=λwx=>wX L wd 16 wx (by omega);rw[<-R]at hE;simp only[<-S]at i;have ab:bL m=if !z1&& !z2 then 3 else if aL 0 5 codeF l≠0 then aL 0 5 codeF l else if !av O 0 99999 then 1 else 0:=by rw[R,S];exact d.o.trans rfl
 clear d R S;have d:Hid _:=ab;clear ab;by_cases T:z1=false/\z2=false
 .obtain⟨rfl,rfl⟩:=T;have e:bL m=3:=d.o.trans rfl;have G:Hid _:=e;clear e d;go_wp2_with (go_at_call 110;refine(i _).mono ?_;rintro e w' ⟨rfl,a⟩;rw[a];clear a);go_ret;exact⟨by rw[G.o];rfl,F.o⟩
 have ad:bL m=if aL 0 5 codeF l≠0 then aL 0 5 codeF l else if !av O 0 99999 then 1 else 0:=d.o.trans (Wt (by cases z1<;>cases z2<;>simp_all))
 clear d;have d:Hid _:=ad;clear ad;have af:z1=true\/z1=false/\z2=true:=by cases z1<;>cases z2<;>simp_all
 by_cases h5:5<l.length
 .have g:(5:Int)<(l.length:Int):=by omega
  have e:bL m=2:=by (have:aL 0 5 codeF l=2:=by unfold aL av;rw[Wz (p:=(l.length:Int)<=5) (by omega),YA];rfl);rw[d.o,this];rfl
  have G:Hid _:=e;clear e d h5 T s0 s1 s2;obtain rfl|⟨rfl,rfl⟩:=af;all_goals (
   go_wp2_with (go_at_call 110;refine(i _).mono ?_;rintro e w' ⟨rfl,a⟩;rw[a];clear a)
   go_ret;exact⟨by rw[G.o];rfl,F.o⟩)
 have g:decide ((5:Int)<(l.length:Int))=false:=Wz (by omega);have e:aL 0 5 codeF l=dq codeF [] l:=by unfold aL av;rw[WE (by omega),WE (by omega)];rfl
 have ag:bL m=if dq codeF [] l≠0 then dq codeF [] l else if !av O 0 99999 then 1 else 0:=by rw[<-e];exact d.o
 clear d;have d:Hid _:=ag;have HU:Hid (w2.cell? ⟨N,2,none⟩=some (.slice ao l.length c)/\w2.cell? ⟨N,3,none⟩=some (.i O)):=⟨u2,u3⟩
 have HS:Hid (l.length<=5):=by rw[Hid];omega
 clear ag e h5 T s0 s1 s2;obtain rfl|⟨rfl,rfl⟩:=af;all_goals (
  go_upto_region 7 with((go_at_call 110;refine(i _).mono ?_;rintro e w' ⟨rfl,a⟩;rw[a];clear a))
  clear i u0 u1 u2 u3;go_wp2;go_loopw [3] (λs wr=>∃k:Nat,k<=l.length/\s=.i k/\(∀j (_:j<k) (h':j<l.length),codeF (l.take j) l[j]=0)/\ae w2 wr/\Below w.heap.size w wr) (λs _=>l.length-(intOf s).toNat)
  case atStart=>exact⟨0,WB _,rfl,λj h=>absurd h (WM _),ae.refl _,F.o⟩
  case round=>
   obtain⟨k,hk,rfl,hf,q,hb⟩:=hrel;have HF:Hid _:=hf;have v:Hid _:=(⟨q,hb⟩:_/\Below w.heap.size w wr)
   have y2:=q.cell HU.o.1;have y3:=q.cell HU.o.2;clear hf hb;obtain y|hge:=Wx k l.length
   .obtain⟨aK,c',e',_,_,_,r⟩:=HR.o
    cases e';obtain⟨b,off,rfl,B⟩:=r k y;rw[Xj]at B;have B:wr.cell? ⟨b,off+k,none⟩=some (.i l[k]):=q.cell B;have HC:Hid (∀j (hj:j<l.length),wr.cell? ⟨b,off+j,none⟩=some (.i l[j])):=λj hj=>by obtain⟨b',o',e',hy⟩:=r j hj;cases e';rw[Xj]at hy;exact q.cell hy
    clear r;obtain⟨n,hn⟩:=ex (l[k]);rw[<-hn]at B;have o:=λwx=>yB L n 0 999 wx;obtain⟨z3,U⟩:=ex (av n 0 999);simp only[<-U]at o;have HN:Hid _:=hn;have V:Hid _:=U;have aM:(k:Int)<(l.length:Int):=by omega
    clear hn U q;cases z3 with
    |false=>
     have e:bL m=1:=by have:=fR (chk:=codeF) y HF.o (f:=1) (by unfold codeF;rw[<-HN.o,<-V.o];rfl) (by decide);rw[d.o,this];rfl
     have G:Hid _:=e;clear e d;go_wp2_with (go_at_call 60;refine(o _).mono ?_;rintro e w' ⟨rfl,a⟩;rw[a];clear a)
     go_ret;exact⟨by rw[G.o];rfl,v.o.2⟩
    |true=>
    cases k with
    |zero=>
     have B:wr.cell? ⟨b,off,none⟩=some (.i n):=B;have M:∀j (_:j<0+1) (h':j<l.length),codeF (l.take j) l[j]=0:=fS HF.o y (by rw[Lg,<-HN.o,<-V.o];rfl);have W:Hid _:=M;clear M;go_upto_region 12 with((go_at_call 60;refine(o _).mono ?_;rintro e w' ⟨rfl,a⟩;rw[a];clear a))
     refine aO (w0:=w) (w1:=wr) (by kernel_rfl) (by kernel_rfl) (ae.refl _) v.o.2 ?_;haveI z:Nonempty (au w wr):=⟨⟨wr,ae.refl _,v.o.2⟩⟩
     repeat (go_big_quiet_step (fail))
     refine wpQuiet_nil ?_;rintro wz ⟨⟨_,I,J⟩,rfl⟩;have X:Hid _:=(⟨v.o.1.trans I,J⟩:_/\_)
     clear z I J y2 y3 B;go_wp2;exact⟨⟨0+1,by omega,by go_num,W.o,X.o.1,X.o.2⟩,by simp[intOf];omega⟩
    |succ k=>
     have ah:k<l.length:=by omega
     have ak:=HC.o k ah;obtain⟨p,hp⟩:=ex (l[k]);rw[<-hp]at ak;have l0:∀x:au w wr,x.val.cell? ⟨b,off+(k+1),none⟩=some (.i n):=λx=>x.st.cell B;have l1:∀x:au w wr,x.val.cell? ⟨b,off+k,none⟩=some (.i p):=λx=>x.st.cell ak;have l2:∀x:au w wr,x.val.cell? ⟨N,2,none⟩=some (.slice (some ⟨b,off,none⟩) l.length c):=λx=>x.st.cell y2;have aR:(k:Int)<(l.length:Int):=by omega
     have a1:(k:Int)+1>0:=by omega
     have A:=yo l k ah n;rw[<-hp,<-V.o]at A;have HW:Hid _:=A;clear A hp;by_cases H:n<=p
     .have e:bL m=7:=by have:=fR (chk:=codeF) y HF.o (f:=7) (by rw[<-HN.o,HW.o,WE H];rfl) (by decide);rw[d.o,this];rfl
      have G:Hid _:=e;clear e d;go_upto_region 12 with((go_at_call 60;refine(o _).mono ?_;rintro e w' ⟨rfl,a⟩;rw[a];clear a))
      refine aO (w0:=w) (w1:=wr) (by kernel_rfl) (by kernel_rfl) (ae.refl _) v.o.2 ?_;haveI z:Nonempty (au w wr):=⟨⟨wr,ae.refl _,v.o.2⟩⟩
      repeat (go_big_quiet_step (fail))
      refine wpQuiet_nil ?_;rintro wz ⟨⟨_,I,J⟩,rfl⟩;have X:Hid _:=(⟨v.o.1.trans I,J⟩:_/\_)
      clear z I J y2 y3 B;go_wp2;go_ret;exact⟨by rw[G.o];rfl,X.o.2⟩
     .have M:∀j (_:j<(k+1)+1) (h':j<l.length),codeF (l.take j) l[j]=0:=fS HF.o y (by rw[<-HN.o,HW.o,Wz H];rfl)
      have W:Hid _:=M;have a6:decide (n<=p)=false:=Wz H;clear M H;go_upto_region 12 with((go_at_call 60;refine(o _).mono ?_;rintro e w' ⟨rfl,a⟩;rw[a];clear a))
      refine aO (w0:=w) (w1:=wr) (by kernel_rfl) (by kernel_rfl) (ae.refl _) v.o.2 ?_;haveI z:Nonempty (au w wr):=⟨⟨wr,ae.refl _,v.o.2⟩⟩
      repeat (go_big_quiet_step (fail))
      refine wpQuiet_nil ?_;rintro wz ⟨⟨_,I,J⟩,rfl⟩;have X:Hid _:=(⟨v.o.1.trans I,J⟩:_/\_)
      clear z I J y2 y3 B;go_wp2;exact⟨⟨(k+1)+1,by omega,by go_num,W.o,X.o.1,X.o.2⟩,by simp[intOf];omega⟩
   .have ax:k=l.length:=by omega
    subst ax;have e0:dq codeF [] l=0:=fI λj hj=>HF.o j hj hj;have Y:bL m=if !av O 0 99999 then 1 else 0:=d.o.trans (by rw[e0];rfl)
    have o:=λwx=>yB L O 0 99999 wx;obtain⟨z4,al⟩:=ex (av O 0 99999);simp only[<-al]at o Y;have ay:Hid _:=Y;clear Y d al q e0;cases z4;all_goals (
     go_wp2_with (go_at_call 60;refine(o _).mono ?_;rintro e w' ⟨rfl,a⟩;rw[a];clear a)
     go_ret;exact⟨by rw[ay.o];rfl,v.o.2⟩))
def Qm(j:Int)(r:jd)(w:xv):ac fs 79 #[.i j,.agg #[.i r.kind,.i r.least,.i r.plain,.i r.known]] w (.i (eG [] r)):=by
 have e66:=e66 L;have e63:=e63 L;have e52:=e52 L;have k:Hid (eG [] r=if !av r.kind 0 5|| !av r.least 1 100|| !av r.plain 0 9|| !av r.known 0 9 then 1 else 0):=rfl;obtain⟨w1,b⟩:=ex (w.alloc (.cells #[.i r.kind,.i r.least,.i r.plain,.i r.known] 69));have s:Below w.heap.size w w1:=by rw[b];exact aN _ _
 have ct:∀i v,(#[.i r.kind,.i r.least,.i r.plain,.i r.known]:WZ)[i]? =some v->w1.cell? ⟨w.heap.size,i,none⟩=some v:=λi v h=>by rw[b];exact aC w _ 69 i v h
 obtain⟨N,d⟩:=ex (w.heap.size);have t:=ct 0 _ rfl;have u:=ct 1 _ rfl;have x:=ct 2 _ rfl;have y:=ct 3 _ rfl;rw[<-d]at t u x y;have l:Hid _:=s;have c:=λwx=>zb L r.kind wx;have f:∀wx,ap fs 63 #[.i r.least,.i 1,.i 100] wx (.bool (av r.least 1 100)):=λwx=>dV fs (n63 L) r.least 1 100 wx;have g:∀wx,ap fs 63 #[.i r.plain,.i 0,.i 9] wx (.bool (av r.plain 0 9)):=λwx=>dV fs (n63 L) r.plain 0 9 wx;have m:∀wx,ap fs 63 #[.i r.known,.i 0,.i 9] wx (.bool (av r.known 0 9)):=λwx=>dV fs (n63 L) r.known 0 9 wx;obtain⟨z,n⟩:=ex (av r.kind 0 5);obtain⟨A,o⟩:=ex (av r.least 1 100);obtain⟨B,p⟩:=ex (av r.plain 0 9);obtain⟨C,q⟩:=ex (av r.known 0 9);rw[<-n]at c;rw[<-o]at f;rw[<-p]at g;rw[<-q]at m;rw[<-n,<-o,<-p,<-q]at k;clear n o p q ct s;cases z with
 |false=>(have HV:Hid (eG [] r=1):=by rw[Hid,k.o];rfl);have a:=λwx=>ep L true 1 wx;simp only[WL,WW,WU]at a;go_enter (n79 L),Tryz.ntmps79;go_upto_region 1 with fail;rw[<-b,<-d];clear b d;go_wp2_with (first|(go_at_call 66;refine(c _).mono ?_;clear c;rintro e w2 ⟨rfl,rfl⟩)|(go_at_call 52;refine(a _).mono ?_;rintro e w3 ⟨rfl,rfl⟩));go_ret;exact⟨by rw[HV.o];rfl,l.o⟩
 |true=>
  cases A with
  |false=>(have HV:Hid (eG [] r=1):=by rw[Hid,k.o];rfl);have a:=λwx=>ep L true 1 wx;simp only[WL,WW,WU]at a;go_enter (n79 L),Tryz.ntmps79;go_upto_region 1 with fail;rw[<-b,<-d];clear b d;go_wp2_with (first|(go_at_call 66;refine(c _).mono ?_;clear c;rintro e w2 ⟨rfl,rfl⟩)|(go_at_call 63;refine(f _).mono ?_;clear f;rintro e w2 ⟨rfl,rfl⟩)|(go_at_call 52;refine(a _).mono ?_;rintro e w3 ⟨rfl,rfl⟩));go_ret;exact⟨by rw[HV.o];rfl,l.o⟩
  |true=>
   cases B with
   |false=>(have HV:Hid (eG [] r=1):=by rw[Hid,k.o];rfl);have a:=λwx=>ep L true 1 wx;simp only[WL,WW,WU]at a;go_enter (n79 L),Tryz.ntmps79;go_upto_region 1 with fail;rw[<-b,<-d];clear b d;go_wp2_with (first|(go_at_call 66;refine(c _).mono ?_;clear c;rintro e w2 ⟨rfl,rfl⟩)|(go_at_call 63;refine(f _).mono ?_;clear f;rintro e w2 ⟨rfl,rfl⟩)|(go_at_call 63;refine(g _).mono ?_;clear g;rintro e w2 ⟨rfl,rfl⟩)|(go_at_call 52;refine(a _).mono ?_;rintro e w3 ⟨rfl,rfl⟩));go_ret;exact⟨by rw[HV.o];rfl,l.o⟩
   |true=>
    cases C with
    |false=>(have HV:Hid (eG [] r=1):=by rw[Hid,k.o];rfl);have a:=λwx=>ep L true 1 wx;simp only[WL,WW,WU]at a;go_enter (n79 L),Tryz.ntmps79;go_upto_region 1 with fail;rw[<-b,<-d];clear b d;go_wp2_with (first|(go_at_call 66;refine(c _).mono ?_;clear c;rintro e w2 ⟨rfl,rfl⟩)|(go_at_call 63;refine(f _).mono ?_;clear f;rintro e w2 ⟨rfl,rfl⟩)|(go_at_call 63;refine(g _).mono ?_;clear g;rintro e w2 ⟨rfl,rfl⟩)|(go_at_call 63;refine(m _).mono ?_;clear m;rintro e w2 ⟨rfl,rfl⟩)|(go_at_call 52;refine(a _).mono ?_;rintro e w3 ⟨rfl,rfl⟩));go_ret;exact⟨by rw[HV.o];rfl,l.o⟩
    |true=>(have HV:Hid (eG [] r=0):=by rw[Hid,k.o];rfl);have a:=λwx=>ep L false 1 wx;simp only[WL,WW,WU]at a;go_enter (n79 L),Tryz.ntmps79;go_upto_region 1 with fail;rw[<-b,<-d];clear b d;go_wp2_with (first|(go_at_call 66;refine(c _).mono ?_;clear c;rintro e w2 ⟨rfl,rfl⟩)|(go_at_call 63;refine(f _).mono ?_;clear f;rintro e w2 ⟨rfl,rfl⟩)|(go_at_call 63;refine(g _).mono ?_;clear g;rintro e w2 ⟨rfl,rfl⟩)|(go_at_call 63;refine(m _).mono ?_;clear m;rintro e w2 ⟨rfl,rfl⟩)|(go_at_call 52;refine(a _).mono ?_;rintro e w3 ⟨rfl,rfl⟩));go_ret;exact⟨by rw[HV.o];rfl,l.o⟩
def SD(j n:Int)(w:xv):ap fs 83 #[.i j,.i n] w (.i (mY [] n)):=by have e63:=e63 L;have e52:=e52 L;have c:Hid (mY [] n=if !av n 0 9 then 1 else 0):=rfl;have b:∀wx,ap fs 63 #[.i n,.i 0,.i 9] wx (.bool (av n 0 9)):=λwx=>dV fs (n63 L) n 0 9 wx;obtain⟨f,d⟩:=ex (av n 0 9);rw[<-d]at b c;clear d;cases f with|true=>have a:=λwx=>ep L false 1 wx;go_enter (n83 L),Tryz.ntmps83;go_wp2_with (first|(go_at_call 63;refine(b _).mono ?_;clear b;rintro e w2 ⟨rfl,rfl⟩)|(go_at_call 52;refine(a _).mono ?_;rintro e w3 ⟨rfl,rfl⟩));go_ret;exact⟨by rw[c.o];rfl,rfl⟩|false=>have a:=λwx=>ep L true 1 wx;go_enter (n83 L),Tryz.ntmps83;go_wp2_with (first|(go_at_call 63;refine(b _).mono ?_;clear b;rintro e w2 ⟨rfl,rfl⟩)|(go_at_call 52;refine(a _).mono ?_;rintro e w3 ⟨rfl,rfl⟩));go_ret;exact⟨by rw[c.o];rfl,rfl⟩
def KD(a:Bool)(m:Mark):Int:=if bL m≠0 then bL m else if a then 5 else 0
def Qn{K:Nat->Prop}(j:Int)(m:Mark)(S:x6)(T k:Nat)(p:UV->Bool)(w:xv)(b:aB K 1 dh w S m.aU)(q:w.cell? ⟨T,0,none⟩=some (.map (some k)))(z:bX w k p):Calls (Qs fs) 81 #[.i j,.agg #[.string m.name,.string m.word,S,.i m.day,.bool m.known],.pointer (some ⟨T,0,none⟩)] w λe w'=>e=.returned (.i (KD (p m.name) m))/\bX w' k (λt=>p t||decide (t=m.name))/\(∀B,B<=k->Below B w w')/\ae w w':=by (have e67:=e67 L;have e52:=e52 L;have e51:=e51 L;obtain⟨C,D,rfl,_⟩:=id b;obtain⟨w1,c⟩:=ex (w.alloc (.cells #[.string m.name,.string m.word,.slice C m.aU.length D,.i m.day,.bool m.known] 38));have A:ae w w1:=by rw[c];exact ae.alloc _ _);(have E:Below w.heap.size w w1:=by rw[c];exact aN _ _);(have ct:∀i v,(#[.string m.name,.string m.word,.slice C m.aU.length D,.i m.day,.bool m.known]:WZ)[i]? =some v->w1.cell? ⟨w.heap.size,i,none⟩=some v:=λi v h=>by rw[c];exact aC w _ 38 i v h);(obtain⟨N,F⟩:=ex (w.heap.size);have l:=z.keep (E.block k z.lt);have r:=vz fs l m.name;obtain⟨w2,G,s,u,a⟩:=lW fs l m.name;have U:=A.cell q;have H:=ct 0 _ rfl;have I:=ct 1 _ rfl;have J:=ct 2 _ rfl;have M:=ct 3 _ rfl;have O:=ct 4 _ rfl;rw[<-F]at H I J M O;obtain⟨g,d⟩:=ex (p m.name);rw[<-d]at r;have V:Hid _:=d;have P:Hid ((∀B,B<=k->Below B w w2)/\ae w w2/\bX w2 k (λt=>p t||decide (t=m.name))):=⟨λB W=>(E.mono (by have:=z.lt;omega)).trans (u B W),A.trans a,s⟩);(have X:=a.cell H;have Y:=a.cell I;have Z:=a.cell J;have aa:=a.cell M;have ab:=a.cell O;have n:=iU L (mc:=#[.string m.name,.string m.word,.slice C m.aU.length D,.i m.day,.bool m.known]) w2 ⟨_,rfl,b.ints (A.trans a)⟩;have HV:Hid (KD g m=if bL m≠0 then bL m else if g=true then 5 else 0):=rfl;obtain⟨fa,x⟩:=ex (bL m);rw[<-x]at n HV;have o:=λQ=>ep L g 5 Q;obtain⟨fb,hfb⟩:∃f:Int,f=if g=true then 5 else 0:=⟨_,rfl⟩);rw[<-hfb]at o HV;have R:=λQ=>dA L fa fb Q;rw[<-HV.o]at R;clear x hfb d HV;go_enter (n81 L),Tryz.ntmps81;go_upto_region 1 with fail;rw[<-c,<-F];clear c F ct A E l s u a z q b;go_upto_region 3 with fail;clear r G U H I J M O;go_wp2_with (first|(go_at_call 67;refine n.mono ?_;clear n;rintro e w3 ⟨rfl,y⟩)|(go_at_call 52;refine(o _).mono ?_;clear o;rintro e w4 ⟨rfl,rfl⟩)|(go_at_call 51;refine(R _).mono ?_;clear R;rintro e w5 ⟨rfl,rfl⟩));go_ret;refine⟨by rw[V.o];rfl,?_⟩;exact P.o.1|>λh=>lX h P.o.2.1 P.o.2.2 (y.alloc y.size _)
end Go.Proofs

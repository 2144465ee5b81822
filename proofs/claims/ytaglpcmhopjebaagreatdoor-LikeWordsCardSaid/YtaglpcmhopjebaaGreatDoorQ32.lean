import Derived.Test.YtaglpcmhopjebaaGreatDoorQ31
set_option linter.all false
set_option maxRecDepth 100000
set_option maxHeartbeats 20000000
namespace Go.Proofs
open Go.Tm Go.RowKit
variable {fs:Array Func} (L:bU fs)
def eE(k:Nat):Nat:=if k=0 then 230 else if k=1 then 232 else if k=2 then 233 else if k=3 then 236 else if k=4 then 238 else 240
def hU(w:World):Prop:=∀k,k<6->w.cell? ⟨0,k*2+1,none⟩=some (.func (.func (eE k)) #[] #[])
def hU.stays{w w'}(h:hU w)(a:ae w w'):hU w':=λk b=>a.cell (h k b)
def hZ(fs:Array Func)(k:Nat):Prop:=∀(K:Nat->Prop) (v0 v1 v2:Value) (t:Table) (m1 m2:Array Value) (one two:Mark) (w:World),IsTable K w v0 v1 v2 t->OkT t->de K w m1 one->de K w m2 two->OkM one->OkM two->gJ w->Calls (Qs fs) (eE k) #[.agg #[v0,v1,v2],.agg m1,.agg m2] w λe w'=>e=.returned (.int .i64 (bF t k one two))/\Below w.heap.size w w'
def O5(md:Region.Mode)(ops:Array Oper):Bool:=(List.range ops.size).all λk=>match ops[k]? with
 |some o=>o.after.all λe=> !Region.binds md e||decide (e.on<k)
 |none=>true
theorem me{md ops s}(a:s.size=ops.size)(f:O5 md ops=true)(g:Region.ready md ops s=[]):∀(n k),k<n->k<ops.size->s.getD k false=true
 |0,k,h,_=>absurd h (Sm _)
 |n+1,k,h,b=>by
  cases i:s.getD k false with
  |true=>rfl
  |false=>
   exfalso;have c:k<s.size:=by omega
   have o:s.getD k true=false:=by rw[Tc,Sv c]at i⊢;exact i
   have j:k∈Region.ready md ops s:=mem_ready.2 ⟨o,ops[k],Sv b,λe p d=>by have l:=SM.1 f k (UZ.2 b);rw[Sv b]at l;have m:=T4.1 l e p;simp only[d,TD,UY]at m;have q:e.on<k:=SO m;exact me a f g n e.on (by omega) (by omega)⟩
   rw[g]at j;cases j
def sM{w:World}{b x y z a1 a c}(n0:w.cell? ⟨b,0,none⟩=some a1)(d:w.cell? ⟨b,1,none⟩=some a)(f:w.cell? ⟨b,2,none⟩=some c):
 (((w.setCell ⟨b,0,none⟩ x).setCell ⟨b,1,none⟩ y).setCell ⟨b,2,none⟩ z).cell? ⟨b,0,none⟩=some x/\
 (((w.setCell ⟨b,0,none⟩ x).setCell ⟨b,1,none⟩ y).setCell ⟨b,2,none⟩ z).cell? ⟨b,1,none⟩=some y/\
 (((w.setCell ⟨b,0,none⟩ x).setCell ⟨b,1,none⟩ y).setCell ⟨b,2,none⟩ z).cell? ⟨b,2,none⟩=some z:=by
 have e:∀i j:Nat,i≠j->(⟨b,i,none⟩:Addr)≠⟨b,j,none⟩:=λi j h g=>h (by cases g;rfl);refine⟨?_,?_,?_⟩
 ·rw[World.cell?_setCell_other _ _ _ _ (e 2 0 (by decide)),World.cell?_setCell_other _ _ _ _ (e 1 0 (by decide))]
  exact World.cell?_setCell_same' _ _ _ (by rw[n0];rfl)
 ·rw[World.cell?_setCell_other _ _ _ _ (e 2 1 (by decide))]
  exact World.cell?_setCell_same' _ _ _ (by rw[World.cell?_setCell_other _ _ _ _ (e 0 1 (by decide)),d];rfl)
 ·exact World.cell?_setCell_same' _ _ _ (by rw[World.cell?_setCell_other _ _ _ _ (e 1 2 (by decide)),World.cell?_setCell_other _ _ _ _ (e 0 2 (by decide)),f];rfl)
def eF{s:Array Bool}{i}(h:i<s.size):(s.setIfInBounds i true).getD i false=true:=by simp[h]
def Lc:hZ fs 0:=λK v0 v1 v2 t m1 m2 one two w a b c d e f g=>NC L w a b c d e f
def O6:hZ fs 1:=λK v0 v1 v2 t m1 m2 one two w a b c d e f g=>ND L w a b c d e f g
def O7:hZ fs 2:=λK v0 v1 v2 t m1 m2 one two w a b c d e f g=>NF L w a b c d e f
def Ld:hZ fs 3:=λK v0 v1 v2 t m1 m2 one two w a b c d e f g=>NI L w a b c d e f
def Le(k:Nat)(b:k<6):∀a w,(callFunc (eE k) a).run (Qs fs) w=.ok (.enter (eE k) a) w:=by
 match k,b with
 |0,_=>exact Rv L
 |1,_=>exact Rx L
 |2,_=>exact Ry L
 |3,_=>exact Rz L
 |4,_=>exact RA L
 |5,_=>exact RB L
def Lf{K:Nat->Prop}{sc:Array Value}{c:Case}(i k:Nat)(w:World)(hc:bI K w sc c)(M:OkC c)(hi:i<c.marks.length)(hk:k<c.rules.length)(bA:i<c.kin.length)(t:hZ fs c.rules[k].kind.toNat)(hm:gJ w)(bB:hU w):
 Calls (Qs fs) 84 #[.agg sc,.int .i64 i,.agg #[.int .i64 c.rules[k].kind,.int .i64 c.rules[k].least,.int .i64 c.rules[k].plain,.int .i64 c.rules[k].known]] w λe w'=>e=.returned (.tuple #[B9 (lV c c.marks[i] c.kin[i] c.rules[k]),.int .i64 (bF c.table c.rules[k].kind c.new c.marks[i])])/\Below w.heap.size w w':=by
 obtain⟨v0,v1,v2,vr,vf,vm,vk,rfl,ht,hr,hf,cn,z⟩:=hc;obtain⟨r1,r2,r3,r4,r5,r6,r7,r8⟩:=M.rules _ (Sg hk);obtain⟨k1,k2⟩:=M.kin _ (Sg bA);have A:=M.marks _ (Sg hi);obtain⟨am,cm,rfl,_,_,_,gm⟩:=cn;obtain⟨bm,om,rfl,x0,x1,xf,x3,x4⟩:=gm i hi;obtain⟨dp,bo,xf⟩:=xf;obtain⟨af,cf,rfl,_⟩:=id xf;obtain⟨ak,ck,rfl,_,_,_,gk⟩:=z;obtain⟨G,f,rfl,z0⟩:=gk i bA;rw[Tn]at z0;have z0:w.cell? ⟨G,f+i,none⟩=some (.int .i64 c.kin[i]):=z0;obtain⟨m,bC⟩:=ex (c.marks[i]);obtain⟨r,b0⟩:=ex (c.rules[k]);obtain⟨q,b5⟩:=ex (c.kin[i]);rw[<-bC]at x0 x1 bo xf x3 x4 A⊢;rw[<-b0]at r1 r2 r3 r4 r5 r6 r7 r8 t⊢;rw[<-b5]at z0 k1 k2⊢;obtain⟨kn,z⟩:∃kn:Nat,r.kind=kn:=⟨r.kind.toNat,by omega⟩
 have bb:kn<6:=by omega
 rw[z]at t⊢;have t:hZ fs kn:=t;clear bC b0 b5 gm gk;have cp:c.marks.length<=8:=M.sq;obtain⟨wa,B⟩:=ex (((w.alloc (.cells #[v0,v1,v2,vr,.string c.new.name,.string c.new.word,vf,.int .i64 c.new.day,.bool c.new.known,.slice (some ⟨bm,om,none⟩) c.marks.length cm,.slice (some ⟨G,f,none⟩) c.kin.length ck] 125)).alloc (.cells #[.int .i64 kn,.int .i64 r.least,.int .i64 r.plain,.int .i64 r.known] 69)).alloc (.cells #[.int .i64 0,.int .i64 0,.int .i64 0] 86));obtain⟨Sa,Ba,cs,cr,cz⟩:=iI w _ _ _ _ _ _ wa B;obtain⟨w1,C⟩:=ex (wa.alloc (.cells #[.string m.name,.string m.word,.slice af m.aW.length cf,.int .i64 m.day,.bool m.known] 38));have b:ae wa w1:=by rw[C];exact ae.alloc _ _
 have S1:ae w w1:=Sa.trans b;have B1:Below w.heap.size w w1:=by rw[C];exact Ba.alloc Ba.size _
 have b6:wa.heap.size=w.heap.size+1+1+1:=by rw[B];simp
 have g:∀i v,(#[.string m.name,.string m.word,.slice af m.aW.length cf,.int .i64 m.day,.bool m.known]:Array Value)[i]? =some v->w1.cell? ⟨w.heap.size+1+1+1,i,none⟩=some v:=λi v h=>by rw[C,<-b6];exact aw wa _ 38 i v h
 have br:w1.heap[w.heap.size+1+1]? =some (.cells #[.int .i64 0,.int .i64 0,.int .i64 0] 86):=by
  refine b _ _ _ _ ?_;have h:((w.alloc (.cells #[v0,v1,v2,vr,.string c.new.name,.string c.new.word,vf,.int .i64 c.new.day,.bool c.new.known,.slice (some ⟨bm,om,none⟩) c.marks.length cm,.slice (some ⟨G,f,none⟩) c.kin.length ck] 125)).alloc (.cells #[.int .i64 kn,.int .i64 r.least,.int .i64 r.plain,.int .i64 r.known] 69)).heap.size=w.heap.size+1+1:=by simp
  rw[B,<-h];exact SY
 obtain⟨N0,h0⟩:=ex (w.heap.size);obtain⟨N1,h1⟩:=ex (w.heap.size+1);obtain⟨H,h2⟩:=ex (w.heap.size+1+1);obtain⟨N3,h3⟩:=ex (w.heap.size+1+1+1);have s0:=b.cell (cs 0 _ rfl);have s1:=b.cell (cs 1 _ rfl);have s2:=b.cell (cs 2 _ rfl);have s4:=b.cell (cs 4 _ rfl);have s5:=b.cell (cs 5 _ rfl);have s6:=b.cell (cs 6 _ rfl);have s7:=b.cell (cs 7 _ rfl);have s8:=b.cell (cs 8 _ rfl);have bs:=b.cell (cs 10 _ rfl);have b7:=cs 9 _ rfl;have y0:=b.cell (cr 0 _ rfl);have y1:=b.cell (cr 1 _ rfl);have y2:=b.cell (cr 2 _ rfl);have y3:=b.cell (cr 3 _ rfl);have p0:=g 0 _ rfl;have p1:=g 1 _ rfl;have p2:=g 2 _ rfl;have p3:=g 3 _ rfl;have p4:=g 4 _ rfl;have zx:=S1.cell z0;have E:=(bB.stays S1) kn bb;have cq:=Sa.cell x0;have cv:=Sa.cell x1;have cw:=Sa.cell bo;have cx:=Sa.cell x3;have cy:=Sa.cell x4;rw[<-h3]at p0 p1 p2 p3 p4;rw[<-h2]at br;rw[<-h1]at y0 y1 y2 y3;rw[<-h0]at s0 s1 s2 s4 s5 s6 s7 s8 bs b7;have HB:Hid (Below w.heap.size w w1/\w.heap.size<=H):=⟨B1,by omega⟩
 have b8:N3=wa.heap.size:=by omega
 have ca:Hid (w1=wa.alloc (.cells #[.string m.name,.string m.word,.slice af m.aW.length cf,.int .i64 m.day,.bool m.known] 38)/\N3=wa.heap.size):=⟨C,b8⟩
 have dc:(i:Int)<(c.marks.length:Int):=by omega
 have dd:(i:Int)<(c.kin.length:Int):=by omega
 have dm:(kn:Int)<6:=by omega
 have ek:=Le L kn bb;have qL:∀x:aj w w1,Calls (Qs fs) (eE kn) #[.agg #[v0,v1,v2],.agg #[.string c.new.name,.string c.new.word,vf,.int .i64 c.new.day,.bool c.new.known],.agg #[.string m.name,.string m.word,.slice af m.aW.length cf,.int .i64 m.day,.bool m.known]] x.val λe w'=>e=.returned (.int .i64 (bF c.table kn c.new m))/\∃y:aj w w1,w'=y.val:=λx=>aj.calls (t K v0 v1 v2 c.table _ _ c.new m x.val (ht.stays (S1.trans x.st)) M.table ⟨vf,rfl,hf.ints (S1.trans x.st)⟩ ⟨_,rfl,xf.ints (S1.trans x.st)⟩ M.new A (hm.stays (S1.trans x.st)))
 have lb:=lA c.table kn c.new m M.new.fig A.fig;have nb: -1000<=jJ m r/\jJ m r<=1000:=by unfold jJ;split<;>omega
 have l:Hid (jJ m r=if m.known then min r.plain r.known else r.plain):=rfl;have HV:Hid (lV c m q r=⟨max 0 (m.day+1-c.new.day),max 0 (r.least-bF c.table kn c.new m),max 0 (jJ m r-q)⟩):=by rw[Hid,Ca,z]
 obtain⟨lv,cb⟩:=ex (bF c.table kn c.new m);rw[<-cb]at qL lb HV⊢;have dr:=A.day;have ds:=M.new.day;obtain⟨F,hF⟩:=ex (eE kn);rw[<-hF]at qL E ek;clear cb z t hF bB hm x0 x1 x3 x4 bo xf z0 ht hr hf cs cr cz g S1 b B1 Ba M A b6 cp C b8 h3;go_enter (n84 L),Tryz.ntmps84;go_upto_region 1 with fail;rw[<-B,<-h2,<-h1,<-h0];clear B h0 h1 h2;go_upto_region 2 with fail;rw[<-ca.out.1,<-ca.out.2];clear cq cv cw cx cy b7;go_upto_if 20 with fail;go_cut [9]from 10 (λs9 wx=>s9=.int .i64 (jJ m r)/\wx=w1)
 case first=>
  have dn:∀x y:Int,(if x<y then x else y)=min x y:=λx y=>by split<;>omega
  rcases hkw:m.known
  ·have bx:Hid (jJ m r=r.plain):=by rw[Hid,l.out,hkw];rfl
   rw[hkw]at p4;go_wp2_with fail
   all_goals (go_meet;refine⟨SL (Value.int .i64) ?_,rfl⟩;rw[bx.out])
  ·have bx:Hid (jJ m r=min r.plain r.known):=by rw[Hid,l.out,hkw];rfl
   rw[hkw]at p4;go_wp2_with fail
   all_goals (go_meet;refine⟨SL (Value.int .i64) ?_,rfl⟩;rw[bx.out])
 case rest=>
  obtain⟨rfl,rfl⟩:=hcut;obtain⟨N,cc⟩:=ex (jJ m r);rw[<-cc]at nb HV⊢;clear cc l;have dt:IntKind.i64.wrap (m.day+1)=m.day+1:=wrap_i64 _ (by omega);have dw:IntKind.i64.wrap (m.day+1-c.new.day)=m.day+1-c.new.day:=wrap_i64 _ (by omega);have dy:IntKind.i64.wrap (r.least-lv)=r.least-lv:=wrap_i64 _ (by omega);have ea:IntKind.i64.wrap (N-q)=N-q:=wrap_i64 _ (by omega);have eb:∀x y:Int,(if x<y then y else x)=max x y:=λx y=>by split<;>omega
  have l0:=λx:aj w wc=>x.cell s0;have l1:=λx:aj w wc=>x.cell s1;have l2:=λx:aj w wc=>x.cell s2;have l4:=λx:aj w wc=>x.cell s4;have l5:=λx:aj w wc=>x.cell s5;have l6:=λx:aj w wc=>x.cell s6;have l7:=λx:aj w wc=>x.cell s7;have l8:=λx:aj w wc=>x.cell s8;have l9:=λx:aj w wc=>x.cell y0;have cA:=λx:aj w wc=>x.cell p0;have cB:=λx:aj w wc=>x.cell p1;have cC:=λx:aj w wc=>x.cell p2;have cD:=λx:aj w wc=>x.cell p3;have cF:=λx:aj w wc=>x.cell p4;have cG:=λx:aj w wc=>x.cell E;have T0:Hid (wc.cell? ⟨N0,7,none⟩=some (.int .i64 c.new.day)/\wc.cell? ⟨N0,10,none⟩=some (.slice (some ⟨G,f,none⟩) c.kin.length ck)/\wc.cell? ⟨N1,1,none⟩=some (.int .i64 r.least)/\wc.cell? ⟨N3,3,none⟩=some (.int .i64 m.day)/\wc.cell? ⟨G,f+i,none⟩=some (.int .i64 q)/\wc.heap[H]? =some (.cells #[.int .i64 0,.int .i64 0,.int .i64 0] 86)):=⟨s7,bs,y1,p3,zx,br⟩
  clear s0 s1 s2 s4 s5 s6 s7 s8 bs y0 y1 y2 y3 p0 p1 p2 p3 p4 zx br E;go_upto_region 5 with fail;refine aY (w0:=w) (w1:=wc) (by kernel_rfl) (by kernel_rfl) (ae.refl _) HB.out.1 ?_;haveI cH:Nonempty (aj w wc):=⟨⟨wc,ae.refl _,HB.out.1⟩⟩
  repeat (go_big_quiet_step (first|(go_at_fn F;exact qL _)))
  refine wpQuiet_nil ?_;rintro wz ⟨⟨_,Sz,Bz⟩,rfl⟩;have t0:=Sz.cell T0.out.1;have t1:=Sz.cell T0.out.2.1;have t2:=Sz.cell T0.out.2.2.1;have t3:=Sz.cell T0.out.2.2.2.1;have t4:=Sz.cell T0.out.2.2.2.2.1;have cd:=Sz _ _ _ _ T0.out.2.2.2.2.2;have BZ:Hid _:=Bz;clear qL l0 l1 l2 l4 l5 l6 l7 l8 l9 cA cB cC cD cF cG cH Sz Bz;go_upto_region 6 with fail;refine wp_region_any (by kernel_rfl) ?_;obtain⟨O,j⟩:=ex (wz.drew);rw[show({heap:=wz.heap,tape:=wz.tape,drawn:=wz.drawn+1,os:=wz.os,output:=wz.output}:World)=O from j.symm];have BY:Hid (Below w.heap.size w O):=by rw[j];exact BZ.out.drew
  have m0:O.cell? ⟨N0,7,none⟩=some (.int .i64 c.new.day):=by rw[j];exact t0
  have m1:O.cell? ⟨N0,10,none⟩=some (.slice (some ⟨G,f,none⟩) c.kin.length ck):=by rw[j];exact t1
  have m2:O.cell? ⟨N1,1,none⟩=some (.int .i64 r.least):=by rw[j];exact t2
  have m3:O.cell? ⟨N3,3,none⟩=some (.int .i64 m.day):=by rw[j];exact t3
  have m4:O.cell? ⟨G,f+i,none⟩=some (.int .i64 q):=by rw[j];exact t4
  have n:O.heap[H]? =some (.cells #[.int .i64 0,.int .i64 0,.int .i64 0] 86):=by rw[j];exact cd
  have n0:=cell_of_heap n 0 _ rfl;have n1:=cell_of_heap n 1 _ rfl;have n2:=cell_of_heap n 2 _ rfl;have g0:=frozen_of_heap n 0;have g1:=frozen_of_heap n 1;have g2:=frozen_of_heap n 2;clear t0 t1 t2 t3 t4 j cd n;refine j7 (I:=λs a W=>∃x7 P Q R S T U V X Y Z aa ab ad ag an ao ar ax ay aM a1 a6 a7 a8 ba:Value,a=⟨#[.agg #[v0,v1,v2,vr,.string c.new.name,.string c.new.word,vf,.int .i64 c.new.day,.bool c.new.known,.slice (some ⟨bm,om,none⟩) c.marks.length cm,.slice (some ⟨G,f,none⟩) c.kin.length ck],.int .i64 i,.agg #[.int .i64 kn,.int .i64 r.least,.int .i64 r.plain,.int .i64 r.known],.pointer (some ⟨N0,0,none⟩),undef,.pointer (some ⟨N1,0,none⟩),.pointer (some ⟨H,0,none⟩),x7,.pointer (some ⟨N3,0,none⟩),.int .i64 N,.int .i64 lv,u11,u12,u13,u14,u15,u16,u17,u18,u19,u20,u21,u22,u23,u24,.pointer (some ⟨N1,0,none⟩),.int .i64 kn,.pointer (some ⟨0,kn*2,none⟩),.pointer (some ⟨0,kn*2+1,none⟩),.func (.func F) #[] #[],.pointer (some ⟨N0,0,none⟩),.pointer (some ⟨N0,0,none⟩),.agg #[v0,v1,v2],.agg #[v0,v1,v2],.pointer (some ⟨N0,0,none⟩),.pointer (some ⟨N0,4,none⟩),.agg #[.string c.new.name,.string c.new.word,vf,.int .i64 c.new.day,.bool c.new.known],.agg #[.string m.name,.string m.word,.slice af m.aW.length cf,.int .i64 m.day,.bool m.known],.int .i64 lv,P,Q,R,S,T,U,V,X,Y,Z,aa,ab,ad,ag,an,ao,ar,ax,ay,aM,a1,a6,a7,a8,ba],[]⟩/\Agr s 0 [P,Q,R,S,T,U,V,X,Y,Z,aa,ab,ad,ag,an,ao,ar,ax,ay,aM,a1,a6,a7,a8,ba,undef,x7] [.pointer (some ⟨N3,3,none⟩),.int .i64 (m.day),.int .i64 (m.day+1),.pointer (some ⟨N0,0,none⟩),.pointer (some ⟨N0,4,none⟩),.pointer (some ⟨N0,7,none⟩),.int .i64 (c.new.day),.int .i64 (m.day+1-c.new.day),.int .i64 (max 0 (m.day+1-c.new.day)),.pointer (some ⟨N1,1,none⟩),.int .i64 (r.least),.int .i64 (lv),.int .i64 (r.least-lv),.int .i64 (max 0 (r.least-lv)),.int .i64 (N),.pointer (some ⟨N0,0,none⟩),.pointer (some ⟨N0,10,none⟩),.slice (some ⟨G,f,none⟩) c.kin.length ck,.int .i64 (i),.pointer (some ⟨G,f+i,none⟩),.int .i64 (q),.int .i64 (N-q),.int .i64 (max 0 (N-q)),.agg #[.int .i64 (max 0 (m.day+1-c.new.day)),.int .i64 (max 0 (r.least-lv)),.int .i64 (max 0 (N-q))],.int .i64 (lv),undef,.int .i64 lv]/\s.size=27/\((s.getD 25 false=false/\W=O)\/(s.getD 25 false=true/\(∀k,k<24->s.getD k false=true)/\Below w.heap.size w W/\W.cell? ⟨H,0,none⟩=some (.int .i64 (max 0 (m.day+1-c.new.day)))/\W.cell? ⟨H,1,none⟩=some (.int .i64 (max 0 (r.least-lv)))/\W.cell? ⟨H,2,none⟩=some (.int .i64 (max 0 (N-q)))))) ?step ?fin _ _ _ _ (by simp) ?start;case start=>refine⟨_,_,_,_,_,_,_,_,_,_,_,_,_,_,_,_,_,_,_,_,_,_,_,_,_,_,rfl,Agr.start rfl,?_⟩;simp
  case fin=>
   rintro s a W ⟨x7,P,Q,R,S,T,U,V,X,Y,Z,aa,ab,ad,ag,an,ao,ar,ax,ay,aM,a1,a6,a7,a8,ba,rfl,J,u,hW⟩ hr;have D:=λk (hk:k<27)=>me u (by kernel_rfl) hr (k+1) k (Tl k) hk;obtain⟨k0,k1,k2,k3,k4,k5,k6,k7,k8,k9,cI,cK,cL,cM,cR,cS,cU,cV,cX,cY,c0,c1,c5,c6,c7,c8,c9,_⟩:=J;obtain rfl:=c9 (D 26 (by decide));obtain⟨_,_,b1,b2,b3,b4⟩:=hW.resolve_left λh=>by rw[D 25 (by decide)]at h;cases h.1
   clear D k0 k1 k2 k3 k4 k5 k6 k7 k8 k9 cI cK cL cM cR cS cU cV cX cY c0 c1 c5 c6 c7 c8;go_wp2;all_goals
    refine bodyPost_ret (v:=.tuple #[.agg #[.int .i64 (max 0 (m.day+1-c.new.day)),.int .i64 (max 0 (r.least-lv)),.int .i64 (max 0 (N-q))],.int .i64 lv]) ?_ rfl ⟨by rw[HV.out];rfl,b1⟩;simp[results,Tryz.results84,go_sem, *]
  case step=>
   rintro s a W i ⟨x7,P,Q,R,S,T,U,V,X,Y,Z,aa,ab,ad,ag,an,ao,ar,ax,ay,aM,a1,a6,a7,a8,ba,rfl,J,u,hW⟩ hr;obtain⟨cg,o,ho,d⟩:=mem_ready.1 hr;have hi:i<27:=(R7.1 ho).1;clear hr;obtain rfl|rfl|rfl|rfl|rfl|rfl|rfl|rfl|rfl|rfl|rfl|rfl|rfl|rfl|rfl|rfl|rfl|rfl|rfl|rfl|rfl|rfl|rfl|rfl|rfl|rfl|rfl:i=25\/i=26\/i=24\/i=0\/i=1\/i=2\/i=3\/i=4\/i=5\/i=6\/i=7\/i=8\/i=9\/i=10\/i=11\/i=12\/i=13\/i=14\/i=15\/i=16\/i=17\/i=18\/i=19\/i=20\/i=21\/i=22\/i=23:=by omega
   all_goals
    obtain rfl:=SD ho;clear ho hi;refine wpOp_step rfl λK' cl=>?_;have HK:Hid (∀a w,_->K' a w):=cl;clear cl
   ·obtain⟨hu,rfl⟩:=hW.resolve_right λh=>absurd h.1 (fE cg)
    have hH:Hid _:=d
    (try (have e:=J.dep d 0 rfl rfl;(conv at e=>lhs;whnf);(conv at e=>rhs;whnf);subst e))
    clear d hW;go_simp;exact HK.out _ _ ⟨_,_,_,_,_,_,_,_,_,_,_,_,_,_,_,_,_,_,_,_,_,_,_,_,_,_,rfl,J.set _,by rw[SF];exact u,.inr ⟨eF (by rw[u];decide),λk hk=>bf (oP hH.out (by kernel_rfl) k hk),((BY.out.setCell (p:=⟨H,0,none⟩) HB.out.2 _).setCell (p:=⟨H,1,none⟩) HB.out.2 _).setCell (p:=⟨H,2,none⟩) HB.out.2 _,(sM n0 n1 n2).1,(sM n0 n1 n2).2.1,(sM n0 n1 n2).2.2⟩⟩
   iterate 2
    (try (have e:=J.dep d 0 rfl rfl;(conv at e=>lhs;whnf);(conv at e=>rhs;whnf);subst e))
    clear d;go_simp;exact HK.out _ _ ⟨_,_,_,_,_,_,_,_,_,_,_,_,_,_,_,_,_,_,_,_,_,_,_,_,_,_,rfl,J.set _,by rw[SF];exact u,hW.imp (λh=>⟨(getD_set_ne false (by decide)).trans h.1,h.2⟩) λh=>⟨bf h.1,λk hk=>bf (h.2.1 k hk),h.2.2⟩⟩
   all_goals
    obtain⟨hu,rfl⟩:=hW.resolve_right λh=>absurd (h.2.1 _ (by decide)) (fE cg)
    (try (have e:=J.dep d 0 rfl rfl;(conv at e=>lhs;whnf);(conv at e=>rhs;whnf);subst e))
    (try (have e:=J.dep d 1 rfl rfl;(conv at e=>lhs;whnf);(conv at e=>rhs;whnf);subst e))
    (try (have e:=J.dep d 2 rfl rfl;(conv at e=>lhs;whnf);(conv at e=>rhs;whnf);subst e))
    clear d hW;go_simp;exact HK.out _ _ ⟨_,_,_,_,_,_,_,_,_,_,_,_,_,_,_,_,_,_,_,_,_,_,_,_,_,_,rfl,J.set _,by rw[SF];exact u,.inl ⟨(getD_set_ne false (by decide)).trans hu,rfl⟩⟩


def Mt(j:Int)(r:ui)(w:World):Calls (Qs fs) 79 #[.int .i64 j,.agg #[.int .i64 r.kind,.int .i64 r.least,.int .i64 r.plain,.int .i64 r.known]] w λe w'=>e=.returned (.int .i64 (jI [] r))/\Below w.heap.size w w':=by
 have e66:=e66 L;have e63:=e63 L;have e52:=e52 L;have k:Hid (jI [] r=if !aD r.kind 0 5|| !aD r.least 1 100|| !aD r.plain 0 9|| !aD r.known 0 9 then 1 else 0):=rfl;obtain⟨w1,b⟩:=ex (w.alloc (.cells #[.int .i64 r.kind,.int .i64 r.least,.int .i64 r.plain,.int .i64 r.known] 69));have s:Below w.heap.size w w1:=by rw[b];exact aG _ _
 have ct:∀i v,(#[.int .i64 r.kind,.int .i64 r.least,.int .i64 r.plain,.int .i64 r.known]:Array Value)[i]? =some v->w1.cell? ⟨w.heap.size,i,none⟩=some v:=λi v h=>by rw[b];exact aw w _ 69 i v h
 obtain⟨N,d⟩:=ex (w.heap.size);have t:=ct 0 _ rfl;have u:=ct 1 _ rfl;have x:=ct 2 _ rfl;have y:=ct 3 _ rfl;rw[<-d]at t u x y;have l:Hid _:=s;have c:=λwx=>CL L r.kind wx;have f:∀wx,Calls (Qs fs) 63 #[.int .i64 r.least,.int .i64 1,.int .i64 100] wx λe w'=>e=.returned (.bool (aD r.least 1 100))/\w'=wx:=λwx=>dv fs (n63 L) r.least 1 100 wx;have g:∀wx,Calls (Qs fs) 63 #[.int .i64 r.plain,.int .i64 0,.int .i64 9] wx λe w'=>e=.returned (.bool (aD r.plain 0 9))/\w'=wx:=λwx=>dv fs (n63 L) r.plain 0 9 wx;have m:∀wx,Calls (Qs fs) 63 #[.int .i64 r.known,.int .i64 0,.int .i64 9] wx λe w'=>e=.returned (.bool (aD r.known 0 9))/\w'=wx:=λwx=>dv fs (n63 L) r.known 0 9 wx;obtain⟨z,n⟩:=ex (aD r.kind 0 5);obtain⟨A,o⟩:=ex (aD r.least 1 100);obtain⟨B,p⟩:=ex (aD r.plain 0 9);obtain⟨C,q⟩:=ex (aD r.known 0 9);rw[<-n]at c;rw[<-o]at f;rw[<-p]at g;rw[<-q]at m;rw[<-n,<-o,<-p,<-q]at k;clear n o p q ct s;cases z with
 |false=>
  have HV:Hid (jI [] r=1):=by rw[Hid,k.out];rfl
  have a:=λwx=>dz L true 1 wx;simp only[Sj,Ss,Sp]at a;go_enter (n79 L),Tryz.ntmps79;go_upto_region 1 with fail;rw[<-b,<-d];clear b d;go_wp2_with (first|(go_at_call 66;refine(c _).mono ?_;clear c;rintro e w2 ⟨rfl,rfl⟩)|(go_at_call 52;refine(a _).mono ?_;rintro e w3 ⟨rfl,rfl⟩))
  go_ret;exact⟨by rw[HV.out];rfl,l.out⟩
 |true=>
  cases A with
  |false=>
   have HV:Hid (jI [] r=1):=by rw[Hid,k.out];rfl
   have a:=λwx=>dz L true 1 wx;simp only[Sj,Ss,Sp]at a;go_enter (n79 L),Tryz.ntmps79;go_upto_region 1 with fail;rw[<-b,<-d];clear b d;go_wp2_with (first|(go_at_call 66;refine(c _).mono ?_;clear c;rintro e w2 ⟨rfl,rfl⟩)|(go_at_call 63;refine(f _).mono ?_;clear f;rintro e w2 ⟨rfl,rfl⟩)|(go_at_call 52;refine(a _).mono ?_;rintro e w3 ⟨rfl,rfl⟩))
   go_ret;exact⟨by rw[HV.out];rfl,l.out⟩
  |true=>
   cases B with
   |false=>
    have HV:Hid (jI [] r=1):=by rw[Hid,k.out];rfl
    have a:=λwx=>dz L true 1 wx;simp only[Sj,Ss,Sp]at a;go_enter (n79 L),Tryz.ntmps79;go_upto_region 1 with fail;rw[<-b,<-d];clear b d;go_wp2_with (first|(go_at_call 66;refine(c _).mono ?_;clear c;rintro e w2 ⟨rfl,rfl⟩)|(go_at_call 63;refine(f _).mono ?_;clear f;rintro e w2 ⟨rfl,rfl⟩)|(go_at_call 63;refine(g _).mono ?_;clear g;rintro e w2 ⟨rfl,rfl⟩)|(go_at_call 52;refine(a _).mono ?_;rintro e w3 ⟨rfl,rfl⟩))
    go_ret;exact⟨by rw[HV.out];rfl,l.out⟩
   |true=>
    cases C with
    |false=>
     have HV:Hid (jI [] r=1):=by rw[Hid,k.out];rfl
     have a:=λwx=>dz L true 1 wx;simp only[Sj,Ss,Sp]at a;go_enter (n79 L),Tryz.ntmps79;go_upto_region 1 with fail;rw[<-b,<-d];clear b d;go_wp2_with (first|(go_at_call 66;refine(c _).mono ?_;clear c;rintro e w2 ⟨rfl,rfl⟩)|(go_at_call 63;refine(f _).mono ?_;clear f;rintro e w2 ⟨rfl,rfl⟩)|(go_at_call 63;refine(g _).mono ?_;clear g;rintro e w2 ⟨rfl,rfl⟩)|(go_at_call 63;refine(m _).mono ?_;clear m;rintro e w2 ⟨rfl,rfl⟩)|(go_at_call 52;refine(a _).mono ?_;rintro e w3 ⟨rfl,rfl⟩))
     go_ret;exact⟨by rw[HV.out];rfl,l.out⟩
    |true=>
     have HV:Hid (jI [] r=0):=by rw[Hid,k.out];rfl
     have a:=λwx=>dz L false 1 wx;simp only[Sj,Ss,Sp]at a;go_enter (n79 L),Tryz.ntmps79;go_upto_region 1 with fail;rw[<-b,<-d];clear b d;go_wp2_with (first|(go_at_call 66;refine(c _).mono ?_;clear c;rintro e w2 ⟨rfl,rfl⟩)|(go_at_call 63;refine(f _).mono ?_;clear f;rintro e w2 ⟨rfl,rfl⟩)|(go_at_call 63;refine(g _).mono ?_;clear g;rintro e w2 ⟨rfl,rfl⟩)|(go_at_call 63;refine(m _).mono ?_;clear m;rintro e w2 ⟨rfl,rfl⟩)|(go_at_call 52;refine(a _).mono ?_;rintro e w3 ⟨rfl,rfl⟩))
     go_ret;exact⟨by rw[HV.out];rfl,l.out⟩
def On(j n:Int)(w:World):Calls (Qs fs) 83 #[.int .i64 j,.int .i64 n] w λe w'=>e=.returned (.int .i64 (EO [] n))/\w'=w:=by
 have e63:=e63 L;have e52:=e52 L;have c:Hid (EO [] n=if !aD n 0 9 then 1 else 0):=rfl;have b:∀wx,Calls (Qs fs) 63 #[.int .i64 n,.int .i64 0,.int .i64 9] wx λe w'=>e=.returned (.bool (aD n 0 9))/\w'=wx:=λwx=>dv fs (n63 L) n 0 9 wx;obtain⟨f,d⟩:=ex (aD n 0 9);rw[<-d]at b c;clear d;cases f with
 |true=>
  have a:=λwx=>dz L false 1 wx;go_enter (n83 L),Tryz.ntmps83;go_wp2_with (first|(go_at_call 63;refine(b _).mono ?_;clear b;rintro e w2 ⟨rfl,rfl⟩)|(go_at_call 52;refine(a _).mono ?_;rintro e w3 ⟨rfl,rfl⟩))
  go_ret;exact⟨by rw[c.out];rfl,rfl⟩
 |false=>
  have a:=λwx=>dz L true 1 wx;go_enter (n83 L),Tryz.ntmps83;go_wp2_with (first|(go_at_call 63;refine(b _).mono ?_;clear b;rintro e w2 ⟨rfl,rfl⟩)|(go_at_call 52;refine(a _).mono ?_;rintro e w3 ⟨rfl,rfl⟩))
  go_ret;exact⟨by rw[c.out];rfl,rfl⟩
def GK(a:Bool)(m:Mark):Int:=if eU m≠0 then eU m else if a then 5 else 0
def Mu{K:Nat->Prop}(j:Int)(m:Mark)(S:Value)(T k:Nat)(p:ByteArray->Bool)(w:World)(b:aE K 1 du w S m.aW)(q:w.cell? ⟨T,0,none⟩=some (.map (some k)))(z:bL w k p):
 Calls (Qs fs) 81 #[.int .i64 j,.agg #[.string m.name,.string m.word,S,.int .i64 m.day,.bool m.known],.pointer (some ⟨T,0,none⟩)] w λe w'=>e=.returned (.int .i64 (GK (p m.name) m))/\bL w' k (λt=>p t||decide (t=m.name))/\(∀B,B<=k->Below B w w')/\ae w w':=by
 have e67:=e67 L;have e52:=e52 L;have e51:=e51 L;obtain⟨C,D,rfl,_⟩:=id b;obtain⟨w1,c⟩:=ex (w.alloc (.cells #[.string m.name,.string m.word,.slice C m.aW.length D,.int .i64 m.day,.bool m.known] 38));have A:ae w w1:=by rw[c];exact ae.alloc _ _
 have E:Below w.heap.size w w1:=by rw[c];exact aG _ _
 have ct:∀i v,(#[.string m.name,.string m.word,.slice C m.aW.length D,.int .i64 m.day,.bool m.known]:Array Value)[i]? =some v->w1.cell? ⟨w.heap.size,i,none⟩=some v:=λi v h=>by rw[c];exact aw w _ 38 i v h
 obtain⟨N,F⟩:=ex (w.heap.size);have l:=z.keep (E.block k z.lt);have r:=sL fs l m.name;obtain⟨w2,G,s,u,a⟩:=kv fs l m.name;have U:=A.cell q;have H:=ct 0 _ rfl;have I:=ct 1 _ rfl;have J:=ct 2 _ rfl;have M:=ct 3 _ rfl;have O:=ct 4 _ rfl;rw[<-F]at H I J M O;obtain⟨g,d⟩:=ex (p m.name);rw[<-d]at r;have V:Hid _:=d;have P:Hid ((∀B,B<=k->Below B w w2)/\ae w w2/\bL w2 k (λt=>p t||decide (t=m.name))):=⟨λB W=>(E.mono (by have:=z.lt;omega)).trans (u B W),A.trans a,s⟩
 have X:=a.cell H;have Y:=a.cell I;have Z:=a.cell J;have aa:=a.cell M;have ab:=a.cell O;have n:=kW L (mc:=#[.string m.name,.string m.word,.slice C m.aW.length D,.int .i64 m.day,.bool m.known]) w2 ⟨_,rfl,b.ints (A.trans a)⟩;have HV:Hid (GK g m=if eU m≠0 then eU m else if g=true then 5 else 0):=rfl;obtain⟨fa,x⟩:=ex (eU m);rw[<-x]at n HV;have o:=λQ=>dz L g 5 Q;obtain⟨fb,hfb⟩:∃f:Int,f=if g=true then 5 else 0:=⟨_,rfl⟩
 rw[<-hfb]at o HV;have R:=λQ=>cJ L fa fb Q;rw[<-HV.out]at R;clear x hfb d HV;go_enter (n81 L),Tryz.ntmps81;go_upto_region 1 with fail;rw[<-c,<-F];clear c F ct A E l s u a z q b;go_upto_region 3 with fail;clear r G U H I J M O;go_wp2_with (first|(go_at_call 67;refine n.mono ?_;clear n;rintro e w3 ⟨rfl,y⟩)|(go_at_call 52;refine(o _).mono ?_;clear o;rintro e w4 ⟨rfl,rfl⟩)|(go_at_call 51;refine(R _).mono ?_;clear R;rintro e w5 ⟨rfl,rfl⟩))
 go_ret;refine⟨by rw[V.out];rfl,?_⟩;exact P.out.1|>λh=>kx h P.out.2.1 P.out.2.2 (y.alloc y.size _)
def JY{K:Nat->Prop}{v:Value}{l:List ui}(w:World)(a:aE K 4 pc w v l):Calls (Qs fs) 78 #[v,.int .i64 0,.int .i64 6,.func (.func 79) #[] #[]] w λe w'=>e=.returned (.int .i64 (aP 0 6 jI l))/\Below w.heap.size w w':=by
 have b:=(jS L 79 #[] 0 6 w (λ_ wr=>Below w.heap.size w wr) (vL jI l) (e79 L) (Below.refl _ _) (λj wr h=>ae.below h) (λj wr o h=>h.alloc h.size _)).2.2.1 _ a
  (λj d wr h=>(Mt L j l[j] wr).mono λe w' c=>⟨by rw[iU _ _ _ d];exact c.1,h.trans (c.2.mono h.size)⟩)
 have b:=b.p;exact b.mono λe w' h=>by obtain⟨f,j,g⟩:=h;exact⟨f,g⟩
def Oo{K:Nat->Prop}{v:Value}{l:List Int}(n:Int)(w:World)(a:aE K 1 du w v l):Calls (Qs fs) 82 #[v,.int .i64 n,.int .i64 n,.func (.func 83) #[] #[]] w λe w'=>e=.returned (.int .i64 (aP n n EO l))/\Below w.heap.size w w':=by
 have b:=(jS L 83 #[] n n w (λ_ wr=>Below w.heap.size w wr) (vL EO l) (e83 L) (Below.refl _ _) (λj wr h=>ae.below h) (λj wr o h=>h.alloc h.size _)).2.2.2.2.1 _ a
  (λj d wr h=>(On L j l[j] wr).mono λe w' c=>⟨by rw[iU _ _ _ d];exact c.1,by rw[c.2];exact h⟩)
 have b:=b.p;exact b.mono λe w' h=>by obtain⟨f,j,g⟩:=h;exact⟨f,g⟩
def JZ(new)(l:List Mark)(j)(a:j<l.length):GK (decide (new=l[j].name)||(l.take j).any (λq=>decide (q.name=l[j].name))) l[j]=pO new (l.take j) l[j]:=rfl
def J0{K:Nat->Prop}{v:Value}{l:List Mark}(new:ByteArray)(c a:Nat)(w:World)(b:aE K 5 pb w v l)(f:w.cell? ⟨c,0,none⟩=some (.map (some a)))(m:bL w a (λt=>decide (t=new))):
 Calls (Qs fs) 80 #[v,.int .i64 0,.int .i64 8,.func (.func 81) #[] #[.pointer (some ⟨c,0,none⟩)]] w λe w'=>e=.returned (.int .i64 (aP 0 8 (pO new) l))/\Below a w w'/\ae w w':=by
 have g:=(jS L 81 #[.pointer (some ⟨c,0,none⟩)] 0 8 w (λj wr=>ae w wr/\Below a w wr/\bL wr a (λt=>decide (new=t)||(l.take j).any (λq=>decide (q.name=t)))) (vL (pO new) l) (e81 L)
  ⟨ae.refl _,Below.refl _ _,m.iff λt=>by rw[kV];simp⟩ (λj wr h=>h.1) (λj wr o h=>⟨h.1.trans (ae.alloc _ _),h.2.1.alloc (by have:=h.2.2.lt;omega) _,h.2.2.keep (Below.heap_alloc wr o _ h.2.2.lt)⟩)).2.2.2.2.2.2.1 _ b
  (λj i wr h n r=>(Mu L j l[j] n c a _ wr r (h.1.cell f) h.2.2).mono λe w' d=>⟨by rw[iU _ _ _ i,<-JZ];exact d.1,h.1.trans d.2.2.2,h.2.1.trans (d.2.2.1 a (R2 _)),d.2.1.iff λt=>by rw[lG l _ j i,kV t,Bool.or_assoc]⟩)
 have g:=g.p;exact g.mono λe w' h=>by obtain⟨s,j,k⟩:=h;exact⟨s,k.2.1,k.1⟩
def Mv(c):pd c=if bH c.table≠0 then bH c.table else
 if(if aP 0 6 jI c.rules≠0 then aP 0 6 jI c.rules else eU c.new)≠0 then(if aP 0 6 jI c.rules≠0 then aP 0 6 jI c.rules else eU c.new)else
 if aP 0 8 (pO c.new.name) c.marks≠0 then aP 0 8 (pO c.new.name) c.marks else aP c.marks.length c.marks.length EO c.kin:=by
 unfold pd;by_cases a:bH c.table=0
 ·by_cases b:aP 0 6 jI c.rules=0
  ·simp[a,b]
  ·simp[a,b]
 ·simp[a]
def uc{K:Nat->Prop}{sc:Array Value}{c:Case}(w:World)(hc:bI K w sc c):Calls (Qs fs) 37 #[.agg sc] w λe w'=>e=.returned (.int .i64 (pd c))/\Below w.heap.size w w':=by
 have e20:=e20 L;have e78:=e78 L;have e67:=e67 L;have e51:=e51 L;have e80:=e80 L;have e82:=e82 L;have ba:∀(fn:Fn) (first cap:Array Value) (w:World),(Instr.makeFunc fn first cap).run (Qs fs) w=.ok (.func fn first cap) w:=λ_ _ _ _=>rfl;have bb:∀(t:TypeId) (w:World),(Instr.makeMap t none).run (Qs fs) w=.ok (.map (some w.heap.size)) (w.alloc (.map #[] 0)):=λ_ _=>rfl;obtain⟨v0,v1,v2,vr,vf,vm,vk,rfl,ht,hr,hf,hm,hk⟩:=hc;obtain⟨am,cm,rfl,_⟩:=id hm;obtain⟨w1,u⟩:=ex (w.alloc (.cells #[v0,v1,v2,vr,.string c.new.name,.string c.new.word,vf,.int .i64 c.new.day,.bool c.new.known,.slice am c.marks.length cm,vk] 60));have S1:ae w w1:=by rw[u];exact ae.alloc _ _
 have B1:Below w.heap.size w w1:=by rw[u];exact aG _ _
 have ct:∀i v,(#[v0,v1,v2,vr,.string c.new.name,.string c.new.word,vf,.int .i64 c.new.day,.bool c.new.known,.slice am c.marks.length cm,vk]:Array Value)[i]? =some v->w1.cell? ⟨w.heap.size,i,none⟩=some v:=λi v h=>by rw[u];exact aw w _ 60 i v h
 obtain⟨N,hN⟩:=ex (w.heap.size);have f0:=ct 0 _ rfl;have f1:=ct 1 _ rfl;have f2:=ct 2 _ rfl;have P:=ct 3 _ rfl;have Q:=ct 4 _ rfl;have R:=ct 5 _ rfl;have S:=ct 6 _ rfl;have T:=ct 7 _ rfl;have U:=ct 8 _ rfl;have M:=ct 9 _ rfl;have q:=ct 10 _ rfl;rw[<-hN]at f0 f1 f2 P Q R S T U M q;have af:w.heap.size<=w1.heap.size:=B1.size;have G:=eD L w1 (ht.stays S1);have H:=λW (h:ae w1 W)=>JY L W (hr.stays (S1.trans h) λb b' o x e h'=>by subst e;exact pc.carry (Carry.keep (S1.trans h)) b b o x rfl h');have I:=λW (h:ae w1 W)=>kW L (mc:=#[.string c.new.name,.string c.new.word,vf,.int .i64 c.new.day,.bool c.new.known]) (m:=c.new) W ⟨vf,rfl,hf.ints (S1.trans h)⟩;have X:=λbv bm W (h:ae w1 W)=>J0 L c.new.name bv bm W (hm.stays (S1.trans h) λb b' o x e h'=>by subst e;exact pb.carry (Carry.keep (S1.trans h)) b b o x rfl h');have Y:=λW (h:ae w1 W)=>Oo L (c.marks.length:Int) W (hk.ints (S1.trans h));have HC:Hid _:=Mv c;obtain⟨x1,h1⟩:=ex (bH c.table);obtain⟨r,h2⟩:=ex (aP 0 6 jI c.rules);obtain⟨D,h3⟩:=ex (eU c.new);obtain⟨x4,h4⟩:=ex (aP 0 8 (pO c.new.name) c.marks);obtain⟨x5,h5⟩:=ex (aP c.marks.length c.marks.length EO c.kin);rw[<-h1]at G;rw[<-h2]at H;rw[<-h3]at I;rw[<-h4]at X;rw[<-h5]at Y;rw[<-h1,<-h2,<-h3,<-h4,<-h5]at HC;have HB:Hid _:=B1;have HZ:Hid _:=af;clear h1 h2 h3 h4 h5 ht hr hf hm hk S1 B1 ct af;have BB:∀w2 w3 w4:World,Below w1.heap.size w1 w2->Below w2.heap.size w2 w3->Below w3.heap.size w3 w4->Below w.heap.size w (w4.alloc (.cells #[.int .i64 r,.int .i64 D] 29)):=λw2 w3 w4 a b d=>by have s2:=a.size;have s3:=b.size;have s4:=d.size;have s1:=HZ.out;exact(((HB.out.trans (a.mono s1)).trans (b.mono (by omega))).trans (d.mono (by omega))).alloc (by omega) _
 have ay:∀k E w7 w8:World,Below w.heap.size w k->(∀B,B<=k.heap.size->Below B (k.alloc (.map #[] 0)) E)->Below k.heap.size (E.alloc (.cells #[.map (some k.heap.size)] 133)) w7->Below w7.heap.size w7 w8->Below w.heap.size w w8:=λk E w7 w8 a b d e=>by have s5:=a.size;have b6:=b w.heap.size s5;have s6:=b6.size;have s7:=d.size;simp at s6 s7;exact((((a.alloc s5 (.map #[] 0)).trans b6).alloc (by omega) _).trans (d.mono s5)).trans (e.mono (by omega))
 by_cases F:x1=0
 ·have a1:(x1 !=0)=false:=by rw[F];rfl
  obtain⟨y,hy⟩:=ex (if r≠0 then r else D);rw[<-hy]at HC;by_cases J:y=0
  ·have a6:((if r≠0 then r else D)!=0)=false:=by rw[<-hy,J];rfl
   by_cases V:x4=0
   ·have aM:(x4 !=0)=false:=by rw[V];rfl
    have HV:Hid (pd c=x5):=by rw[Hid,HC.out,RY (λh=>h F),RY (λh=>h J),RY (λh=>h V)]
    clear HC F hy J V;go_enter (n37 L),Tryz.ntmps37;go_upto_region 1 with fail;rw[<-u,<-hN];clear u hN;go_wp2_with (first|(go_at_call 20;refine G.mono ?_;clear G;rintro e w2 ⟨rfl,s⟩;have f:ae w1 w2:=ae.below s;have g0:=f.cell f0;have g1:=f.cell f1;have g2:=f.cell f2;have g3:=f.cell P;have g4:=f.cell Q;have g5:=f.cell R;have g6:=f.cell S;have g7:=f.cell T;have g8:=f.cell U;have g9:=f.cell M;have ag:=f.cell q;have l:=H w2 f;clear H)|(go_at_call 78;refine l.mono ?_;clear l;rintro e w3 ⟨rfl,z⟩;have g:ae w1 w3:=f.trans (ae.below z);have k3:=g.cell P;have k4:=g.cell Q;have k5:=g.cell R;have k6:=g.cell S;have k7:=g.cell T;have k8:=g.cell U;have k9:=g.cell M;have ak:=g.cell q;have n:=I w3 g;clear I)|(go_at_call 67;refine n.mono ?_;clear n;rintro e w4 ⟨rfl,A⟩;have S4:ae w1 w4:=g.trans (ae.below A);have Z:=cJ L r D w4)|(go_at_call 51;refine Z.mono ?_;clear Z;rintro e k ⟨rfl,rfl⟩;have j:ae w1 (w4.alloc (.cells #[.int .i64 r,.int .i64 D] 29)):=S4.trans (ae.alloc _ _);have B5:Below w.heap.size w (w4.alloc (.cells #[.int .i64 r,.int .i64 D] 29)):=BB w2 w3 w4 s z A;obtain⟨k,C⟩:=ex (w4.alloc (.cells #[.int .i64 r,.int .i64 D] 29));rw[<-C]at j B5⊢;clear C;have p3:=j.cell P;have p4:=j.cell Q;have p5:=j.cell R;have p6:=j.cell S;have p7:=j.cell T;have p8:=j.cell U;have p9:=j.cell M;have an:=j.cell q;have ao:=(ae.alloc k (.map #[] 0)).cell p4;obtain⟨E,ar,O,aa,p⟩:=kv fs (bL.new k) c.new.name;have z9:=(ae.alloc E (.cells #[.map (some k.heap.size)] 133)).cell (p.cell ((ae.alloc k (.map #[] 0)).cell p9)))|(go_at_call 80;refine(X _ _ _ (j.trans ((ae.alloc k (.map #[] 0)).trans (p.trans (ae.alloc E (.cells #[.map (some k.heap.size)] 133))))) (aw E _ 133 0 _ rfl) ((O.keep (Below.heap_alloc E _ _ O.lt)).iff λt=>by simp)).mono ?_;clear X;rintro e w7 ⟨rfl,ax,ab⟩;have S7:ae w1 w7:=(j.trans ((ae.alloc k (.map #[] 0)).trans (p.trans (ae.alloc E (.cells #[.map (some k.heap.size)] 133))))).trans ab;have r9:=S7.cell M;have a7:=S7.cell q;have ad:=Y w7 S7;clear Y)|(go_at_call 82;refine ad.mono ?_;clear ad;rintro e w8 ⟨rfl,a8⟩))
    all_goals (go_ret;exact⟨by rw[HV.out];rfl,ay k E w7 w8 B5 aa ax a8⟩)
   ·have aM:(x4 !=0)=true:=by simpa using V
    have HV:Hid (pd c=x4):=by rw[Hid,HC.out,RY (λh=>h F),RY (λh=>h J),RZ V]
    clear HC F hy J V;go_enter (n37 L),Tryz.ntmps37;go_upto_region 1 with fail;rw[<-u,<-hN];clear u hN;go_wp2_with (first|(go_at_call 20;refine G.mono ?_;clear G;rintro e w2 ⟨rfl,s⟩;have f:ae w1 w2:=ae.below s;have g0:=f.cell f0;have g1:=f.cell f1;have g2:=f.cell f2;have g3:=f.cell P;have g4:=f.cell Q;have g5:=f.cell R;have g6:=f.cell S;have g7:=f.cell T;have g8:=f.cell U;have g9:=f.cell M;have ag:=f.cell q;have l:=H w2 f;clear H)|(go_at_call 78;refine l.mono ?_;clear l;rintro e w3 ⟨rfl,z⟩;have g:ae w1 w3:=f.trans (ae.below z);have k3:=g.cell P;have k4:=g.cell Q;have k5:=g.cell R;have k6:=g.cell S;have k7:=g.cell T;have k8:=g.cell U;have k9:=g.cell M;have ak:=g.cell q;have n:=I w3 g;clear I)|(go_at_call 67;refine n.mono ?_;clear n;rintro e w4 ⟨rfl,A⟩;have S4:ae w1 w4:=g.trans (ae.below A);have Z:=cJ L r D w4)|(go_at_call 51;refine Z.mono ?_;clear Z;rintro e k ⟨rfl,rfl⟩;have j:ae w1 (w4.alloc (.cells #[.int .i64 r,.int .i64 D] 29)):=S4.trans (ae.alloc _ _);have B5:Below w.heap.size w (w4.alloc (.cells #[.int .i64 r,.int .i64 D] 29)):=BB w2 w3 w4 s z A;obtain⟨k,C⟩:=ex (w4.alloc (.cells #[.int .i64 r,.int .i64 D] 29));rw[<-C]at j B5⊢;clear C;have p3:=j.cell P;have p4:=j.cell Q;have p5:=j.cell R;have p6:=j.cell S;have p7:=j.cell T;have p8:=j.cell U;have p9:=j.cell M;have an:=j.cell q;have ao:=(ae.alloc k (.map #[] 0)).cell p4;obtain⟨E,ar,O,aa,p⟩:=kv fs (bL.new k) c.new.name;have z9:=(ae.alloc E (.cells #[.map (some k.heap.size)] 133)).cell (p.cell ((ae.alloc k (.map #[] 0)).cell p9)))|(go_at_call 80;refine(X _ _ _ (j.trans ((ae.alloc k (.map #[] 0)).trans (p.trans (ae.alloc E (.cells #[.map (some k.heap.size)] 133))))) (aw E _ 133 0 _ rfl) ((O.keep (Below.heap_alloc E _ _ O.lt)).iff λt=>by simp)).mono ?_;clear X;rintro e w7 ⟨rfl,ax,ab⟩;have S7:ae w1 w7:=(j.trans ((ae.alloc k (.map #[] 0)).trans (p.trans (ae.alloc E (.cells #[.map (some k.heap.size)] 133))))).trans ab;have r9:=S7.cell M;have a7:=S7.cell q;have ad:=Y w7 S7;clear Y))
    all_goals (go_ret;exact⟨by rw[HV.out];rfl,ay k E w7 w7 B5 aa ax (Below.refl _ _)⟩)
  ·have a6:((if r≠0 then r else D)!=0)=true:=by rw[<-hy];simpa using J
   have HV:Hid (pd c=if r≠0 then r else D):=by rw[Hid,HC.out,RY (λh=>h F),RZ J,hy]
   clear HC F hy J;go_enter (n37 L),Tryz.ntmps37;go_upto_region 1 with fail;rw[<-u,<-hN];clear u hN;go_wp2_with (first|(go_at_call 20;refine G.mono ?_;clear G;rintro e w2 ⟨rfl,s⟩;have f:ae w1 w2:=ae.below s;have g0:=f.cell f0;have g1:=f.cell f1;have g2:=f.cell f2;have g3:=f.cell P;have g4:=f.cell Q;have g5:=f.cell R;have g6:=f.cell S;have g7:=f.cell T;have g8:=f.cell U;have g9:=f.cell M;have ag:=f.cell q;have l:=H w2 f;clear H)|(go_at_call 78;refine l.mono ?_;clear l;rintro e w3 ⟨rfl,z⟩;have g:ae w1 w3:=f.trans (ae.below z);have k3:=g.cell P;have k4:=g.cell Q;have k5:=g.cell R;have k6:=g.cell S;have k7:=g.cell T;have k8:=g.cell U;have k9:=g.cell M;have ak:=g.cell q;have n:=I w3 g;clear I)|(go_at_call 67;refine n.mono ?_;clear n;rintro e w4 ⟨rfl,A⟩;have S4:ae w1 w4:=g.trans (ae.below A);have Z:=cJ L r D w4)|(go_at_call 51;refine Z.mono ?_;clear Z;rintro e k ⟨rfl,rfl⟩;have j:ae w1 (w4.alloc (.cells #[.int .i64 r,.int .i64 D] 29)):=S4.trans (ae.alloc _ _);have B5:Below w.heap.size w (w4.alloc (.cells #[.int .i64 r,.int .i64 D] 29)):=BB w2 w3 w4 s z A;obtain⟨k,C⟩:=ex (w4.alloc (.cells #[.int .i64 r,.int .i64 D] 29));rw[<-C]at j B5⊢;clear C;have p3:=j.cell P;have p4:=j.cell Q;have p5:=j.cell R;have p6:=j.cell S;have p7:=j.cell T;have p8:=j.cell U;have p9:=j.cell M;have an:=j.cell q;have ao:=(ae.alloc k (.map #[] 0)).cell p4;obtain⟨E,ar,O,aa,p⟩:=kv fs (bL.new k) c.new.name;have z9:=(ae.alloc E (.cells #[.map (some k.heap.size)] 133)).cell (p.cell ((ae.alloc k (.map #[] 0)).cell p9))))
   all_goals (go_ret;exact⟨by rw[HV.out];first|rfl|simp[*],B5⟩)
 ·have a1:(x1 !=0)=true:=by simpa using F
  have HV:Hid (pd c=x1):=by rw[Hid,HC.out,RZ F]
  clear HC F;go_enter (n37 L),Tryz.ntmps37;go_upto_region 1 with fail;rw[<-u,<-hN];clear u hN;go_wp2_with (first|(go_at_call 20;refine G.mono ?_;clear G;rintro e w2 ⟨rfl,s⟩;have f:ae w1 w2:=ae.below s;have g0:=f.cell f0;have g1:=f.cell f1;have g2:=f.cell f2;have g3:=f.cell P;have g4:=f.cell Q;have g5:=f.cell R;have g6:=f.cell S;have g7:=f.cell T;have g8:=f.cell U;have g9:=f.cell M;have ag:=f.cell q;have l:=H w2 f;clear H)|(go_at_call 78;refine l.mono ?_;clear l;rintro e w3 ⟨rfl,z⟩;have g:ae w1 w3:=f.trans (ae.below z);have k3:=g.cell P;have k4:=g.cell Q;have k5:=g.cell R;have k6:=g.cell S;have k7:=g.cell T;have k8:=g.cell U;have k9:=g.cell M;have ak:=g.cell q;have n:=I w3 g;clear I)|(go_at_call 67;refine n.mono ?_;clear n;rintro e w4 ⟨rfl,A⟩;have S4:ae w1 w4:=g.trans (ae.below A);have Z:=cJ L r D w4)|(go_at_call 51;refine Z.mono ?_;clear Z;rintro e k ⟨rfl,rfl⟩;have j:ae w1 (w4.alloc (.cells #[.int .i64 r,.int .i64 D] 29)):=S4.trans (ae.alloc _ _);have B5:Below w.heap.size w (w4.alloc (.cells #[.int .i64 r,.int .i64 D] 29)):=BB w2 w3 w4 s z A;obtain⟨k,C⟩:=ex (w4.alloc (.cells #[.int .i64 r,.int .i64 D] 29));rw[<-C]at j B5⊢;clear C;have p3:=j.cell P;have p4:=j.cell Q;have p5:=j.cell R;have p6:=j.cell S;have p7:=j.cell T;have p8:=j.cell U;have p9:=j.cell M;have an:=j.cell q;have ao:=(ae.alloc k (.map #[] 0)).cell p4;obtain⟨E,ar,O,aa,p⟩:=kv fs (bL.new k) c.new.name;have z9:=(ae.alloc E (.cells #[.map (some k.heap.size)] 133)).cell (p.cell ((ae.alloc k (.map #[] 0)).cell p9))))
  go_ret;exact⟨by rw[HV.out];rfl,HB.out.trans (s.mono HZ.out)⟩
end Go.Proofs

import Derived.Test.YtaglpcmhopjebaaGreatDoorZ37
set_option linter.all false
set_option maxRecDepth 100000
set_option maxHeartbeats 20000000
namespace Go.Proofs
open Go.Tm Go.RowKit
variable {fs:Array Func} (L:bX fs)
def eJ(k:Nat):Nat:=if k=0 then 230 else if k=1 then 232 else if k=2 then 233 else if k=3 then 236 else if k=4 then 238 else 240
def ie(w:World):Prop:=∀k,k<6->w.cell? ⟨0,k*2+1,none⟩=some (.func (.func (eJ k)) #[] #[])
def ie.stays{w w'}(h:ie w)(a:ae w w'):ie w':=λk b=>a.cell (h k b)
def ig(fs:Array Func)(k:Nat):Prop:=∀(K:Nat->Prop) (v0 v1 v2:Value) (t:Table) (m1 m2:Array Value) (one two:Mark) (w:World),IsTable K w v0 v1 v2 t->OkT t->di K w m1 one->di K w m2 two->OkM one->OkM two->ia w->Calls (Qs fs) (eJ k) #[.agg #[v0,v1,v2],.agg m1,.agg m2] w λe w'=>e=.returned (.int .i64 (bF t k one two))/\Below w.heap.size w w'
def Om(md:Region.Mode)(ops:Array Oper):Bool:=(List.range ops.size).all λk=>match ops[k]? with
 |some o=>o.after.all λe=> !Region.binds md e||decide (e.on<k)
 |none=>true
theorem lX{md ops s}(a:s.size=ops.size)(f:Om md ops=true)(g:Region.ready md ops s=[]):∀(n k),k<n->k<ops.size->s.getD k false=true
 |0,k,h,_=>absurd h (RY _)
 |n+1,k,h,b=>by
  cases i:s.getD k false with
  |true=>rfl
  |false=>
   exfalso;have c:k<s.size:=by omega
   have o:s.getD k true=false:=by rw[Sv,RU c]at i⊢;exact i
   have j:k∈Region.ready md ops s:=mem_ready.2 ⟨o,ops[k],RU b,λe p d=>by have l:=R6.1 f k (Up.2 b);rw[RU b]at l;have m:=Ua.1 l e p;simp only[d,Tk,T9]at m;have q:e.on<k:=Sp m;exact lX a f g n e.on (by omega) (by omega)⟩
   rw[g]at j;cases j
def sT{w:World}{b x y z a1 a c}(n0:w.cell? ⟨b,0,none⟩=some a1)(d:w.cell? ⟨b,1,none⟩=some a)(f:w.cell? ⟨b,2,none⟩=some c):
 (((w.setCell ⟨b,0,none⟩ x).setCell ⟨b,1,none⟩ y).setCell ⟨b,2,none⟩ z).cell? ⟨b,0,none⟩=some x/\
 (((w.setCell ⟨b,0,none⟩ x).setCell ⟨b,1,none⟩ y).setCell ⟨b,2,none⟩ z).cell? ⟨b,1,none⟩=some y/\
 (((w.setCell ⟨b,0,none⟩ x).setCell ⟨b,1,none⟩ y).setCell ⟨b,2,none⟩ z).cell? ⟨b,2,none⟩=some z:=by
 have e:∀i j:Nat,i≠j->(⟨b,i,none⟩:Addr)≠⟨b,j,none⟩:=λi j h g=>h (by cases g;rfl);refine⟨?_,?_,?_⟩
 ·rw[World.cell?_setCell_other _ _ _ _ (e 2 0 (by decide)),World.cell?_setCell_other _ _ _ _ (e 1 0 (by decide))]
  exact World.cell?_setCell_same' _ _ _ (by rw[n0];rfl)
 ·rw[World.cell?_setCell_other _ _ _ _ (e 2 1 (by decide))]
  exact World.cell?_setCell_same' _ _ _ (by rw[World.cell?_setCell_other _ _ _ _ (e 0 1 (by decide)),d];rfl)
 ·exact World.cell?_setCell_same' _ _ _ (by rw[World.cell?_setCell_other _ _ _ _ (e 1 2 (by decide)),World.cell?_setCell_other _ _ _ _ (e 0 2 (by decide)),f];rfl)
def eK{s:Array Bool}{i}(h:i<s.size):(s.setIfInBounds i true).getD i false=true:=by simp[h]
def Kh:ig fs 0:=λK v0 v1 v2 t m1 m2 one two w a b c d e f g=>MI L w a b c d e f
def On:ig fs 1:=λK v0 v1 v2 t m1 m2 one two w a b c d e f g=>MJ L w a b c d e f g
def Oo:ig fs 2:=λK v0 v1 v2 t m1 m2 one two w a b c d e f g=>ML L w a b c d e f
def Ki:ig fs 3:=λK v0 v1 v2 t m1 m2 one two w a b c d e f g=>MO L w a b c d e f
def Kj(k:Nat)(b:k<6):∀a w,(callFunc (eJ k) a).run (Qs fs) w=.ok (.enter (eJ k) a) w:=by
 match k,b with
 |0,_=>exact QX L
 |1,_=>exact QY L
 |2,_=>exact QZ L
 |3,_=>exact Q0 L
 |4,_=>exact Q1 L
 |5,_=>exact Q2 L
def Kk{K:Nat->Prop}{sc:Array Value}{c:Case}(i k:Nat)(w:World)(hc:bn K w sc c)(M:OkC c)(hi:i<c.marks.length)(hk:k<c.rules.length)(bs:i<c.kin.length)(t:ig fs c.rules[k].kind.toNat)(hm:ia w)(bx:ie w):
 Calls (Qs fs) 84 #[.agg sc,.int .i64 i,.agg #[.int .i64 c.rules[k].kind,.int .i64 c.rules[k].least,.int .i64 c.rules[k].plain,.int .i64 c.rules[k].known]] w λe w'=>e=.returned (.tuple #[BR (lR c c.marks[i] c.kin[i] c.rules[k]),.int .i64 (bF c.table c.rules[k].kind c.new c.marks[i])])/\Below w.heap.size w w':=by
 obtain⟨v0,v1,v2,vr,vf,vm,vk,rfl,ht,hr,hf,cl,z⟩:=hc;obtain⟨r1,r2,r3,r4,r5,r6,r7,r8⟩:=M.rules _ (RN hk);obtain⟨k1,k2⟩:=M.kin _ (RN bs);have A:=M.marks _ (RN hi);obtain⟨am,cm,rfl,_,_,_,gm⟩:=cl;obtain⟨bm,om,rfl,x0,x1,xf,x3,x4⟩:=gm i hi;obtain⟨dp,bb,xf⟩:=xf;obtain⟨af,cf,rfl,_⟩:=id xf;obtain⟨ak,ck,rfl,_,_,_,gk⟩:=z;obtain⟨G,f,rfl,z0⟩:=gk i bs;rw[SK]at z0;have z0:w.cell? ⟨G,f+i,none⟩=some (.int .i64 c.kin[i]):=z0;obtain⟨m,bA⟩:=ex (c.marks[i]);obtain⟨r,bB⟩:=ex (c.rules[k]);obtain⟨q,bC⟩:=ex (c.kin[i]);rw[<-bA]at x0 x1 bb xf x3 x4 A⊢;rw[<-bB]at r1 r2 r3 r4 r5 r6 r7 r8 t⊢;rw[<-bC]at z0 k1 k2⊢;obtain⟨kn,z⟩:∃kn:Nat,r.kind=kn:=⟨r.kind.toNat,by omega⟩
 have ba:kn<6:=by omega
 rw[z]at t⊢;have t:ig fs kn:=t;clear bA bB bC gm gk;have cn:c.marks.length<=8:=M.sJ;obtain⟨wa,B⟩:=ex (((w.alloc (.cells #[v0,v1,v2,vr,.string c.new.name,.string c.new.word,vf,.int .i64 c.new.day,.bool c.new.known,.slice (some ⟨bm,om,none⟩) c.marks.length cm,.slice (some ⟨G,f,none⟩) c.kin.length ck] 125)).alloc (.cells #[.int .i64 kn,.int .i64 r.least,.int .i64 r.plain,.int .i64 r.known] 69)).alloc (.cells #[.int .i64 0,.int .i64 0,.int .i64 0] 86));obtain⟨Sa,Ba,cs,cr,cz⟩:=iP w _ _ _ _ _ _ wa B;obtain⟨w1,C⟩:=ex (wa.alloc (.cells #[.string m.name,.string m.word,.slice af m.aX.length cf,.int .i64 m.day,.bool m.known] 38));have b:ae wa w1:=by rw[C];exact ae.alloc _ _
 have S1:ae w w1:=Sa.trans b;have B1:Below w.heap.size w w1:=by rw[C];exact Ba.alloc Ba.size _
 have b0:wa.heap.size=w.heap.size+1+1+1:=by rw[B];simp
 have g:∀i v,(#[.string m.name,.string m.word,.slice af m.aX.length cf,.int .i64 m.day,.bool m.known]:Array Value)[i]? =some v->w1.cell? ⟨w.heap.size+1+1+1,i,none⟩=some v:=λi v h=>by rw[C,<-b0];exact av wa _ 38 i v h
 have bd:w1.heap[w.heap.size+1+1]? =some (.cells #[.int .i64 0,.int .i64 0,.int .i64 0] 86):=by
  refine b _ _ _ _ ?_;have h:((w.alloc (.cells #[v0,v1,v2,vr,.string c.new.name,.string c.new.word,vf,.int .i64 c.new.day,.bool c.new.known,.slice (some ⟨bm,om,none⟩) c.marks.length cm,.slice (some ⟨G,f,none⟩) c.kin.length ck] 125)).alloc (.cells #[.int .i64 kn,.int .i64 r.least,.int .i64 r.plain,.int .i64 r.known] 69)).heap.size=w.heap.size+1+1:=by simp
  rw[B,<-h];exact R8
 obtain⟨N0,h0⟩:=ex (w.heap.size);obtain⟨N1,h1⟩:=ex (w.heap.size+1);obtain⟨H,h2⟩:=ex (w.heap.size+1+1);obtain⟨N3,h3⟩:=ex (w.heap.size+1+1+1);have s0:=b.cell (cs 0 _ rfl);have s1:=b.cell (cs 1 _ rfl);have s2:=b.cell (cs 2 _ rfl);have s4:=b.cell (cs 4 _ rfl);have s5:=b.cell (cs 5 _ rfl);have s6:=b.cell (cs 6 _ rfl);have s7:=b.cell (cs 7 _ rfl);have s8:=b.cell (cs 8 _ rfl);have bo:=b.cell (cs 10 _ rfl);have b5:=cs 9 _ rfl;have y0:=b.cell (cr 0 _ rfl);have y1:=b.cell (cr 1 _ rfl);have y2:=b.cell (cr 2 _ rfl);have y3:=b.cell (cr 3 _ rfl);have p0:=g 0 _ rfl;have p1:=g 1 _ rfl;have p2:=g 2 _ rfl;have p3:=g 3 _ rfl;have p4:=g 4 _ rfl;have zx:=S1.cell z0;have E:=(bx.stays S1) kn ba;have cp:=Sa.cell x0;have cq:=Sa.cell x1;have cu:=Sa.cell bb;have cv:=Sa.cell x3;have cw:=Sa.cell x4;rw[<-h3]at p0 p1 p2 p3 p4;rw[<-h2]at bd;rw[<-h1]at y0 y1 y2 y3;rw[<-h0]at s0 s1 s2 s4 s5 s6 s7 s8 bo b5;have HB:Hid (Below w.heap.size w w1/\w.heap.size<=H):=⟨B1,by omega⟩
 have b6:N3=wa.heap.size:=by omega
 have b7:Hid (w1=wa.alloc (.cells #[.string m.name,.string m.word,.slice af m.aX.length cf,.int .i64 m.day,.bool m.known] 38)/\N3=wa.heap.size):=⟨C,b6⟩
 have c8:(i:Int)<(c.marks.length:Int):=by omega
 have c9:(i:Int)<(c.kin.length:Int):=by omega
 have dc:(kn:Int)<6:=by omega
 have ek:=Kj L kn ba;have qL:∀x:aj w w1,Calls (Qs fs) (eJ kn) #[.agg #[v0,v1,v2],.agg #[.string c.new.name,.string c.new.word,vf,.int .i64 c.new.day,.bool c.new.known],.agg #[.string m.name,.string m.word,.slice af m.aX.length cf,.int .i64 m.day,.bool m.known]] x.val λe w'=>e=.returned (.int .i64 (bF c.table kn c.new m))/\∃y:aj w w1,w'=y.val:=λx=>aj.calls (t K v0 v1 v2 c.table _ _ c.new m x.val (ht.stays (S1.trans x.st)) M.table ⟨vf,rfl,hf.ints (S1.trans x.st)⟩ ⟨_,rfl,xf.ints (S1.trans x.st)⟩ M.new A (hm.stays (S1.trans x.st)))
 have lb:=lq c.table kn c.new m M.new.fig A.fig;have nb: -1000<=jJ m r/\jJ m r<=1000:=by unfold jJ;split<;>omega
 have l:Hid (jJ m r=if m.known then min r.plain r.known else r.plain):=rfl;have HV:Hid (lR c m q r=⟨max 0 (m.day+1-c.new.day),max 0 (r.least-bF c.table kn c.new m),max 0 (jJ m r-q)⟩):=by rw[Hid,BS,z]
 obtain⟨lv,b8⟩:=ex (bF c.table kn c.new m);rw[<-b8]at qL lb HV⊢;have dr:=A.day;have ds:=M.new.day;obtain⟨F,hF⟩:=ex (eJ kn);rw[<-hF]at qL E ek;clear b8 z t hF bx hm x0 x1 x3 x4 bb xf z0 ht hr hf cs cr cz g S1 b B1 Ba M A b0 cn C b6 h3;go_enter (n84 L),Tryz.ntmps84;go_upto_region 1 with fail;rw[<-B,<-h2,<-h1,<-h0];clear B h0 h1 h2;go_upto_region 2 with fail;rw[<-b7.out.1,<-b7.out.2];clear cp cq cu cv cw b5;go_upto_if 20 with fail;go_cut [9]from 10 (λs9 wx=>s9=.int .i64 (jJ m r)/\wx=w1)
 case first=>
  have dd:∀x y:Int,(if x<y then x else y)=min x y:=λx y=>by split<;>omega
  rcases hkw:m.known
  ·have br:Hid (jJ m r=r.plain):=by rw[Hid,l.out,hkw];rfl
   rw[hkw]at p4;go_wp2_with fail
   all_goals (go_meet;refine⟨R3 (Value.int .i64) ?_,rfl⟩;rw[br.out])
  ·have br:Hid (jJ m r=min r.plain r.known):=by rw[Hid,l.out,hkw];rfl
   rw[hkw]at p4;go_wp2_with fail
   all_goals (go_meet;refine⟨R3 (Value.int .i64) ?_,rfl⟩;rw[br.out])
 case rest=>
  obtain⟨rfl,rfl⟩:=hcut;obtain⟨N,ca⟩:=ex (jJ m r);rw[<-ca]at nb HV⊢;clear ca l;have dt:IntKind.i64.wrap (m.day+1)=m.day+1:=wrap_i64 _ (by omega);have dw:IntKind.i64.wrap (m.day+1-c.new.day)=m.day+1-c.new.day:=wrap_i64 _ (by omega);have dy:IntKind.i64.wrap (r.least-lv)=r.least-lv:=wrap_i64 _ (by omega);have ea:IntKind.i64.wrap (N-q)=N-q:=wrap_i64 _ (by omega);have eb:∀x y:Int,(if x<y then y else x)=max x y:=λx y=>by split<;>omega
  have l0:=λx:aj w wc=>x.cell s0;have l1:=λx:aj w wc=>x.cell s1;have l2:=λx:aj w wc=>x.cell s2;have l4:=λx:aj w wc=>x.cell s4;have l5:=λx:aj w wc=>x.cell s5;have l6:=λx:aj w wc=>x.cell s6;have l7:=λx:aj w wc=>x.cell s7;have l8:=λx:aj w wc=>x.cell s8;have l9:=λx:aj w wc=>x.cell y0;have cx:=λx:aj w wc=>x.cell p0;have cy:=λx:aj w wc=>x.cell p1;have cA:=λx:aj w wc=>x.cell p2;have cB:=λx:aj w wc=>x.cell p3;have cC:=λx:aj w wc=>x.cell p4;have cD:=λx:aj w wc=>x.cell E;have T0:Hid (wc.cell? ⟨N0,7,none⟩=some (.int .i64 c.new.day)/\wc.cell? ⟨N0,10,none⟩=some (.slice (some ⟨G,f,none⟩) c.kin.length ck)/\wc.cell? ⟨N1,1,none⟩=some (.int .i64 r.least)/\wc.cell? ⟨N3,3,none⟩=some (.int .i64 m.day)/\wc.cell? ⟨G,f+i,none⟩=some (.int .i64 q)/\wc.heap[H]? =some (.cells #[.int .i64 0,.int .i64 0,.int .i64 0] 86)):=⟨s7,bo,y1,p3,zx,bd⟩
  clear s0 s1 s2 s4 s5 s6 s7 s8 bo y0 y1 y2 y3 p0 p1 p2 p3 p4 zx bd E;go_upto_region 5 with fail;refine bj (w0:=w) (w1:=wc) (by kernel_rfl) (by kernel_rfl) (ae.refl _) HB.out.1 ?_;haveI cF:Nonempty (aj w wc):=⟨⟨wc,ae.refl _,HB.out.1⟩⟩
  repeat (go_big_quiet_step (first|(go_at_fn F;exact qL _)))
  refine wpQuiet_nil ?_;rintro wz ⟨⟨_,Sz,Bz⟩,rfl⟩;have t0:=Sz.cell T0.out.1;have t1:=Sz.cell T0.out.2.1;have t2:=Sz.cell T0.out.2.2.1;have t3:=Sz.cell T0.out.2.2.2.1;have t4:=Sz.cell T0.out.2.2.2.2.1;have cb:=Sz _ _ _ _ T0.out.2.2.2.2.2;have BZ:Hid _:=Bz;clear qL l0 l1 l2 l4 l5 l6 l7 l8 l9 cx cy cA cB cC cD cF Sz Bz;go_upto_region 6 with fail;refine wp_region_any (by kernel_rfl) ?_;obtain⟨O,j⟩:=ex (wz.drew);rw[show({heap:=wz.heap,tape:=wz.tape,drawn:=wz.drawn+1,os:=wz.os,output:=wz.output}:World)=O from j.symm];have BY:Hid (Below w.heap.size w O):=by rw[j];exact BZ.out.drew
  have m0:O.cell? ⟨N0,7,none⟩=some (.int .i64 c.new.day):=by rw[j];exact t0
  have m1:O.cell? ⟨N0,10,none⟩=some (.slice (some ⟨G,f,none⟩) c.kin.length ck):=by rw[j];exact t1
  have m2:O.cell? ⟨N1,1,none⟩=some (.int .i64 r.least):=by rw[j];exact t2
  have m3:O.cell? ⟨N3,3,none⟩=some (.int .i64 m.day):=by rw[j];exact t3
  have m4:O.cell? ⟨G,f+i,none⟩=some (.int .i64 q):=by rw[j];exact t4
  have n:O.heap[H]? =some (.cells #[.int .i64 0,.int .i64 0,.int .i64 0] 86):=by rw[j];exact cb
  have n0:=cell_of_heap n 0 _ rfl;have n1:=cell_of_heap n 1 _ rfl;have n2:=cell_of_heap n 2 _ rfl;have g0:=frozen_of_heap n 0;have g1:=frozen_of_heap n 1;have g2:=frozen_of_heap n 2;clear t0 t1 t2 t3 t4 j cb n;refine jZ (I:=λs a W=>∃x7 P Q R S T U V X Y Z aa ab ad ag al an ao ar ax ay aM a1 a6 a7 a8:Value,a=⟨#[.agg #[v0,v1,v2,vr,.string c.new.name,.string c.new.word,vf,.int .i64 c.new.day,.bool c.new.known,.slice (some ⟨bm,om,none⟩) c.marks.length cm,.slice (some ⟨G,f,none⟩) c.kin.length ck],.int .i64 i,.agg #[.int .i64 kn,.int .i64 r.least,.int .i64 r.plain,.int .i64 r.known],.pointer (some ⟨N0,0,none⟩),undef,.pointer (some ⟨N1,0,none⟩),.pointer (some ⟨H,0,none⟩),x7,.pointer (some ⟨N3,0,none⟩),.int .i64 N,.int .i64 lv,u11,u12,u13,u14,u15,u16,u17,u18,u19,u20,u21,u22,u23,u24,.pointer (some ⟨N1,0,none⟩),.int .i64 kn,.pointer (some ⟨0,kn*2,none⟩),.pointer (some ⟨0,kn*2+1,none⟩),.func (.func F) #[] #[],.pointer (some ⟨N0,0,none⟩),.pointer (some ⟨N0,0,none⟩),.agg #[v0,v1,v2],.agg #[v0,v1,v2],.pointer (some ⟨N0,0,none⟩),.pointer (some ⟨N0,4,none⟩),.agg #[.string c.new.name,.string c.new.word,vf,.int .i64 c.new.day,.bool c.new.known],.agg #[.string m.name,.string m.word,.slice af m.aX.length cf,.int .i64 m.day,.bool m.known],.int .i64 lv,P,Q,R,S,T,U,V,X,Y,Z,aa,ab,ad,ag,al,an,ao,ar,ax,ay,aM,a1,a6,a7,a8],[]⟩/\Agr s 0 [P,Q,R,S,T,U,V,X,Y,Z,aa,ab,ad,ag,al,an,ao,ar,ax,ay,aM,a1,a6,a7,a8,undef,x7] [.pointer (some ⟨N3,3,none⟩),.int .i64 (m.day),.int .i64 (m.day+1),.pointer (some ⟨N0,0,none⟩),.pointer (some ⟨N0,4,none⟩),.pointer (some ⟨N0,7,none⟩),.int .i64 (c.new.day),.int .i64 (m.day+1-c.new.day),.int .i64 (max 0 (m.day+1-c.new.day)),.pointer (some ⟨N1,1,none⟩),.int .i64 (r.least),.int .i64 (lv),.int .i64 (r.least-lv),.int .i64 (max 0 (r.least-lv)),.int .i64 (N),.pointer (some ⟨N0,0,none⟩),.pointer (some ⟨N0,10,none⟩),.slice (some ⟨G,f,none⟩) c.kin.length ck,.int .i64 (i),.pointer (some ⟨G,f+i,none⟩),.int .i64 (q),.int .i64 (N-q),.int .i64 (max 0 (N-q)),.agg #[.int .i64 (max 0 (m.day+1-c.new.day)),.int .i64 (max 0 (r.least-lv)),.int .i64 (max 0 (N-q))],.int .i64 (lv),undef,.int .i64 lv]/\s.size=27/\((s.getD 25 false=false/\W=O)\/(s.getD 25 false=true/\(∀k,k<24->s.getD k false=true)/\Below w.heap.size w W/\W.cell? ⟨H,0,none⟩=some (.int .i64 (max 0 (m.day+1-c.new.day)))/\W.cell? ⟨H,1,none⟩=some (.int .i64 (max 0 (r.least-lv)))/\W.cell? ⟨H,2,none⟩=some (.int .i64 (max 0 (N-q)))))) ?step ?fin _ _ _ _ (by simp) ?start;case start=>refine⟨_,_,_,_,_,_,_,_,_,_,_,_,_,_,_,_,_,_,_,_,_,_,_,_,_,_,rfl,Agr.start rfl,?_⟩;simp
  case fin=>
   rintro s a W ⟨x7,P,Q,R,S,T,U,V,X,Y,Z,aa,ab,ad,ag,al,an,ao,ar,ax,ay,aM,a1,a6,a7,a8,rfl,J,u,hW⟩ hr;have D:=λk (hk:k<27)=>lX u (by kernel_rfl) hr (k+1) k (To k) hk;obtain⟨k0,k1,k2,k3,k4,k5,k6,k7,k8,k9,cG,cH,cI,cK,cL,cM,cR,cS,cU,cV,cX,cY,c0,c1,c5,c6,c7,_⟩:=J;obtain rfl:=c7 (D 26 (by decide));obtain⟨_,_,b1,b2,b3,b4⟩:=hW.resolve_left λh=>by rw[D 25 (by decide)]at h;cases h.1
   clear D k0 k1 k2 k3 k4 k5 k6 k7 k8 k9 cG cH cI cK cL cM cR cS cU cV cX cY c0 c1 c5 c6;go_wp2;all_goals
    refine bodyPost_ret (v:=.tuple #[.agg #[.int .i64 (max 0 (m.day+1-c.new.day)),.int .i64 (max 0 (r.least-lv)),.int .i64 (max 0 (N-q))],.int .i64 lv]) ?_ rfl ⟨by rw[HV.out];rfl,b1⟩;simp[results,Tryz.results84,go_sem, *]
  case step=>
   rintro s a W i ⟨x7,P,Q,R,S,T,U,V,X,Y,Z,aa,ab,ad,ag,al,an,ao,ar,ax,ay,aM,a1,a6,a7,a8,rfl,J,u,hW⟩ hr;obtain⟨cc,o,ho,d⟩:=mem_ready.1 hr;have hi:i<27:=(Rx.1 ho).1;clear hr;obtain rfl|rfl|rfl|rfl|rfl|rfl|rfl|rfl|rfl|rfl|rfl|rfl|rfl|rfl|rfl|rfl|rfl|rfl|rfl|rfl|rfl|rfl|rfl|rfl|rfl|rfl|rfl:i=25\/i=26\/i=24\/i=0\/i=1\/i=2\/i=3\/i=4\/i=5\/i=6\/i=7\/i=8\/i=9\/i=10\/i=11\/i=12\/i=13\/i=14\/i=15\/i=16\/i=17\/i=18\/i=19\/i=20\/i=21\/i=22\/i=23:=by omega
   all_goals
    obtain rfl:=RS ho;clear ho hi;refine wpOp_step rfl λK' cd=>?_;have HK:Hid (∀a w,_->K' a w):=cd;clear cd
   ·obtain⟨hu,rfl⟩:=hW.resolve_right λh=>absurd h.1 (fK cc)
    have hH:Hid _:=d
    (try (have e:=J.dep d 0 rfl rfl;(conv at e=>lhs;whnf);(conv at e=>rhs;whnf);subst e))
    clear d hW;go_simp;exact HK.out _ _ ⟨_,_,_,_,_,_,_,_,_,_,_,_,_,_,_,_,_,_,_,_,_,_,_,_,_,_,rfl,J.set _,by rw[RZ];exact u,.inr ⟨eK (by rw[u];decide),λk hk=>bc (oJ hH.out (by kernel_rfl) k hk),((BY.out.setCell (p:=⟨H,0,none⟩) HB.out.2 _).setCell (p:=⟨H,1,none⟩) HB.out.2 _).setCell (p:=⟨H,2,none⟩) HB.out.2 _,(sT n0 n1 n2).1,(sT n0 n1 n2).2.1,(sT n0 n1 n2).2.2⟩⟩
   iterate 2
    (try (have e:=J.dep d 0 rfl rfl;(conv at e=>lhs;whnf);(conv at e=>rhs;whnf);subst e))
    clear d;go_simp;exact HK.out _ _ ⟨_,_,_,_,_,_,_,_,_,_,_,_,_,_,_,_,_,_,_,_,_,_,_,_,_,_,rfl,J.set _,by rw[RZ];exact u,hW.imp (λh=>⟨(getD_set_ne false (by decide)).trans h.1,h.2⟩) λh=>⟨bc h.1,λk hk=>bc (h.2.1 k hk),h.2.2⟩⟩
   all_goals
    obtain⟨hu,rfl⟩:=hW.resolve_right λh=>absurd (h.2.1 _ (by decide)) (fK cc)
    (try (have e:=J.dep d 0 rfl rfl;(conv at e=>lhs;whnf);(conv at e=>rhs;whnf);subst e))
    (try (have e:=J.dep d 1 rfl rfl;(conv at e=>lhs;whnf);(conv at e=>rhs;whnf);subst e))
    (try (have e:=J.dep d 2 rfl rfl;(conv at e=>lhs;whnf);(conv at e=>rhs;whnf);subst e))
    clear d hW;go_simp;exact HK.out _ _ ⟨_,_,_,_,_,_,_,_,_,_,_,_,_,_,_,_,_,_,_,_,_,_,_,_,_,_,rfl,J.set _,by rw[RZ];exact u,.inl ⟨(getD_set_ne false (by decide)).trans hu,rfl⟩⟩
end Go.Proofs

import Derived.Test.YtaglpcmhopjebaaGreatDoorY37
set_option linter.all false
set_option maxRecDepth 100000
set_option maxHeartbeats 20000000
namespace Go.Proofs
open Go.Tm Go.RowKit
variable {fs:Array Func} (L:bQ fs)
def eC(k:Nat):Nat:=if k=0 then 230 else if k=1 then 232 else if k=2 then 233 else if k=3 then 236 else if k=4 then 238 else 240
def ia(w:World):Prop:=∀k,k<6->w.cell? ⟨0,k*2+1,none⟩=some (.func (.func (eC k)) #[] #[])
def ia.stays{w w'}(h:ia w)(a:ae w w'):ia w':=λk b=>a.cell (h k b)
def ic(fs:Array Func)(k:Nat):Prop:=∀(K:Nat->Prop) (v0 v1 v2:Value) (t:Table) (m1 m2:Array Value) (one two:Mark) (w:World),IsTable K w v0 v1 v2 t->OkT t->dg K w m1 one->dg K w m2 two->OkM one->OkM two->gZ w->Calls (Qs fs) (eC k) #[.agg #[v0,v1,v2],.agg m1,.agg m2] w λe w'=>e=.returned (.int .i64 (bD t k one two))/\Below w.heap.size w w'
def Om(md:Region.Mode)(ops:Array Oper):Bool:=(List.range ops.size).all λk=>match ops[k]? with
 |some o=>o.after.all λe=> !Region.binds md e||decide (e.on<k)
 |none=>true
theorem lU{md ops s}(a:s.size=ops.size)(f:Om md ops=true)(g:Region.ready md ops s=[]):∀(n k),k<n->k<ops.size->s.getD k false=true
 |0,k,h,_=>absurd h (RZ _)
 |n+1,k,h,b=>by
  cases i:s.getD k false with
  |true=>rfl
  |false=>
   exfalso;have c:k<s.size:=by omega
   have o:s.getD k true=false:=by rw[Sw,RV c]at i⊢;exact i
   have j:k∈Region.ready md ops s:=mem_ready.2 ⟨o,ops[k],RV b,λe p d=>by have l:=Sm.1 f k (Uq.2 b);rw[RV b]at l;have m:=Ub.1 l e p;simp only[d,Tj,Ua]at m;have q:e.on<k:=Su m;exact lU a f g n e.on (by omega) (by omega)⟩
   rw[g]at j;cases j
def sO{w:World}{b x y z a1 a c}(n0:w.cell? ⟨b,0,none⟩=some a1)(d:w.cell? ⟨b,1,none⟩=some a)(f:w.cell? ⟨b,2,none⟩=some c):
 (((w.setCell ⟨b,0,none⟩ x).setCell ⟨b,1,none⟩ y).setCell ⟨b,2,none⟩ z).cell? ⟨b,0,none⟩=some x/\
 (((w.setCell ⟨b,0,none⟩ x).setCell ⟨b,1,none⟩ y).setCell ⟨b,2,none⟩ z).cell? ⟨b,1,none⟩=some y/\
 (((w.setCell ⟨b,0,none⟩ x).setCell ⟨b,1,none⟩ y).setCell ⟨b,2,none⟩ z).cell? ⟨b,2,none⟩=some z:=by
 have e:∀i j:Nat,i≠j->(⟨b,i,none⟩:Addr)≠⟨b,j,none⟩:=λi j h g=>h (by cases g;rfl);refine⟨?_,?_,?_⟩
 ·rw[World.cell?_setCell_other _ _ _ _ (e 2 0 (by decide)),World.cell?_setCell_other _ _ _ _ (e 1 0 (by decide))]
  exact World.cell?_setCell_same' _ _ _ (by rw[n0];rfl)
 ·rw[World.cell?_setCell_other _ _ _ _ (e 2 1 (by decide))]
  exact World.cell?_setCell_same' _ _ _ (by rw[World.cell?_setCell_other _ _ _ _ (e 0 1 (by decide)),d];rfl)
 ·exact World.cell?_setCell_same' _ _ _ (by rw[World.cell?_setCell_other _ _ _ _ (e 1 2 (by decide)),World.cell?_setCell_other _ _ _ _ (e 0 2 (by decide)),f];rfl)
def eD{s:Array Bool}{i}(h:i<s.size):(s.setIfInBounds i true).getD i false=true:=by simp[h]
def Ki:ic fs 0:=λK v0 v1 v2 t m1 m2 one two w a b c d e f g=>MJ L w a b c d e f
def On:ic fs 1:=λK v0 v1 v2 t m1 m2 one two w a b c d e f g=>ML L w a b c d e f g
def Oo:ic fs 2:=λK v0 v1 v2 t m1 m2 one two w a b c d e f g=>MM L w a b c d e f
def Kj:ic fs 3:=λK v0 v1 v2 t m1 m2 one two w a b c d e f g=>MP L w a b c d e f
def Kk(k:Nat)(b:k<6):∀a w,(callFunc (eC k) a).run (Qs fs) w=.ok (.enter (eC k) a) w:=by
 match k,b with
 |0,_=>exact QZ L
 |1,_=>exact Q0 L
 |2,_=>exact Q1 L
 |3,_=>exact Q2 L
 |4,_=>exact Q3 L
 |5,_=>exact Q4 L
def Kl{K:Nat->Prop}{sc:Array Value}{c:Case}(i k:Nat)(w:World)(hc:bl K w sc c)(M:OkC c)(hi:i<c.marks.length)(hk:k<c.rules.length)(bs:i<c.kin.length)(t:ic fs c.rules[k].kind.toNat)(hm:gZ w)(bx:ia w):
 Calls (Qs fs) 84 #[.agg sc,.int .i64 i,.agg #[.int .i64 c.rules[k].kind,.int .i64 c.rules[k].least,.int .i64 c.rules[k].plain,.int .i64 c.rules[k].known]] w λe w'=>e=.returned (.tuple #[BG (lP c c.marks[i] c.kin[i] c.rules[k]),.int .i64 (bD c.table c.rules[k].kind c.new c.marks[i])])/\Below w.heap.size w w':=by
 obtain⟨v0,v1,v2,vr,vf,vm,vk,rfl,ht,hr,hf,cl,z⟩:=hc;obtain⟨r1,r2,r3,r4,r5,r6,r7,r8⟩:=M.rules _ (RR hk);obtain⟨k1,k2⟩:=M.kin _ (RR bs);have A:=M.marks _ (RR hi);obtain⟨am,cm,rfl,_,_,_,gm⟩:=cl;obtain⟨bm,om,rfl,x0,x1,xf,x3,x4⟩:=gm i hi;obtain⟨dp,bb,xf⟩:=xf;obtain⟨af,cf,rfl,_⟩:=id xf;obtain⟨ak,ck,rfl,_,_,_,gk⟩:=z;obtain⟨G,f,rfl,z0⟩:=gk i bs;rw[SG]at z0;have z0:w.cell? ⟨G,f+i,none⟩=some (.int .i64 c.kin[i]):=z0;obtain⟨m,bA⟩:=ex (c.marks[i]);obtain⟨r,bB⟩:=ex (c.rules[k]);obtain⟨q,bC⟩:=ex (c.kin[i]);rw[<-bA]at x0 x1 bb xf x3 x4 A⊢;rw[<-bB]at r1 r2 r3 r4 r5 r6 r7 r8 t⊢;rw[<-bC]at z0 k1 k2⊢;obtain⟨kn,z⟩:∃kn:Nat,r.kind=kn:=⟨r.kind.toNat,by omega⟩
 have ba:kn<6:=by omega
 rw[z]at t⊢;have t:ic fs kn:=t;clear bA bB bC gm gk;have cn:c.marks.length<=8:=M.sx;obtain⟨wa,B⟩:=ex (((w.alloc (.cells #[v0,v1,v2,vr,.string c.new.name,.string c.new.word,vf,.int .i64 c.new.day,.bool c.new.known,.slice (some ⟨bm,om,none⟩) c.marks.length cm,.slice (some ⟨G,f,none⟩) c.kin.length ck] 125)).alloc (.cells #[.int .i64 kn,.int .i64 r.least,.int .i64 r.plain,.int .i64 r.known] 69)).alloc (.cells #[.int .i64 0,.int .i64 0,.int .i64 0] 86));obtain⟨Sa,Ba,cs,cr,cz⟩:=iK w _ _ _ _ _ _ wa B;obtain⟨w1,C⟩:=ex (wa.alloc (.cells #[.string m.name,.string m.word,.slice af m.aW.length cf,.int .i64 m.day,.bool m.known] 38));have b:ae wa w1:=by rw[C];exact ae.alloc _ _
 have S1:ae w w1:=Sa.trans b;have B1:Below w.heap.size w w1:=by rw[C];exact Ba.alloc Ba.size _
 have b0:wa.heap.size=w.heap.size+1+1+1:=by rw[B];simp
 have g:∀i v,(#[.string m.name,.string m.word,.slice af m.aW.length cf,.int .i64 m.day,.bool m.known]:Array Value)[i]? =some v->w1.cell? ⟨w.heap.size+1+1+1,i,none⟩=some v:=λi v h=>by rw[C,<-b0];exact aw wa _ 38 i v h
 have bd:w1.heap[w.heap.size+1+1]? =some (.cells #[.int .i64 0,.int .i64 0,.int .i64 0] 86):=by
  refine b _ _ _ _ ?_;have h:((w.alloc (.cells #[v0,v1,v2,vr,.string c.new.name,.string c.new.word,vf,.int .i64 c.new.day,.bool c.new.known,.slice (some ⟨bm,om,none⟩) c.marks.length cm,.slice (some ⟨G,f,none⟩) c.kin.length ck] 125)).alloc (.cells #[.int .i64 kn,.int .i64 r.least,.int .i64 r.plain,.int .i64 r.known] 69)).heap.size=w.heap.size+1+1:=by simp
  rw[B,<-h];exact Sd
 obtain⟨N0,h0⟩:=ex (w.heap.size);obtain⟨N1,h1⟩:=ex (w.heap.size+1);obtain⟨H,h2⟩:=ex (w.heap.size+1+1);obtain⟨N3,h3⟩:=ex (w.heap.size+1+1+1);have s0:=b.cell (cs 0 _ rfl);have s1:=b.cell (cs 1 _ rfl);have s2:=b.cell (cs 2 _ rfl);have s4:=b.cell (cs 4 _ rfl);have s5:=b.cell (cs 5 _ rfl);have s6:=b.cell (cs 6 _ rfl);have s7:=b.cell (cs 7 _ rfl);have s8:=b.cell (cs 8 _ rfl);have bo:=b.cell (cs 10 _ rfl);have b5:=cs 9 _ rfl;have y0:=b.cell (cr 0 _ rfl);have y1:=b.cell (cr 1 _ rfl);have y2:=b.cell (cr 2 _ rfl);have y3:=b.cell (cr 3 _ rfl);have p0:=g 0 _ rfl;have p1:=g 1 _ rfl;have p2:=g 2 _ rfl;have p3:=g 3 _ rfl;have p4:=g 4 _ rfl;have zx:=S1.cell z0;have E:=(bx.stays S1) kn ba;have cp:=Sa.cell x0;have cq:=Sa.cell x1;have cu:=Sa.cell bb;have cv:=Sa.cell x3;have cw:=Sa.cell x4;rw[<-h3]at p0 p1 p2 p3 p4;rw[<-h2]at bd;rw[<-h1]at y0 y1 y2 y3;rw[<-h0]at s0 s1 s2 s4 s5 s6 s7 s8 bo b5;have HB:Hid (Below w.heap.size w w1/\w.heap.size<=H):=⟨B1,by omega⟩
 have b6:N3=wa.heap.size:=by omega
 have b7:Hid (w1=wa.alloc (.cells #[.string m.name,.string m.word,.slice af m.aW.length cf,.int .i64 m.day,.bool m.known] 38)/\N3=wa.heap.size):=⟨C,b6⟩
 have c8:(i:Int)<(c.marks.length:Int):=by omega
 have c9:(i:Int)<(c.kin.length:Int):=by omega
 have dc:(kn:Int)<6:=by omega
 have ek:=Kk L kn ba;have qL:∀x:aj w w1,Calls (Qs fs) (eC kn) #[.agg #[v0,v1,v2],.agg #[.string c.new.name,.string c.new.word,vf,.int .i64 c.new.day,.bool c.new.known],.agg #[.string m.name,.string m.word,.slice af m.aW.length cf,.int .i64 m.day,.bool m.known]] x.val λe w'=>e=.returned (.int .i64 (bD c.table kn c.new m))/\∃y:aj w w1,w'=y.val:=λx=>aj.calls (t K v0 v1 v2 c.table _ _ c.new m x.val (ht.stays (S1.trans x.st)) M.table ⟨vf,rfl,hf.ints (S1.trans x.st)⟩ ⟨_,rfl,xf.ints (S1.trans x.st)⟩ M.new A (hm.stays (S1.trans x.st)))
 have lb:=lh c.table kn c.new m M.new.fig A.fig;have nb: -1000<=jG m r/\jG m r<=1000:=by unfold jG;split<;>omega
 have l:Hid (jG m r=if m.known then min r.plain r.known else r.plain):=rfl;have HV:Hid (lP c m q r=⟨max 0 (m.day+1-c.new.day),max 0 (r.least-bD c.table kn c.new m),max 0 (jG m r-q)⟩):=by rw[Hid,BH,z]
 obtain⟨lv,b8⟩:=ex (bD c.table kn c.new m);rw[<-b8]at qL lb HV⊢;have dr:=A.day;have ds:=M.new.day;obtain⟨F,hF⟩:=ex (eC kn);rw[<-hF]at qL E ek;clear b8 z t hF bx hm x0 x1 x3 x4 bb xf z0 ht hr hf cs cr cz g S1 b B1 Ba M A b0 cn C b6 h3;go_enter (n84 L),Tryz.ntmps84;go_upto_region 1 with fail;rw[<-B,<-h2,<-h1,<-h0];clear B h0 h1 h2;go_upto_region 2 with fail;rw[<-b7.out.1,<-b7.out.2];clear cp cq cu cv cw b5;go_upto_if 20 with fail;go_cut [9]from 10 (λs9 wx=>s9=.int .i64 (jG m r)/\wx=w1)
 case first=>
  have dd:∀x y:Int,(if x<y then x else y)=min x y:=λx y=>by split<;>omega
  rcases hkw:m.known
  ·have br:Hid (jG m r=r.plain):=by rw[Hid,l.out,hkw];rfl
   rw[hkw]at p4;go_wp2_with fail
   all_goals (go_meet;refine⟨R6 (Value.int .i64) ?_,rfl⟩;rw[br.out])
  ·have br:Hid (jG m r=min r.plain r.known):=by rw[Hid,l.out,hkw];rfl
   rw[hkw]at p4;go_wp2_with fail
   all_goals (go_meet;refine⟨R6 (Value.int .i64) ?_,rfl⟩;rw[br.out])
 case rest=>
  obtain⟨rfl,rfl⟩:=hcut;obtain⟨N,ca⟩:=ex (jG m r);rw[<-ca]at nb HV⊢;clear ca l;have dt:IntKind.i64.wrap (m.day+1)=m.day+1:=wrap_i64 _ (by omega);have dw:IntKind.i64.wrap (m.day+1-c.new.day)=m.day+1-c.new.day:=wrap_i64 _ (by omega);have dy:IntKind.i64.wrap (r.least-lv)=r.least-lv:=wrap_i64 _ (by omega);have ea:IntKind.i64.wrap (N-q)=N-q:=wrap_i64 _ (by omega);have eb:∀x y:Int,(if x<y then y else x)=max x y:=λx y=>by split<;>omega
  have l0:=λx:aj w wc=>x.cell s0;have l1:=λx:aj w wc=>x.cell s1;have l2:=λx:aj w wc=>x.cell s2;have l4:=λx:aj w wc=>x.cell s4;have l5:=λx:aj w wc=>x.cell s5;have l6:=λx:aj w wc=>x.cell s6;have l7:=λx:aj w wc=>x.cell s7;have l8:=λx:aj w wc=>x.cell s8;have l9:=λx:aj w wc=>x.cell y0;have cx:=λx:aj w wc=>x.cell p0;have cy:=λx:aj w wc=>x.cell p1;have cA:=λx:aj w wc=>x.cell p2;have cB:=λx:aj w wc=>x.cell p3;have cC:=λx:aj w wc=>x.cell p4;have cD:=λx:aj w wc=>x.cell E;have T0:Hid (wc.cell? ⟨N0,7,none⟩=some (.int .i64 c.new.day)/\wc.cell? ⟨N0,10,none⟩=some (.slice (some ⟨G,f,none⟩) c.kin.length ck)/\wc.cell? ⟨N1,1,none⟩=some (.int .i64 r.least)/\wc.cell? ⟨N3,3,none⟩=some (.int .i64 m.day)/\wc.cell? ⟨G,f+i,none⟩=some (.int .i64 q)/\wc.heap[H]? =some (.cells #[.int .i64 0,.int .i64 0,.int .i64 0] 86)):=⟨s7,bo,y1,p3,zx,bd⟩
  clear s0 s1 s2 s4 s5 s6 s7 s8 bo y0 y1 y2 y3 p0 p1 p2 p3 p4 zx bd E;go_upto_region 5 with fail;refine bh (w0:=w) (w1:=wc) (by kernel_rfl) (by kernel_rfl) (ae.refl _) HB.out.1 ?_;haveI cF:Nonempty (aj w wc):=⟨⟨wc,ae.refl _,HB.out.1⟩⟩
  repeat (go_big_quiet_step (first|(go_at_fn F;exact qL _)))
  refine wpQuiet_nil ?_;rintro wz ⟨⟨_,Sz,Bz⟩,rfl⟩;have t0:=Sz.cell T0.out.1;have t1:=Sz.cell T0.out.2.1;have t2:=Sz.cell T0.out.2.2.1;have t3:=Sz.cell T0.out.2.2.2.1;have t4:=Sz.cell T0.out.2.2.2.2.1;have cb:=Sz _ _ _ _ T0.out.2.2.2.2.2;have BZ:Hid _:=Bz;clear qL l0 l1 l2 l4 l5 l6 l7 l8 l9 cx cy cA cB cC cD cF Sz Bz;go_upto_region 6 with fail;refine wp_region_any (by kernel_rfl) ?_;obtain⟨O,j⟩:=ex (wz.drew);rw[show({heap:=wz.heap,tape:=wz.tape,drawn:=wz.drawn+1,os:=wz.os,output:=wz.output}:World)=O from j.symm];have BY:Hid (Below w.heap.size w O):=by rw[j];exact BZ.out.drew
  have m0:O.cell? ⟨N0,7,none⟩=some (.int .i64 c.new.day):=by rw[j];exact t0
  have m1:O.cell? ⟨N0,10,none⟩=some (.slice (some ⟨G,f,none⟩) c.kin.length ck):=by rw[j];exact t1
  have m2:O.cell? ⟨N1,1,none⟩=some (.int .i64 r.least):=by rw[j];exact t2
  have m3:O.cell? ⟨N3,3,none⟩=some (.int .i64 m.day):=by rw[j];exact t3
  have m4:O.cell? ⟨G,f+i,none⟩=some (.int .i64 q):=by rw[j];exact t4
  have n:O.heap[H]? =some (.cells #[.int .i64 0,.int .i64 0,.int .i64 0] 86):=by rw[j];exact cb
  have n0:=cell_of_heap n 0 _ rfl;have n1:=cell_of_heap n 1 _ rfl;have n2:=cell_of_heap n 2 _ rfl;have g0:=frozen_of_heap n 0;have g1:=frozen_of_heap n 1;have g2:=frozen_of_heap n 2;clear t0 t1 t2 t3 t4 j cb n;refine jV (I:=λs a W=>∃x7 P Q R S T U V X Y Z aa ab ad ag al an ao ar ax ay aM a1 a6 a7 a8:Value,a=⟨#[.agg #[v0,v1,v2,vr,.string c.new.name,.string c.new.word,vf,.int .i64 c.new.day,.bool c.new.known,.slice (some ⟨bm,om,none⟩) c.marks.length cm,.slice (some ⟨G,f,none⟩) c.kin.length ck],.int .i64 i,.agg #[.int .i64 kn,.int .i64 r.least,.int .i64 r.plain,.int .i64 r.known],.pointer (some ⟨N0,0,none⟩),undef,.pointer (some ⟨N1,0,none⟩),.pointer (some ⟨H,0,none⟩),x7,.pointer (some ⟨N3,0,none⟩),.int .i64 N,.int .i64 lv,u11,u12,u13,u14,u15,u16,u17,u18,u19,u20,u21,u22,u23,u24,.pointer (some ⟨N1,0,none⟩),.int .i64 kn,.pointer (some ⟨0,kn*2,none⟩),.pointer (some ⟨0,kn*2+1,none⟩),.func (.func F) #[] #[],.pointer (some ⟨N0,0,none⟩),.pointer (some ⟨N0,0,none⟩),.agg #[v0,v1,v2],.agg #[v0,v1,v2],.pointer (some ⟨N0,0,none⟩),.pointer (some ⟨N0,4,none⟩),.agg #[.string c.new.name,.string c.new.word,vf,.int .i64 c.new.day,.bool c.new.known],.agg #[.string m.name,.string m.word,.slice af m.aW.length cf,.int .i64 m.day,.bool m.known],.int .i64 lv,P,Q,R,S,T,U,V,X,Y,Z,aa,ab,ad,ag,al,an,ao,ar,ax,ay,aM,a1,a6,a7,a8],[]⟩/\Agr s 0 [P,Q,R,S,T,U,V,X,Y,Z,aa,ab,ad,ag,al,an,ao,ar,ax,ay,aM,a1,a6,a7,a8,undef,x7] [.pointer (some ⟨N3,3,none⟩),.int .i64 (m.day),.int .i64 (m.day+1),.pointer (some ⟨N0,0,none⟩),.pointer (some ⟨N0,4,none⟩),.pointer (some ⟨N0,7,none⟩),.int .i64 (c.new.day),.int .i64 (m.day+1-c.new.day),.int .i64 (max 0 (m.day+1-c.new.day)),.pointer (some ⟨N1,1,none⟩),.int .i64 (r.least),.int .i64 (lv),.int .i64 (r.least-lv),.int .i64 (max 0 (r.least-lv)),.int .i64 (N),.pointer (some ⟨N0,0,none⟩),.pointer (some ⟨N0,10,none⟩),.slice (some ⟨G,f,none⟩) c.kin.length ck,.int .i64 (i),.pointer (some ⟨G,f+i,none⟩),.int .i64 (q),.int .i64 (N-q),.int .i64 (max 0 (N-q)),.agg #[.int .i64 (max 0 (m.day+1-c.new.day)),.int .i64 (max 0 (r.least-lv)),.int .i64 (max 0 (N-q))],.int .i64 (lv),undef,.int .i64 lv]/\s.size=27/\((s.getD 25 false=false/\W=O)\/(s.getD 25 false=true/\(∀k,k<24->s.getD k false=true)/\Below w.heap.size w W/\W.cell? ⟨H,0,none⟩=some (.int .i64 (max 0 (m.day+1-c.new.day)))/\W.cell? ⟨H,1,none⟩=some (.int .i64 (max 0 (r.least-lv)))/\W.cell? ⟨H,2,none⟩=some (.int .i64 (max 0 (N-q)))))) ?step ?fin _ _ _ _ (by simp) ?start;case start=>refine⟨_,_,_,_,_,_,_,_,_,_,_,_,_,_,_,_,_,_,_,_,_,_,_,_,_,_,rfl,Agr.start rfl,?_⟩;simp
  case fin=>
   rintro s a W ⟨x7,P,Q,R,S,T,U,V,X,Y,Z,aa,ab,ad,ag,al,an,ao,ar,ax,ay,aM,a1,a6,a7,a8,rfl,J,u,hW⟩ hr;have D:=λk (hk:k<27)=>lU u (by kernel_rfl) hr (k+1) k (To k) hk;obtain⟨k0,k1,k2,k3,k4,k5,k6,k7,k8,k9,cG,cH,cI,cK,cL,cM,cR,cS,cU,cV,cX,cY,c0,c1,c5,c6,c7,_⟩:=J;obtain rfl:=c7 (D 26 (by decide));obtain⟨_,_,b1,b2,b3,b4⟩:=hW.resolve_left λh=>by rw[D 25 (by decide)]at h;cases h.1
   clear D k0 k1 k2 k3 k4 k5 k6 k7 k8 k9 cG cH cI cK cL cM cR cS cU cV cX cY c0 c1 c5 c6;go_wp2;all_goals
    refine bodyPost_ret (v:=.tuple #[.agg #[.int .i64 (max 0 (m.day+1-c.new.day)),.int .i64 (max 0 (r.least-lv)),.int .i64 (max 0 (N-q))],.int .i64 lv]) ?_ rfl ⟨by rw[HV.out];rfl,b1⟩;simp[results,Tryz.results84,go_sem, *]
  case step=>
   rintro s a W i ⟨x7,P,Q,R,S,T,U,V,X,Y,Z,aa,ab,ad,ag,al,an,ao,ar,ax,ay,aM,a1,a6,a7,a8,rfl,J,u,hW⟩ hr;obtain⟨cc,o,ho,d⟩:=mem_ready.1 hr;have hi:i<27:=(Rx.1 ho).1;clear hr;obtain rfl|rfl|rfl|rfl|rfl|rfl|rfl|rfl|rfl|rfl|rfl|rfl|rfl|rfl|rfl|rfl|rfl|rfl|rfl|rfl|rfl|rfl|rfl|rfl|rfl|rfl|rfl:i=25\/i=26\/i=24\/i=0\/i=1\/i=2\/i=3\/i=4\/i=5\/i=6\/i=7\/i=8\/i=9\/i=10\/i=11\/i=12\/i=13\/i=14\/i=15\/i=16\/i=17\/i=18\/i=19\/i=20\/i=21\/i=22\/i=23:=by omega
   all_goals
    obtain rfl:=RU ho;clear ho hi;refine wpOp_step rfl λK' cd=>?_;have HK:Hid (∀a w,_->K' a w):=cd;clear cd
   ·obtain⟨hu,rfl⟩:=hW.resolve_right λh=>absurd h.1 (fE cc)
    have hH:Hid _:=d
    (try (have e:=J.dep d 0 rfl rfl;(conv at e=>lhs;whnf);(conv at e=>rhs;whnf);subst e))
    clear d hW;go_simp;exact HK.out _ _ ⟨_,_,_,_,_,_,_,_,_,_,_,_,_,_,_,_,_,_,_,_,_,_,_,_,_,_,rfl,J.set _,by rw[R3];exact u,.inr ⟨eD (by rw[u];decide),λk hk=>bc (oJ hH.out (by kernel_rfl) k hk),((BY.out.setCell (p:=⟨H,0,none⟩) HB.out.2 _).setCell (p:=⟨H,1,none⟩) HB.out.2 _).setCell (p:=⟨H,2,none⟩) HB.out.2 _,(sO n0 n1 n2).1,(sO n0 n1 n2).2.1,(sO n0 n1 n2).2.2⟩⟩
   iterate 2
    (try (have e:=J.dep d 0 rfl rfl;(conv at e=>lhs;whnf);(conv at e=>rhs;whnf);subst e))
    clear d;go_simp;exact HK.out _ _ ⟨_,_,_,_,_,_,_,_,_,_,_,_,_,_,_,_,_,_,_,_,_,_,_,_,_,_,rfl,J.set _,by rw[R3];exact u,hW.imp (λh=>⟨(getD_set_ne false (by decide)).trans h.1,h.2⟩) λh=>⟨bc h.1,λk hk=>bc (h.2.1 k hk),h.2.2⟩⟩
   all_goals
    obtain⟨hu,rfl⟩:=hW.resolve_right λh=>absurd (h.2.1 _ (by decide)) (fE cc)
    (try (have e:=J.dep d 0 rfl rfl;(conv at e=>lhs;whnf);(conv at e=>rhs;whnf);subst e))
    (try (have e:=J.dep d 1 rfl rfl;(conv at e=>lhs;whnf);(conv at e=>rhs;whnf);subst e))
    (try (have e:=J.dep d 2 rfl rfl;(conv at e=>lhs;whnf);(conv at e=>rhs;whnf);subst e))
    clear d hW;go_simp;exact HK.out _ _ ⟨_,_,_,_,_,_,_,_,_,_,_,_,_,_,_,_,_,_,_,_,_,_,_,_,_,_,rfl,J.set _,by rw[R3];exact u,.inl ⟨(getD_set_ne false (by decide)).trans hu,rfl⟩⟩
def mW(k c:Int):Bool:=(k==1&&c !=0)||(k !=1&& !au c 97 122)
def kA(n:Nat)(k:Int):Int:=if k=0 then(n:Int)else n-1
def uP(p:Int)(q:Option Ed):Bool:=q.any λq=>decide (p<q.1)||(decide (p=q.1)&&decide (q.2.1≠0))
def Lo(n seen p k c):np n seen (p,k,c)=if !au k 0 2 then 1 else if !au p 0 (kA n k)then 6 else if mW k c then 3 else if uP p seen.getLast? then 7 else 0:=by
 unfold np mW kA uP;simp only[];have e1:decide (k≠1)=(k !=1):=by by_cases h:k=1<;>simp[h]
 have a:decide (c≠0)=(c !=0):=by by_cases h:c=0<;>simp[h]
 have h:(decide (k=1)&&decide (c≠0)||decide (k≠1)&& !au c 97 122)=(k==1&&c !=0||k !=1&& !au c 97 122):=by rw[e1,a];rfl
 rw[<-h]
def I3(p)(l:List Ed):uP p (l.take 0).getLast?=false:=rfl
def I4(p)(l:List Ed)(i)(a:i<l.length):uP p (l.take (i+1)).getLast?=(decide (p<l[i].1)||(decide (p=l[i].1)&&decide (l[i].2.1≠0))):=by rw[Tn a,VD];rfl
def eW(a:ByteArray)(l:List Ed):Int:=if fT a ⟨#[]⟩=0 then eR a.size l else fT a ⟨#[]⟩
def ov(a:ByteArray)(l:List Ed):ByteArray:=if eW a l=0 then bs (bP a.data.toList 0 l)else⟨#[]⟩
def xg(fs:Array Func)(w:World)(b a cap:Nat)(xs:List UInt8)(h:∀j (c:j<xs.length),w.cell? ⟨b,a+j,none⟩=some (Value.int .u8 (xs[j].toNat:Int))):
 (convert 120 9 (.slice (some ⟨b,a,none⟩) xs.length cap)).run (Qs fs) w=.ok (.string (bs xs)) w:=
 run_convert_bytes_back (P:=Qs fs) w 120 9 5 ⟨b,a,none⟩ cap xs (by rw[aH];exact Tryz.underlying120) (by rw[aH];exact Tryz.underlying5) (by rw[aH];exact Tryz.underlying9) (λj c=>by rw[dD];exact h j c)
def Lp(fs)(w:World)(n)(a:0<=n)(b:n<256):(convert 120 9 (.slice (some ⟨w.heap.size,0,none⟩) 1 1)).run (Qs fs) (w.alloc (.cells #[.int .u8 n] 5))=.ok (.string (bs [byteOf n])) (w.alloc (.cells #[.int .u8 n] 5)):=
 xg fs _ w.heap.size 0 1 [byteOf n] (λj c=>by
  obtain rfl:j=0:=by simpa using c
  have e:((byteOf n).toNat:Int)=n:=fS n a b;show _=some (Value.int .u8 ((byteOf n).toNat:Int));rw[e];exact aw w _ 5 0 _ rfl)
def OQ(x y):bs x++bs y=bs (x++y):=by rw[oF,bY]
def DZ(A i p k c l):bP A i ((p,k,c)::l)=(A.take p.toNat).drop i++(if k=1 then[]else[byteOf c])++bP A (if k=0 then p.toNat else p.toNat+1) l:=rfl
structure uH(A:Bs)(n:Nat)(l:List Ed)(j cur:Nat)(x:Bs):Prop where
 le:cur<=n
 len:x.length<=cur+j
 cu:iO (l.take j)=cur
 rest:kH (np n) (l.take j) (l.drop j)=0
 is:bP A 0 l=x++bP A cur (l.drop j)
def uH.start{A:Bs}{n:Nat}{l:List Ed}(h:eR n l=0):uH A n l 0 0 [] where
 le:=RA _
 len:=RA _
 cu:=rfl
 rest:=by
  unfold eR bp at h;split at h
  ·exact h
  ·cases h
 is:=rfl
def uH.step{A n l j cur x}(h:uH A n l j cur x)(m:j<l.length){p k c}(i:(p,k,c)=l[j]):
 ∃P:Nat,p=(P)/\cur<=P/\P<=n/\((k=0/\97<=c/\c<=122/\uH A n l (j+1) P (x++(A.take P).drop cur++[byteOf c]))\/(k=1/\P+1<=n/\uH A n l (j+1) (P+1) (x++(A.take P).drop cur))\/
  (k=2/\P+1<=n/\97<=c/\c<=122/\uH A n l (j+1) (P+1) (x++(A.take P).drop cur++[byteOf c]))):=by
 have o:l.drop j=l[j]::l.drop (j+1):=SE m;have q:l.take (j+1)=l.take j++[l[j]]:=Tn m;have r:=h.rest;rw[o]at r;obtain⟨t,g⟩:=xd _ _ _ _ r;have d:=DY n _ _ t;rw[<-i]at d;rw[h.cu]at d;obtain⟨f,u,v,e⟩:=d;simp only[]at f u v e;obtain⟨P,rfl⟩:∃P:Nat,p=(P:Int):=⟨p.toNat,by omega⟩
 have b:=h.is;rw[o,<-i,DZ,UP]at b;have a:=jr (l.take j) l[j];rw[<-q,<-i]at a;simp only[]at a;rw[<-q]at g;have s:=h.len;have w:=h.le;have y:((A.take P).drop cur).length<=P-cur:=by rw[RI,R9];omega
 refine⟨P,rfl,by omega,by omega,?_⟩;obtain⟨rfl,f⟩|⟨rfl,f⟩|⟨rfl,f⟩:=f
 ·rw[Ro (by decide)]at e
  rw[Rp rfl]at a;rw[Ro (by decide),Rp rfl]at b;exact .inl ⟨rfl,e.1,e.2,by omega,by simp only[RM,Rs,RF];omega,a,g,by rw[b];simp[R8]⟩
 ·rw[Ro (by decide)]at a
  rw[Rp rfl,Ro (by decide)]at b;exact .inr (.inl ⟨rfl,by omega,by omega,by simp only[RM];omega,by rw[a];omega,g,by rw[b];simp[R8]⟩)
 ·rw[Ro (by decide)]at e
  rw[Ro (by decide)]at a;rw[Ro (by decide),Ro (by decide)]at b;exact .inr (.inr ⟨rfl,by omega,e.1,e.2,by omega,by simp only[RM,Rs,RF];omega,by rw[a];omega,g,by rw[b];simp[R8]⟩)
def uH.done{A n l cur x}(h:uH A n l l.length cur x):bP A 0 l=x++A.drop cur:=by rw[h.is,List.drop_length];rfl
def yl(K:Nat->Prop)(w:World)(b o:Nat)(n:Int):Prop:=w.cell? ⟨b,o,none⟩=some (.int .u16 n)/\0<=n/\n<65536
def eI(l:List Int)(k:Int):Int:=l.getD k.toNat 0
def rQ{K w v l}(h:aB K 1 yl w v l)(k:Int):0<=eI l k/\eI l k<65536:=by
 obtain⟨ao,c,rfl,_,_,_,a⟩:=h;unfold eI;rw[Tv];obtain hk|hk:=Ry k.toNat l.length
 ·obtain⟨b,d,_,f,e⟩:=a _ hk
  rw[R5 hk];exact e
 ·rw[List.getElem?_eq_none hk]
  exact⟨by decide,by decide⟩
def LF{K v l}(k:Int)(w)(d:aB K 1 yl w v l)(o:0<=k):Calls (Qs fs) 71 #[v,.int .i64 k] w λe w'=>e=.returned (.int .i64 (eI l k))/\w'=w:=by
 have g:=rQ d k;obtain⟨ao,c,rfl,_,_,_,a⟩:=d;by_cases h:k<(l.length:Int)
 ·obtain⟨q,rfl⟩:∃q:Nat,k=q:=⟨k.toNat,by omega⟩
  have i:q<l.length:=by omega
  obtain⟨b,j,rfl,m,_,_⟩:=a q i;rw[SG]at m;have f:eI l q=l[q]:=by unfold eI;rw[Tv,show((q:Int)).toNat=q from rfl,R5 i];rfl
  rw[f]at g⊢;clear a f;go_enter (n71 L),Tryz.ntmps71;go_wp2;go_ret;exact⟨rfl,rfl⟩
 ·have f:eI l k=0:=by unfold eI;rw[Tv,List.getElem?_eq_none (by omega)];rfl
  rw[f];have n:decide (k<(l.length:Int))=false:=Rz h;clear a f h g;go_enter (n71 L),Tryz.ntmps71;go_wp2;go_ret;exact⟨rfl,rfl⟩
def OX{K v l}(m:Nat)(w)(a:aB K 1 yl w v l)(T:m<1000):
 Calls (Qs fs) 28 #[v,.int .i64 m,.int .i64 20] w λe w'=>∃x:Bs,e=.returned (.string (bs x))/\x.length<=20/\x.all aX=true/\Below w.heap.size w w':=by
 have e71:=e71 L;have F:=λ(k:Int) (h:0<=k) (c:World) (A:Below w.heap.size w c)=>LF L k c (a.stays (ae.below A) λx y o z e h=>by subst e;exact⟨(ae.below A).cell h.1,h.2⟩) h;have G:=λk=>rQ a k;obtain⟨ao,cp,rfl,_,_,_,_⟩:=id a;have H:Hid (∀(k:Int) (h:0<=k) (c:World) (A:Below w.heap.size w c),Calls (Qs fs) 71 #[.slice ao l.length cp,.int .i64 k] c λe w'=>e=.returned (.int .i64 (eI l k))/\w'=c):=F;have r:Hid (∀k,0<=eI l k/\eI l k<65536):=G;obtain⟨n,I⟩:∃n:Nat,eI l m%21=n:=⟨(eI l m%21).toNat,by omega⟩
 have J:n<=20:=by omega
 have O:Hid _:=I;clear F G a I;go_enter (n28 L),Tryz.ntmps28;go_wp2;go_loopw [7,8] (λP B wr=>∃(j:Nat) (x:Bs),P=.string (bs x)/\B=.int .i64 j/\x.length=j/\j<=n/\x.all aX=true/\Below w.heap.size w wr) (λ_ B _=>n-(intOf B).toNat)
 case atStart=>exact⟨0,[],rfl,rfl,rfl,RA _,rfl,Below.refl _ _⟩
 case round=>
  obtain⟨j,x,rfl,rfl,d,U,b,s⟩:=hrel;have t:=H.out m (by omega) wr s;obtain⟨u,f⟩:=ex (eI l m);have g:=O.out;rw[<-f]at t g;have M:0<=u/\u<65536:=by rw[f];exact r.out _
  have i:Hid (x.length=j/\x.all aX=true/\Below w.heap.size w wr):=⟨d,b,s⟩
  clear f;obtain Q|hge:=Ry j n
  ·have C:(j:Int)<u%21:=by omega
   have D:=H.out ((m:Int)+1+j) (by omega) wr s;obtain⟨q,p⟩:=ex (eI l ((m:Int)+1+j));rw[<-p]at D;have N:0<=q/\q<65536:=by rw[p];exact r.out _
   have R:(bs [byteOf (97+q%4)]).size<=1:=by rw[bE];exact Rq _
   have S:(bs x).size<=20:=by rw[bE];omega
   have E:=λc:World=>Lp fs c (97+q%4) (by omega) (by omega);clear p d b s g;go_wp2_with (first
    |(go_at_call 71;refine t.mono ?_;clear t;rintro e w3 ⟨rfl,rfl⟩)
    |(go_at_call 71;refine D.mono ?_;clear D;rintro e w4 ⟨rfl,rfl⟩))
   exact⟨⟨j+1,x++[byteOf (97+q%4)],by rw[OQ],by go_num,by rw[RM,i.out.1];rfl,by omega,by rw[List.all_append,i.out.2.1];simp[mV (97+q%4) (by omega) (by omega)],i.out.2.2.alloc i.out.2.2.size _⟩,by simp[intOf];omega⟩
  ·have C:decide ((j:Int)<u%21)=false:=Rz (by omega)
   clear d b s g;go_wp2_with (first
    |(go_at_call 71;refine t.mono ?_;clear t;rintro e w3 ⟨rfl,rfl⟩))
   go_ret;exact⟨x,rfl,by have:=i.out;omega,i.out.2.1,i.out.2.2⟩
def LG(j:Int)(r:ug)(w:World):Calls (Qs fs) 79 #[.int .i64 j,.agg #[.int .i64 r.kind,.int .i64 r.least,.int .i64 r.plain,.int .i64 r.known]] w λe w'=>e=.returned (.int .i64 (jF [] r))/\Below w.heap.size w w':=by
 have e66:=e66 L;have e63:=e63 L;have e52:=e52 L;have k:Hid (jF [] r=if !au r.kind 0 5|| !au r.least 1 100|| !au r.plain 0 9|| !au r.known 0 9 then 1 else 0):=rfl;obtain⟨w1,b⟩:=ex (w.alloc (.cells #[.int .i64 r.kind,.int .i64 r.least,.int .i64 r.plain,.int .i64 r.known] 69));have s:Below w.heap.size w w1:=by rw[b];exact aF _ _
 have ct:∀i v,(#[.int .i64 r.kind,.int .i64 r.least,.int .i64 r.plain,.int .i64 r.known]:Array Value)[i]? =some v->w1.cell? ⟨w.heap.size,i,none⟩=some v:=λi v h=>by rw[b];exact aw w _ 69 i v h
 obtain⟨N,d⟩:=ex (w.heap.size);have t:=ct 0 _ rfl;have u:=ct 1 _ rfl;have x:=ct 2 _ rfl;have y:=ct 3 _ rfl;rw[<-d]at t u x y;have l:Hid _:=s;have c:=λwx=>Cr L r.kind wx;have f:∀wx,Calls (Qs fs) 63 #[.int .i64 r.least,.int .i64 1,.int .i64 100] wx λe w'=>e=.returned (.bool (au r.least 1 100))/\w'=wx:=λwx=>cj fs (n63 L) r.least 1 100 wx;have g:∀wx,Calls (Qs fs) 63 #[.int .i64 r.plain,.int .i64 0,.int .i64 9] wx λe w'=>e=.returned (.bool (au r.plain 0 9))/\w'=wx:=λwx=>cj fs (n63 L) r.plain 0 9 wx;have m:∀wx,Calls (Qs fs) 63 #[.int .i64 r.known,.int .i64 0,.int .i64 9] wx λe w'=>e=.returned (.bool (au r.known 0 9))/\w'=wx:=λwx=>cj fs (n63 L) r.known 0 9 wx;obtain⟨z,n⟩:=ex (au r.kind 0 5);obtain⟨A,o⟩:=ex (au r.least 1 100);obtain⟨B,p⟩:=ex (au r.plain 0 9);obtain⟨C,q⟩:=ex (au r.known 0 9);rw[<-n]at c;rw[<-o]at f;rw[<-p]at g;rw[<-q]at m;rw[<-n,<-o,<-p,<-q]at k;clear n o p q ct s;cases z with
 |false=>
  have HV:Hid (jF [] r=1):=by rw[Hid,k.out];rfl
  have a:=λwx=>dm L true 1 wx;simp only[RG,RQ,RP]at a;go_enter (n79 L),Tryz.ntmps79;go_upto_region 1 with fail;rw[<-b,<-d];clear b d;go_wp2_with (first|(go_at_call 66;refine(c _).mono ?_;clear c;rintro e w2 ⟨rfl,rfl⟩)|(go_at_call 52;refine(a _).mono ?_;rintro e w3 ⟨rfl,rfl⟩))
  go_ret;exact⟨by rw[HV.out];rfl,l.out⟩
 |true=>
  cases A with
  |false=>
   have HV:Hid (jF [] r=1):=by rw[Hid,k.out];rfl
   have a:=λwx=>dm L true 1 wx;simp only[RG,RQ,RP]at a;go_enter (n79 L),Tryz.ntmps79;go_upto_region 1 with fail;rw[<-b,<-d];clear b d;go_wp2_with (first|(go_at_call 66;refine(c _).mono ?_;clear c;rintro e w2 ⟨rfl,rfl⟩)|(go_at_call 63;refine(f _).mono ?_;clear f;rintro e w2 ⟨rfl,rfl⟩)|(go_at_call 52;refine(a _).mono ?_;rintro e w3 ⟨rfl,rfl⟩))
   go_ret;exact⟨by rw[HV.out];rfl,l.out⟩
  |true=>
   cases B with
   |false=>
    have HV:Hid (jF [] r=1):=by rw[Hid,k.out];rfl
    have a:=λwx=>dm L true 1 wx;simp only[RG,RQ,RP]at a;go_enter (n79 L),Tryz.ntmps79;go_upto_region 1 with fail;rw[<-b,<-d];clear b d;go_wp2_with (first|(go_at_call 66;refine(c _).mono ?_;clear c;rintro e w2 ⟨rfl,rfl⟩)|(go_at_call 63;refine(f _).mono ?_;clear f;rintro e w2 ⟨rfl,rfl⟩)|(go_at_call 63;refine(g _).mono ?_;clear g;rintro e w2 ⟨rfl,rfl⟩)|(go_at_call 52;refine(a _).mono ?_;rintro e w3 ⟨rfl,rfl⟩))
    go_ret;exact⟨by rw[HV.out];rfl,l.out⟩
   |true=>
    cases C with
    |false=>
     have HV:Hid (jF [] r=1):=by rw[Hid,k.out];rfl
     have a:=λwx=>dm L true 1 wx;simp only[RG,RQ,RP]at a;go_enter (n79 L),Tryz.ntmps79;go_upto_region 1 with fail;rw[<-b,<-d];clear b d;go_wp2_with (first|(go_at_call 66;refine(c _).mono ?_;clear c;rintro e w2 ⟨rfl,rfl⟩)|(go_at_call 63;refine(f _).mono ?_;clear f;rintro e w2 ⟨rfl,rfl⟩)|(go_at_call 63;refine(g _).mono ?_;clear g;rintro e w2 ⟨rfl,rfl⟩)|(go_at_call 63;refine(m _).mono ?_;clear m;rintro e w2 ⟨rfl,rfl⟩)|(go_at_call 52;refine(a _).mono ?_;rintro e w3 ⟨rfl,rfl⟩))
     go_ret;exact⟨by rw[HV.out];rfl,l.out⟩
    |true=>
     have HV:Hid (jF [] r=0):=by rw[Hid,k.out];rfl
     have a:=λwx=>dm L false 1 wx;simp only[RG,RQ,RP]at a;go_enter (n79 L),Tryz.ntmps79;go_upto_region 1 with fail;rw[<-b,<-d];clear b d;go_wp2_with (first|(go_at_call 66;refine(c _).mono ?_;clear c;rintro e w2 ⟨rfl,rfl⟩)|(go_at_call 63;refine(f _).mono ?_;clear f;rintro e w2 ⟨rfl,rfl⟩)|(go_at_call 63;refine(g _).mono ?_;clear g;rintro e w2 ⟨rfl,rfl⟩)|(go_at_call 63;refine(m _).mono ?_;clear m;rintro e w2 ⟨rfl,rfl⟩)|(go_at_call 52;refine(a _).mono ?_;rintro e w3 ⟨rfl,rfl⟩))
     go_ret;exact⟨by rw[HV.out];rfl,l.out⟩
def Nz(j n:Int)(w:World):Calls (Qs fs) 83 #[.int .i64 j,.int .i64 n] w λe w'=>e=.returned (.int .i64 (Eo [] n))/\w'=w:=by
 have e63:=e63 L;have e52:=e52 L;have c:Hid (Eo [] n=if !au n 0 9 then 1 else 0):=rfl;have b:∀wx,Calls (Qs fs) 63 #[.int .i64 n,.int .i64 0,.int .i64 9] wx λe w'=>e=.returned (.bool (au n 0 9))/\w'=wx:=λwx=>cj fs (n63 L) n 0 9 wx;obtain⟨f,d⟩:=ex (au n 0 9);rw[<-d]at b c;clear d;cases f with
 |true=>
  have a:=λwx=>dm L false 1 wx;go_enter (n83 L),Tryz.ntmps83;go_wp2_with (first|(go_at_call 63;refine(b _).mono ?_;clear b;rintro e w2 ⟨rfl,rfl⟩)|(go_at_call 52;refine(a _).mono ?_;rintro e w3 ⟨rfl,rfl⟩))
  go_ret;exact⟨by rw[c.out];rfl,rfl⟩
 |false=>
  have a:=λwx=>dm L true 1 wx;go_enter (n83 L),Tryz.ntmps83;go_wp2_with (first|(go_at_call 63;refine(b _).mono ?_;clear b;rintro e w2 ⟨rfl,rfl⟩)|(go_at_call 52;refine(a _).mono ?_;rintro e w3 ⟨rfl,rfl⟩))
  go_ret;exact⟨by rw[c.out];rfl,rfl⟩
def Pd(a b):(if a≠0 then a else(if b=true then(5:Int)else 0))=if a≠0 then a else if b=true then 5 else 0:=rfl
def Gb(a:Bool)(m:Mark):Int:=if eT m≠0 then eT m else if a then 5 else 0
def LH{K:Nat->Prop}(j:Int)(m:Mark)(R:Value)(S k:Nat)(p:ByteArray->Bool)(w:World)(b:aB K 1 dn w R m.aW)(q:w.cell? ⟨S,0,none⟩=some (.map (some k)))(z:bL w k p):
 Calls (Qs fs) 81 #[.int .i64 j,.agg #[.string m.name,.string m.word,R,.int .i64 m.day,.bool m.known],.pointer (some ⟨S,0,none⟩)] w λe w'=>e=.returned (.int .i64 (Gb (p m.name) m))/\bL w' k (λt=>p t||decide (t=m.name))/\(∀B,B<=k->Below B w w')/\ae w w':=by
 have e67:=e67 L;have e52:=e52 L;have e51:=e51 L;obtain⟨ao,C,rfl,_⟩:=id b;obtain⟨w1,c⟩:=ex (w.alloc (.cells #[.string m.name,.string m.word,.slice ao m.aW.length C,.int .i64 m.day,.bool m.known] 38));have A:ae w w1:=by rw[c];exact ae.alloc _ _
 have D:Below w.heap.size w w1:=by rw[c];exact aF _ _
 have ct:∀i v,(#[.string m.name,.string m.word,.slice ao m.aW.length C,.int .i64 m.day,.bool m.known]:Array Value)[i]? =some v->w1.cell? ⟨w.heap.size,i,none⟩=some v:=λi v h=>by rw[c];exact aw w _ 38 i v h
 obtain⟨N,E⟩:=ex (w.heap.size);have l:=z.keep (D.block k z.lt);have r:=sN fs l m.name;obtain⟨w2,F,s,u,a⟩:=ki fs l m.name;have b1:=A.cell q;have G:=ct 0 _ rfl;have H:=ct 1 _ rfl;have I:=ct 2 _ rfl;have J:=ct 3 _ rfl;have M:=ct 4 _ rfl;rw[<-E]at G H I J M;obtain⟨g,d⟩:=ex (p m.name);rw[<-d]at r;have T:Hid _:=d;have O:Hid ((∀B,B<=k->Below B w w2)/\ae w w2/\bL w2 k (λt=>p t||decide (t=m.name))):=⟨λB U=>(D.mono (by have:=z.lt;omega)).trans (u B U),A.trans a,s⟩
 have V:=a.cell G;have W:=a.cell H;have X:=a.cell I;have Y:=a.cell J;have Z:=a.cell M;have n:=kN L (mc:=#[.string m.name,.string m.word,.slice ao m.aW.length C,.int .i64 m.day,.bool m.known]) w2 ⟨_,rfl,b.ints (A.trans a)⟩;have HV:Hid (Gb g m=if eT m≠0 then eT m else if g=true then 5 else 0):=rfl;obtain⟨fa,x⟩:=ex (eT m);rw[<-x]at n HV;have o:=λP=>dm L g 5 P;obtain⟨fb,hfb⟩:∃f:Int,f=if g=true then 5 else 0:=⟨_,rfl⟩
 rw[<-hfb]at o HV;have Q:=λP=>de L fa fb P;rw[<-HV.out]at Q;clear x hfb d HV;go_enter (n81 L),Tryz.ntmps81;go_upto_region 1 with fail;rw[<-c,<-E];clear c E ct A D l s u a z q b;go_upto_region 3 with fail;clear r F b1 G H I J M;go_wp2_with (first|(go_at_call 67;refine n.mono ?_;clear n;rintro e w3 ⟨rfl,y⟩)|(go_at_call 52;refine(o _).mono ?_;clear o;rintro e w4 ⟨rfl,rfl⟩)|(go_at_call 51;refine(Q _).mono ?_;clear Q;rintro e w5 ⟨rfl,rfl⟩))
 go_ret;refine⟨by rw[T.out];rfl,?_⟩;exact O.out.1|>λh=>kj h O.out.2.1 O.out.2.2 (y.alloc y.size _)
end Go.Proofs

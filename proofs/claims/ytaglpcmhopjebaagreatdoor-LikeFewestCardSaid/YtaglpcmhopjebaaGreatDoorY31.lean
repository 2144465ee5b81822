import Derived.Test.YtaglpcmhopjebaaGreatDoorY30
set_option linter.all false
set_option maxRecDepth 100000
set_option maxHeartbeats 20000000
namespace Go.Proofs
open Go.Tm Go.RowKit
variable {fs:Array Func} (L:bQ fs)
def ae.vv{w w'}(h:ae w w'){p}(d:w.heap.size<=p.block)(v):ae w (w'.setCell p v):=λb c e f a=>(Below.heap_setCell w' p v b (by have:=(Rx.1 a).1;omega)).trans (h b c e f a)
def lz{B e k v n xs w w'}(h:w.ownsRow B e k v n xs)(b:Below w.heap.size w w'):w'.ownsRow B e k v n xs:=by
 refine⟨h.1,?_⟩;obtain c|⟨g,cap,a,d,f,i,j⟩:=h.2
 ·exact .inl c
 ·exact .inr ⟨g,cap,a,d,f,ae.below b g _ _ _ i,j⟩
def vw{w w'}(h:Below w.drew.heap.size w.drew w'):ae w w':=λb c e f a=>ae.below (w:=w.drew) h b c e f a
def Hq{w w' o}(h:Below ((w.alloc o).drew).heap.size ((w.alloc o).drew) w'):ae w w':=(ae.alloc w o).trans (vw h)
def Hr{w w':World}{cs e}(h:Below ((w.alloc (.cells cs e)).drew).heap.size ((w.alloc (.cells cs e)).drew) w'):w'.heap[w.heap.size]? =some (.cells cs e):=(h.block w.heap.size (by show w.heap.size<(w.alloc (.cells cs e)).heap.size;simp)).trans Sd
def Hs{w w' cs e}(h:Below ((w.alloc (.cells cs e)).drew).heap.size ((w.alloc (.cells cs e)).drew) w'):Below w.heap.size w w':=((Below.refl w.heap.size w).alloc (Rq _) (.cells cs e)).drew.trans (h.mono (by show w.heap.size<=(w.alloc (.cells cs e)).heap.size;simp))
def mH:((Tryz.prog).info? 66).map (λi=>(i.zero,i.size,i.bytes))=some (some (.agg #[.int .i64 0,.int .i64 0,.int .i64 0]),3,24):=by kernel_rfl
def J3(fs):((Qs fs).info? 66).map (λi=>(i.zero,i.size,i.bytes))=some (some (.agg #[.int .i64 0,.int .i64 0,.int .i64 0]),3,24):=mH
def fN{B e k v n xs w w'}(h:w.ownsRow B e k v n xs)(b:ae w w'):w'.ownsRow B e k v n xs:=by
 refine⟨h.1,?_⟩;obtain c|⟨g,cap,a,d,f,i,j⟩:=h.2
 ·exact .inl c
 ·exact .inr ⟨g,cap,a,d,f,b g _ _ _ i,j⟩
def Oi{B v l}{w:World}(h:w.ownsRow B 66 3 v l.length (bq l)){j}(b:j<l.length):
 ∃g cap,v=.slice (some ⟨g,0,none⟩) l.length cap/\w.cell? ⟨g,j*3,none⟩=some (.int .i64 l[j].mark)/\w.cell? ⟨g,j*3+1,none⟩=some (.int .i64 l[j].dZ)/\w.cell? ⟨g,j*3+2,none⟩=some (.int .i64 l[j].level):=by
 have a:=h;obtain⟨_,i⟩|⟨g,cap,c,rfl,_⟩:=h.2
 ·omega
 ·obtain⟨d,e,f⟩:=Cd l j b
  exact⟨g,cap,rfl,(a.cellAt (j*3) (by omega)).trans d,(a.cellAt (j*3+1) (by omega)).trans e,(a.cellAt (j*3+2) (by omega)).trans f⟩
def dD(b o j):(⟨b,o,none⟩:Addr).add j=⟨b,o+j,none⟩:=by
 unfold Addr.add;split
 ·rename_i h
  have:j=0:=by simpa using h
  subst this;rfl
 ·rfl
def zY{w b x y z e f}(h:w.heap[b]? =some (.cells #[.int .i64 x,.int .i64 y,.int .i64 z] e f)):Src w 3 (some ⟨b,0,none⟩) 1 [.int .i64 x,.int .i64 y,.int .i64 z]:=.some _ _ _ rfl λj u a=>by have:=cell_of_heap h j u (by simpa using a);rw[dD,RB];exact this
def Gx(w:World)(x y z):Src (w.alloc (.cells #[.int .i64 x,.int .i64 y,.int .i64 z] 66)) 3 (some ⟨w.heap.size,0,none⟩) 1 [.int .i64 x,.int .i64 y,.int .i64 z]:=zY (e:=66) (f:=(0,0)) Sd
def qT{x y z}:∀u∈([.int .i64 x,.int .i64 y,.int .i64 z]:List Value),u.oneCell'=true:=by intro u a;simp only[RX,Se,Sf]at a;rcases a with rfl|rfl|rfl<;>rfl
def J4{base g cap j l w}(h:w.ownsRow base 66 3 (.slice (some ⟨g,0,none⟩) l.length cap) l.length (bq l))(b:j<=l.length):Src w 3 (some ⟨g,0,none⟩) j (bq (l.take j)):=by
 refine .some _ _ _ (by rw[hU,R9,Up b]) λi u a=>?_;rw[EL]at a;have c:i<j*3:=by have:=(Ts.1 a).1;rw[R9]at this;omega
 rw[List.getElem?_take_of_lt c]at a;rw[dD,RB];exact(h.cellAt i (by omega)).trans a
def J5{base g cap j l w}(h:w.ownsRow base 66 3 (.slice (some ⟨g,0,none⟩) l.length cap) l.length (bq l))(b:j<=l.length):Src w 3 (some ⟨g,j*3,none⟩) (l.length-j) (bq (l.drop j)):=by
 refine .some _ _ _ (by rw[hU,RI]) λi u a=>?_;rw[EJ,Um]at a;have c:j*3+i<l.length*3:=by have:=(Ts.1 a).1;rw[hU]at this;omega
 rw[dD];exact(h.cellAt (j*3+i) (by omega)).trans a
def jf(l):∀u∈bq l,u.oneCell'=true:=by intro u a;obtain⟨n,rfl⟩:=sK l u a;rfl
def qU(a:World)(x y z:Int):let E:Obj:=.cells #[] 66
 let b:Obj:=.cells #[.int .i64 x,.int .i64 y,.int .i64 z] 66
 ((a.alloc E).drew.ownsRow a.heap.size 66 3 (.slice (some ⟨a.heap.size,0,none⟩) 0 0) 0 []/\Below a.heap.size a (a.alloc E).drew)/\
 (((a.alloc E).alloc b).drew.ownsRow a.heap.size 66 3 (.slice (some ⟨a.heap.size,0,none⟩) 0 0) 0 []/\Below a.heap.size a ((a.alloc E).alloc b).drew/\((a.alloc E).alloc b).drew.heap[a.heap.size+1]? =some b)/\
 (((a.alloc b).alloc E).drew.ownsRow a.heap.size 66 3 (.slice (some ⟨a.heap.size+1,0,none⟩) 0 0) 0 []/\Below a.heap.size a ((a.alloc b).alloc E).drew/\((a.alloc b).alloc E).drew.heap[a.heap.size]? =some b):=by
 intro E b;have f:(a.alloc E).heap.size=a.heap.size+1:=by simp
 have g:(a.alloc b).heap.size=a.heap.size+1:=by simp
 have c:(a.alloc E).ownsRow a.heap.size 66 3 (.slice (some ⟨a.heap.size,0,none⟩) 0 0) 0 []:=World.ownsRow_made a #[] 0 (Rq _) (RA _) rfl;have d:=World.ownsRow_made (base:=a.heap.size) (e:=66) (size:=3) (a.alloc b) #[] 0 (by omega) (RA _) rfl;rw[g]at d;have b1:Below a.heap.size a (a.alloc E):=(Below.refl _ _).alloc (Rq _) _;have b2:Below a.heap.size a (a.alloc b):=(Below.refl _ _).alloc (Rq _) _;refine⟨⟨c,b1.drew⟩,⟨c.alloc _,(b1.alloc b1.size _).drew,?_⟩,⟨d,(b2.alloc b2.size _).drew,?_⟩⟩
 ·have:=Sd (xs:=(a.alloc E).heap) (x:=b)
  rw[f]at this;exact this
 ·have:=Below.heap_alloc (a.alloc b) E a.heap.size (by omega)
  exact this.trans Sd
def qV{w w':World}{row k o}(h:w.grownBy w' row)(b:w.heap[k]? =some o)(a:row≠some k):w'.heap[k]? =some o:=(h.block k (Rx.1 b).1 (RN a)).trans b
def vy{w:World}{base a e size v n xs}(h:w.ownsRow base e size v n xs)(i:a<=base):w.ownsRow a e size v n xs:=by
 refine⟨h.1,?_⟩;obtain c|⟨g,cap,b,d,j,f⟩:=h.2
 ·exact .inl c
 ·exact .inr ⟨g,cap,b,d,by omega,f⟩
def yH(l:List Hit)(j h):bq (l.take j++h::l.drop j)=bq (l.take j)++[.int .i64 h.mark,.int .i64 h.dZ,.int .i64 h.level]++bq (l.drop j):=by rw[zX,R8];rfl
def vz(l:List Hit)(j h)(a:j<=l.length):(l.take j++h::l.drop j).length=j+1+(l.length-j):=by rw[RM,R9,Rs,RI];omega
def fZ(base:Nat)(w:World)(v:Value)(l:List Hit):Prop:=w.ownsRow base 66 3 v l.length (bq l)/\(l=[]->v=.slice none 0 0)
def vA{K:Nat->Prop}{sc:Array Value}{c:Case}(w:World)(hc:bl K w sc c)(ok:OkC c):
 Calls (Qs fs) 77 #[.agg sc] w λe w'=>∃v,e=.returned v/\fZ w.heap.size w' v (bX c)/\Below w.heap.size w w':=by
 have e70:=e70 L;have Pw:=Pw L;have Px:=Px L;have c9:=ok.Of;have ei:=ok.sx;have cH:=λk (hk:k<c.marks.length) d (t:ae w d)=>Oh L k d (hc.stays t) ok hk;have cB:=λi j r1 l1 r2 l2 G hj d (t:ae w d)=>J0 L (c:=c) i j r1 l1 r2 l2 d (hc.stays t) G hj;obtain⟨v0,v1,v2,vr,vf,vm,vk,rfl,ht,hr,hf,hm,dc⟩:=hc;obtain⟨cn,cr,rfl,lr,ek,_,gr⟩:=hr;obtain⟨cp,cm,rfl,lm,ev,_,gm⟩:=hm;obtain⟨w1,ag⟩:=ex (w.alloc (.cells #[v0,v1,v2,.slice cn c.rules.length cr,.string c.new.name,.string c.new.word,vf,.int .i64 c.new.day,.bool c.new.known,.slice cp c.marks.length cm,vk] 60));have S1:ae w w1:=by rw[ag];exact ae.alloc _ _
 have B1:Below w.heap.size w w1:=by rw[ag];exact aF _ _
 have ct:∀i v,(#[v0,v1,v2,.slice cn c.rules.length cr,.string c.new.name,.string c.new.word,vf,.int .i64 c.new.day,.bool c.new.known,.slice cp c.marks.length cm,vk]:Array Value)[i]? =some v->w1.cell? ⟨w.heap.size,i,none⟩=some v:=λi v h=>by rw[ag];exact aw w _ 60 i v h
 obtain⟨N,hN⟩:=ex (w.heap.size);have T:=λd (t:ae w1 d) i v h=>t.cell (ct i v h);rw[<-hN]at T;have a8:=λ(r:ug) (m:Mark) (vx:Value) d (t:ae w d) (ba:OkM m) (hx:aB K 1 dn d vx m.aW)=>yy L (m1:=#[.string c.new.name,.string c.new.word,vf,.int .i64 c.new.day,.bool c.new.known]) (m2:=#[.string m.name,.string m.word,vx,.int .i64 m.day,.bool m.known]) (one:=c.new) (two:=m) r.kind d (ht.stays t) ok.table ⟨vf,rfl,hf.ints t⟩ ⟨_,rfl,hx⟩ ok.new ba;have Y:=mG c c9;have ak:=pc c;go_enter (n77 L),Tryz.ntmps77;go_wp2;rw[<-ag,<-hN];clear ag hN ct ht hf dc;go_loopw [3,4] (λo s wr=>∃(k:Nat) (vF:Value),k<=c.marks.length/\s=.int .i64 k/\vF=o/\fZ w.heap.size wr vF (jw c k)/\ae w1 wr/\Below w.heap.size w wr) (λo s _=>c.marks.length-(intOf s).toNat)
 case atStart=>exact⟨0,_,RA _,rfl,rfl,⟨World.ownsRow_nil _ _ _ _,λ_=>rfl⟩,ae.refl _,B1⟩
 case round=>
  obtain⟨k,vF,hk,rfl,rfl,hF,n,Z⟩:=hrel;have u0:=T wr n 0 _ rfl;have u1:=T wr n 1 _ rfl;have u2:=T wr n 2 _ rfl;have u3:=T wr n 3 _ rfl;have u4:=T wr n 4 _ rfl;have u5:=T wr n 5 _ rfl;have u6:=T wr n 6 _ rfl;have u7:=T wr n 7 _ rfl;have u8:=T wr n 8 _ rfl;have u9:=T wr n 9 _ rfl;have cq:=T wr n 10 _ rfl;have HW:Hid _:=(⟨n,Z⟩:ae w1 wr/\Below w.heap.size w wr)
  have HF:Hid _:=hF;obtain al|hge:=Ry k c.marks.length
  ·have cK:=cH k al wr (S1.trans n)
   obtain⟨hz,hn⟩|⟨r,hr,hz,hn⟩:=tG c k al (by omega)
   ·rw[hz]at cK
    have HN:Hid _:=nF c k hn;clear hn hz cH cB a8 T S1 B1 n Z gr gm hF Y ak;go_wp2_with (first|(go_at_call 130;refine cK.mono ?_;rintro e w3 ⟨rfl,f⟩))
    refine⟨⟨k+1,vF,by omega,by go_num,rfl,?_,HW.out.1.trans (ae.below f),HW.out.2.trans (f.mono HW.out.2.size)⟩,by simp[intOf];omega⟩;rw[HN.out];exact⟨lz HF.out.1 f,HF.out.2⟩
   ·rw[hz]at cK
    have HN:Hid _:=nG c k _ hn;have ba:=ok.marks _ (RR al);obtain⟨bm,om,rfl,x0,x1,⟨fm,x2,xf⟩,x3,x4⟩:=gm k al;obtain⟨br,ro,rfl,y0,y1,y2,y3⟩:=gr r hr;have dd:=S1.trans n;clear hn hz cH T B1 n Z gr gm hF;go_upto_region 7 with(first|(go_at_call 130;refine cK.mono ?_;rintro e w3 ⟨rfl,f⟩))
    have S3:ae w1 w3:=HW.out.1.trans (ae.below f);have B3:Below w.heap.size w w3:=HW.out.2.trans (f.mono HW.out.2.size);have cu:fZ w.heap.size w3 vF (jw c k):=⟨lz HF.out.1 f,HF.out.2⟩
    have t0:=(ae.below f).cell u0;have t1:=(ae.below f).cell u1;have t2:=(ae.below f).cell u2;have t3:=(ae.below f).cell u3;have t4:=(ae.below f).cell u4;have t5:=(ae.below f).cell u5;have t6:=(ae.below f).cell u6;have t7:=(ae.below f).cell u7;have t8:=(ae.below f).cell u8;have t9:=(ae.below f).cell u9;have aa:=(ae.below f).cell cq;have J:=S1.trans S3;have bd:=xf.ints J;have ab:=λd (t:ae w3 d)=>a8 c.rules[r] c.marks[k] fm d (J.trans t) ba (bd.ints t);obtain⟨m,cv⟩:=ex (c.marks[k]);obtain⟨rl,cw⟩:=ex (c.rules[r]);rw[<-cv]at x0 x1 x3 x4 ba ab HN bd;rw[<-cw]at y0 ab HN;have x0:=J.cell x0;have x1:=J.cell x1;have x2:=J.cell x2;have x3:=J.cell x3;have x4:=J.cell x4;have y0:=J.cell y0;clear u0 u1 u2 u3 u4 u5 u6 u7 u8 u9 cq cv cw y1 y2 y3 a8 xf f HW HF;obtain⟨lv,cx⟩:=ex (bD c.table rl.kind c.new m);rw[<-cx]at ab HN;clear cx;have b6:Hid _:=cu;have bk:Hid _:=(⟨S3,B3⟩:ae w1 w3/\Below w.heap.size w w3)
    have dp:Hid _:=S1;have cy:Hid _:=bd;clear cu S3 B3 S1 J dd bd;have ez:(r:Int)<(c.rules.length:Int):=by omega
    have eS:(k:Int)<(c.marks.length:Int):=by omega
    obtain⟨cz,cf,rfl,lf,e0,kf,gf⟩:=cy.out;clear gf kf cy;go_cut [6]from 9 to 67 (λs6 wx=>∃H:Nat,s6=.pointer (some ⟨H,0,none⟩)/\w3.heap.size<=H/\wx.cell? ⟨H,0,none⟩=some (.int .i64 k)/\wx.cell? ⟨H,1,none⟩=some (.int .i64 r)/\wx.cell? ⟨H,2,none⟩=some (.int .i64 lv)/\Below w3.heap.size w3 wx)
    case first=>
     have F:∀d,ae w3 d->d.cell? ⟨N,0,none⟩=some v0/\d.cell? ⟨N,1,none⟩=some v1/\d.cell? ⟨N,2,none⟩=some v2/\d.cell? ⟨N,3,none⟩=some (.slice (some ⟨br,ro,none⟩) c.rules.length cr)/\d.cell? ⟨br,ro+r*4,none⟩=some (.int .i64 rl.kind)/\d.cell? ⟨N,4,none⟩=some (.string c.new.name)/\d.cell? ⟨N,5,none⟩=some (.string c.new.word)/\d.cell? ⟨N,6,none⟩=some vf/\d.cell? ⟨N,7,none⟩=some (.int .i64 c.new.day)/\d.cell? ⟨N,8,none⟩=some (.bool c.new.known)/\d.cell? ⟨N,9,none⟩=some (.slice (some ⟨bm,om,none⟩) c.marks.length cm)/\d.cell? ⟨bm,om+k*5,none⟩=some (.string m.name)/\d.cell? ⟨bm,om+k*5+1,none⟩=some (.string m.word)/\d.cell? ⟨bm,om+k*5+2,none⟩=some (.slice cz m.aW.length cf)/\d.cell? ⟨bm,om+k*5+3,none⟩=some (.int .i64 m.day)/\d.cell? ⟨bm,om+k*5+4,none⟩=some (.bool m.known):=λd t=>⟨t.cell t0,t.cell t1,t.cell t2,t.cell t3,t.cell y0,t.cell t4,t.cell t5,t.cell t6,t.cell t7,t.cell t8,t.cell t9,t.cell x0,t.cell x1,t.cell x2,t.cell x3,t.cell x4⟩
     have n0:=World.new_ne w3 _ t0;have n1:=World.new_ne w3 _ t1;have n2:=World.new_ne w3 _ t2;have n3:=World.new_ne w3 _ t3;have n4:=World.new_ne w3 _ y0;have n5:=World.new_ne w3 _ t4;have n6:=World.new_ne w3 _ t5;have n7:=World.new_ne w3 _ t6;have n8:=World.new_ne w3 _ t7;have n9:=World.new_ne w3 _ t8;have n10:=World.new_ne w3 _ t9;have n11:=World.new_ne w3 _ x0;have n12:=World.new_ne w3 _ x1;have n13:=World.new_ne w3 _ x2;have n14:=World.new_ne w3 _ x3;have n15:=World.new_ne w3 _ x4
     go_region_held3 (λw'=>w'.cell? ⟨N,0,none⟩=some v0/\w'.cell? ⟨N,1,none⟩=some v1/\w'.cell? ⟨N,2,none⟩=some v2/\w'.cell? ⟨N,3,none⟩=some (.slice (some ⟨br,ro,none⟩) c.rules.length cr)/\w'.cell? ⟨br,ro+r*4,none⟩=some (.int .i64 rl.kind)/\w'.cell? ⟨N,4,none⟩=some (.string c.new.name)/\w'.cell? ⟨N,5,none⟩=some (.string c.new.word)/\w'.cell? ⟨N,6,none⟩=some vf/\w'.cell? ⟨N,7,none⟩=some (.int .i64 c.new.day)/\w'.cell? ⟨N,8,none⟩=some (.bool c.new.known)/\w'.cell? ⟨N,9,none⟩=some (.slice (some ⟨bm,om,none⟩) c.marks.length cm)/\w'.cell? ⟨bm,om+k*5,none⟩=some (.string m.name)/\w'.cell? ⟨bm,om+k*5+1,none⟩=some (.string m.word)/\w'.cell? ⟨bm,om+k*5+2,none⟩=some (.slice cz m.aW.length cf)/\w'.cell? ⟨bm,om+k*5+3,none⟩=some (.int .i64 m.day)/\w'.cell? ⟨bm,om+k*5+4,none⟩=some (.bool m.known)) (first|exact F _ (λ_ _ _ _ h=>h)|exact F _ (by assumption)|exact F _ ((by assumption:ae w3 _).trans (ae.alloc _ _))|exact F _ (ae.alloc w3 _)|go_keep|exact F _ ((((by assumption:ae w3 _).vv (p:=⟨_,_,none⟩) (Rq _) _).vv (p:=⟨_,_,none⟩) (Rq _) _).vv (p:=⟨_,_,none⟩) (Rq _) _))
      (first|(go_at_call 70;refine(ab w3.drew (λ_ _ _ _ h=>h)).mono ?_;rintro e w4 ⟨rfl,O⟩;have dr:ae w3 w4:=vw O;have an:Below w3.heap.size w3 w4:=(Below.refl _ w3).drew.trans O;clear O;dsimp only)|(go_at_call 70;refine(ab ((w3.alloc (.cells #[.int .i64 0,.int .i64 0,.int .i64 0] 66)).drew) (ae.alloc w3 (.cells #[.int .i64 0,.int .i64 0,.int .i64 0] 66))).mono ?_;rintro e w4 ⟨rfl,O⟩;have dr:ae w3 w4:=Hq O;have U:=Hr O;have an:=Hs O;have q0:=cell_of_heap U 0 _ rfl;have q1:=cell_of_heap U 1 _ rfl;have q2:=cell_of_heap U 2 _ rfl;have g0:=frozen_of_heap U 0;have g1:=frozen_of_heap U 1;have g2:=frozen_of_heap U 2;clear O U;dsimp only))
     all_goals (go_wp2_with fail;go_meet)
     ·exact⟨_,rfl,an.size,aw w4 _ 66 0 _ rfl,aw w4 _ 66 1 _ rfl,aw w4 _ 66 2 _ rfl,an.alloc an.size _⟩
     ·exact⟨_,rfl,Rq _,by simp[go_sem, *],by simp[go_sem, *],by simp[go_sem, *],((an.setCell (p:=⟨w3.heap.size,0,none⟩) (Rq _) _).setCell (p:=⟨w3.heap.size,1,none⟩) (Rq _) _).setCell (p:=⟨w3.heap.size,2,none⟩) (Rq _) _⟩
    case rest=>
     obtain⟨H,rfl,hH,h0,h1,h2,Bc⟩:=hcut;have Sc:=ae.below Bc;have hF:fZ w.heap.size wc vF (jw c k):=⟨lz b6.out.1 Bc,b6.out.2⟩
     have b7:=Y k hk;have ds:=ak k;obtain⟨l,hl⟩:=ex (jw c k);rw[<-hl]at hF HN b7 ds;have BC:Hid _:=(⟨bk.out.2.trans (Bc.mono bk.out.2.size),bk.out.1.trans Sc⟩:Below w.heap.size w wc/\ae w1 wc)
     replace t0:=Sc.cell t0;replace t1:=Sc.cell t1;replace t2:=Sc.cell t2;replace t3:=Sc.cell t3;replace t4:=Sc.cell t4;replace t5:=Sc.cell t5;replace t6:=Sc.cell t6;replace t7:=Sc.cell t7;replace t8:=Sc.cell t8;replace t9:=Sc.cell t9;replace aa:=Sc.cell aa;clear cK b6 hl bk Bc ab x0 x1 x2 x3 x4 y0 Sc;have bo:Hid _:=hF
     go_upto_block 2 with fail
     go_cut [7]from 40 to 54 (λs7 wx=>∃j:Nat,j<=l.length/\s7=.int .i64 j/\(∀i (G:i<l.length),i<j->aQ c l[i] ⟨k,r,lv⟩=true)/\(∀hj:j<l.length,aQ c l[j] ⟨k,r,lv⟩=false)/\ae wc wx/\Below w.heap.size w wx)
     case first=>
      go_wp2_with fail
      go_loopw [7] (λs wi=>∃j:Nat,j<=l.length/\s=.int .i64 j/\(∀i (G:i<l.length),i<j->aQ c l[i] ⟨k,r,lv⟩=true)/\ae wc wi/\Below w.heap.size w wi) (λs _=>l.length-(intOf s).toNat)
      case atStart=>exact⟨0,RA _,rfl,λi G h=>by omega,ae.refl _,BC.out.1⟩
      case round=>
       obtain⟨j,hj,rfl,ad,b,b8⟩:=hrel;have M:Hid _:=(⟨ad,b,b8⟩:(∀i (G:i<l.length),i<j->aQ c l[i] ⟨k,r,lv⟩=true)/\ae wc wr/\Below w.heap.size w wr)
       have ca:=λi' r' Q cb d (t:ae wr d)=>cB i' k r' Q r lv cb al d (ae.trans dp.out (BC.out.2.trans (b.trans t)));have HO:=fN bo.out.1 b;obtain cA|hjg:=Ry j l.length
       ·obtain⟨i',r',Q,cb,e1,_,bs⟩:=b7 l[j] (RR cA)
        have V:=ca i' r' Q cb;rw[<-bs]at V;obtain⟨g,cap,rfl,bx,b0,b1⟩:=Oi HO cA;rw[bs]at bx b0 b1 V;simp only[]at bx b0 b1;have cC:(j:Int)<(l.length:Int):=by omega
        have cD:Hid _:=bs;have s0:=b.cell t0;have s1:=b.cell t1;have s2:=b.cell t2;have s3:=b.cell t3;have s4:=b.cell t4;have s5:=b.cell t5;have s6:=b.cell t6;have s7:=b.cell t7;have s8:=b.cell t8;have s9:=b.cell t9;have cF:=b.cell aa;have d0:=b.cell h0;have d1:=b.cell h1;have d2:=b.cell h2;clear ad b b8 ca bs HO hF bo h0 h1 h2 t0 t1 t2 t3 t4 t5 t6 t7 t8 t9 aa;have cd:Hid _:=(⟨M.out.2.1,M.out.2.2⟩:ae wc wr/\Below w.heap.size w wr)
        have z0:=λx:aj w wr=>x.cell s0;have z1:=λx:aj w wr=>x.cell s1;have z2:=λx:aj w wr=>x.cell s2;have z3:=λx:aj w wr=>x.cell s3;have z4:=λx:aj w wr=>x.cell s4;have z5:=λx:aj w wr=>x.cell s5;have z6:=λx:aj w wr=>x.cell s6;have z7:=λx:aj w wr=>x.cell s7;have z8:=λx:aj w wr=>x.cell s8;have z9:=λx:aj w wr=>x.cell s9;have cG:=λx:aj w wr=>x.cell cF;have cI:=λx:aj w wr=>x.cell d0;have cL:=λx:aj w wr=>x.cell d1;have cM:=λx:aj w wr=>x.cell d2;have cR:=λx:aj w wr=>x.cell bx;have cS:=λx:aj w wr=>x.cell b0;have cU:=λx:aj w wr=>x.cell b1;unfold mD at V;simp only[]at V;obtain⟨bb,ck⟩:=ex (aQ c ⟨i',r',Q⟩ ⟨k,r,lv⟩);rw[<-ck]at V;have qB:∀x:aj w wr,Calls (Qs fs) 131 _ x.val λe w'=>e=.returned (.bool bb)/\∃y:aj w wr,w'=y.val:=λx=>aj.calls (V x.val x.st);have cV:Hid _:=ck;clear ck V s0 s1 s2 s3 s4 s5 s6 s7 s8 s9 cF d0 d1 d2 bx b0 b1;go_wp2;haveI cX:Nonempty (aj w wr):=⟨⟨wr,ae.refl _,cd.out.2⟩⟩
        cases bb with
        |true=>
         refine bh (w0:=w) (w1:=wr) (by kernel_rfl) (by kernel_rfl) (ae.refl _) cd.out.2 ?_;repeat (go_big_quiet_step (first|(go_at_call 131;exact qB _)))
         refine wpQuiet_nil ?_;rintro wz ⟨⟨_,Sz,Bz⟩,rfl⟩;have SB:Hid _:=(⟨Sz,Bz⟩:ae wr wz/\Below w.heap.size w wz)
         clear qB cX Sz Bz z0 z1 z2 z3 z4 z5 z6 z7 z8 z9 cG cI cL cM cR cS cU;go_wp2;refine⟨⟨j+1,by omega,by go_num,λi G e2=>?_,M.out.2.1.trans SB.out.1,SB.out.2⟩,by simp[intOf];omega⟩;by_cases cY:i<j
         ·exact M.out.1 i G cY
         ·obtain rfl:i=j:=by omega
          rw[cD.out];exact cV.out.symm
        |false=>
         refine bh (w0:=w) (w1:=wr) (by kernel_rfl) (by kernel_rfl) (ae.refl _) cd.out.2 ?_;repeat (go_big_quiet_step (first|(go_at_call 131;exact qB _)))
         refine wpQuiet_nil ?_;rintro wz ⟨⟨_,Sz,Bz⟩,rfl⟩;have SB:Hid _:=(⟨Sz,Bz⟩:ae wr wz/\Below w.heap.size w wz)
         clear qB cX Sz Bz z0 z1 z2 z3 z4 z5 z6 z7 z8 z9 cG cI cL cM cR cS cU;go_wp2;go_meet;refine⟨j,hj,rfl,M.out.1,λc0=>?_,M.out.2.1.trans SB.out.1,SB.out.2⟩;rw[cD.out];exact cV.out.symm
       ·obtain⟨A,cap,rfl⟩:∃A cap,vF=.slice A l.length cap:=by
         obtain⟨rfl,h0⟩|⟨g,cap,dt,rfl,_⟩:=HO.2
         ·exact⟨_,_,by rw[h0]⟩
         ·exact⟨_,_,rfl⟩
        have cC:decide ((j:Int)<(l.length:Int))=false:=Rz (by omega);have e3:decide (j<l.length)=false:=Rz (by omega);have dw:Hid (j=l.length):=(by omega:j=l.length)
        clear ad b b8 ca HO hF bo h0 h1 h2 t0 t1 t2 t3 t4 t5 t6 t7 t8 t9 aa cB;go_wp2;go_quiet (fail);go_wp2;go_meet;exact⟨j,hj,rfl,M.out.1,λc0=>absurd c0 (by have:=dw.out;omega),M.out.2.1,M.out.2.2.fL _⟩
     case rest=>
      obtain⟨j,hj,rfl,ad,c1,Sx,Bx⟩:=hcut;have b3:=Cc c ⟨k,r,lv⟩ l j hj ad c1;have HP:Hid _:=b3;clear b3;clear t0 t1 t2 t3 t4 t5 t6 t7 t8 t9 aa cB b7 ad c1;have H0:=Sx.cell h0;have H1:=Sx.cell h1;have H2:=Sx.cell h2;have HO:=fN bo.out.1 Sx;have z:w.heap.size<=wc.heap.size:=Bx.size;have SX:Hid _:=(⟨Sx,Bx⟩:ae _ wc/\Below w.heap.size w wc)
      clear Sx Bx hF h0 h1 h2;obtain⟨i0,G,B,C,D⟩:=info_parts (J3 fs);have a:∀d,Below wc.heap.size wc d->d.cell? ⟨H,0,none⟩=some (.int .i64 k)/\d.cell? ⟨H,1,none⟩=some (.int .i64 r)/\d.cell? ⟨H,2,none⟩=some (.int .i64 lv):=λd hb=>⟨(ae.below hb).cell H0,(ae.below hb).cell H1,(ae.below hb).cell H2⟩
      have n0:=World.new_ne wc _ H0;obtain⟨rfl,dy⟩|⟨g,cap,dt,rfl,hg,ea,e4,e5,eb,ec⟩:=HO.2
      ·obtain rfl:=Ss dy
       obtain rfl:j=0:=by simpa using hj
       go_upto_region 11 with fail;go_cut [8]from 55 to 67 (λs8 wx=>∃Q,Q=s8/\wx.ownsRow wc.heap.size 66 3 Q 1 [.int .i64 k,.int .i64 r,.int .i64 lv]/\Below wc.heap.size wc wx)
       case first=>
        obtain⟨⟨oA,bA⟩,⟨oB,bB,hB⟩,⟨oC,bC,hC⟩⟩:=qU wc k r lv;have R:0+0+1<=maxLen:=by unfold maxLen;omega
        go_region_held3 (λw'=>w'.cell? ⟨H,0,none⟩=some (.int .i64 k)/\w'.cell? ⟨H,1,none⟩=some (.int .i64 r)/\w'.cell? ⟨H,2,none⟩=some (.int .i64 lv)) (first|exact a _ (Below.refl _ _).drew|exact a _ bA|exact a _ bB|exact a _ bC|exact a _ (((Below.refl _ _).alloc (Rq _) _).drew)|exact a _ hB2|exact a _ (hB1.alloc hB1.size _)|exact a _ hB1)
         (first|(refine bO (P:=Qs fs) (.tmp 55) (.tmp 58) 62 (by rfl) wc.heap.size 66 i0 _ 3 24 Tryz.underlying62 G B C D rfl (by decide) _ 0 [] (by rfl) oA none 0 0 [] (by rfl) .nil (λu hu=>by cases hu) (RA _) (by omega) (bA).size (by rfl) ?_;intro v1 wA E q S;have hB1:Below wc.heap.size wc wA:=(bA).grown q (bA).size (dP oA))|(refine bO (P:=Qs fs) (.tmp 55) (.tmp 58) 62 (by rfl) wc.heap.size 66 i0 _ 3 24 Tryz.underlying62 G B C D rfl (by decide) _ 0 [] (by rfl) oB none 0 0 [] (by rfl) .nil (λu hu=>by cases hu) (RA _) (by omega) (bB).size (by rfl) ?_;intro v1 wA E q S;have hB1:Below wc.heap.size wc wA:=(bB).grown q (bB).size (dP oB);have ao:=qV q hB (by simp[Value.ownBlock]))|(refine bO (P:=Qs fs) (.tmp 55) (.tmp 58) 62 (by rfl) wc.heap.size 66 i0 _ 3 24 Tryz.underlying62 G B C D rfl (by decide) _ 0 [] (by rfl) oC none 0 0 [] (by rfl) .nil (λu hu=>by cases hu) (RA _) (by omega) (bC).size (by rfl) ?_;intro v1 wA E q S;have hB1:Below wc.heap.size wc wA:=(bC).grown q (bC).size (dP oC);have ao:=qV q hC (by simp[Value.ownBlock]))|(refine bO (P:=Qs fs) (.tmp 59) (.tmp 61) 62 (by rfl) wc.heap.size 66 i0 _ 3 24 Tryz.underlying62 G B C D rfl (by decide) v1 (0+0) ([]++[]) (by rfl) (E.alloc _) (some ⟨wA.heap.size,0,none⟩) 1 1 [.int .i64 k,.int .i64 r,.int .i64 lv] (by rfl) (Gx wA _ _ _) qT R (by omega) (hB1.alloc hB1.size _).size (by rfl) ?_;intro v2 wB ar W ax;have hB2:Below wc.heap.size wc wB:=(hB1.alloc hB1.size _).grown W (hB1.alloc hB1.size _).size (dP E))|(refine bO (P:=Qs fs) (.tmp 59) (.tmp 61) 62 (by rfl) wc.heap.size 66 i0 _ 3 24 Tryz.underlying62 G B C D rfl (by decide) v1 (0+0) ([]++[]) (by rfl) E (some ⟨_,0,none⟩) 1 1 [.int .i64 k,.int .i64 r,.int .i64 lv] (by rfl) (zY ao) qT R (by omega) hB1.size (by rfl) ?_;intro v2 wB ar W ax;have hB2:Below wc.heap.size wc wB:=hB1.grown W hB1.size (dP E)))
        all_goals
         go_wp2_with fail
         go_meet;exact⟨v2,rfl,ar,hB2⟩
       case rest=>
        obtain⟨Q,rfl,ay,af⟩:=hcut;have X:Hid (World.ownsRow wc _ 66 3 Q 1 [.int .i64 k,.int .i64 r,.int .i64 lv]):=ay;have I:Hid _:=af;have aM:1+0<=maxLen:=by unfold maxLen;omega
        clear ay af HO a H0 H1 H2 n0;go_wp2_with (first|(at_builtin;refine eU (P:=Qs fs) (.tmp 63) (.tmp 66) 62 (by rfl) _ 66 i0 _ 3 24 Tryz.underlying62 G B C D rfl (by decide) Q 1 _ (by rfl) X.out none 0 0 [] (by rfl) .nil (λu hu=>by cases hu) aM (by omega) I.out.size (by rfl) ?_;intro v5 w5 a1 a6 b4))
        have B5:=I.out.grown a6 I.out.size (dP X.out);refine⟨⟨k+1,v5,by omega,by go_num,rfl,⟨?_,?_⟩,BC.out.2.trans (SX.out.1.trans (ae.below B5)),SX.out.2.trans (B5.mono z)⟩,by simp[intOf];omega⟩
        ·rw[HN.out]
         exact vy a1 z
        ·intro h
         rw[HN.out]at h;cases h
      ·go_upto_region 11 with fail
       go_cut [8]from 55 to 67 (λs8 wx=>∃Q,Q=s8/\wx.ownsRow wc.heap.size 66 3 Q (j+1) (bq (l.take j)++[.int .i64 k,.int .i64 r,.int .i64 lv])/\Below wc.heap.size wc wx)
       case first=>
        have e6:(j:Int)<=(cap:Int):=by omega
        obtain⟨⟨oA,bA⟩,⟨oB,bB,hB⟩,⟨oC,bC,hC⟩⟩:=qU wc k r lv;have a7:∀d,Below wc.heap.size wc d->Src d 3 (some ⟨g,0,none⟩) j (bq (l.take j)):=λd hb=>J4 (fN HO (ae.below hb)) hj;have cl:0+j<=maxLen:=by unfold maxLen;omega
        have R:0+j+1<=maxLen:=by unfold maxLen;omega
        go_region_held3 (λw'=>w'.cell? ⟨H,0,none⟩=some (.int .i64 k)/\w'.cell? ⟨H,1,none⟩=some (.int .i64 r)/\w'.cell? ⟨H,2,none⟩=some (.int .i64 lv)) (first|exact a _ (Below.refl _ _).drew|exact a _ bA|exact a _ bB|exact a _ bC|exact a _ (((Below.refl _ _).alloc (Rq _) _).drew)|exact a _ hB2|exact a _ (hB1.alloc hB1.size _)|exact a _ hB1)
         (first|(refine bO (P:=Qs fs) (.tmp 55) (.tmp 58) 62 (by rfl) wc.heap.size 66 i0 _ 3 24 Tryz.underlying62 G B C D rfl (by decide) _ 0 [] (by rfl) oA (some ⟨g,0,none⟩) j cap (bq (l.take j)) (by rfl) (a7 _ bA) (jf _) cl (by omega) (bA).size (by rfl) ?_;intro v1 wA E q S;have hB1:Below wc.heap.size wc wA:=(bA).grown q (bA).size (dP oA))|(refine bO (P:=Qs fs) (.tmp 55) (.tmp 58) 62 (by rfl) wc.heap.size 66 i0 _ 3 24 Tryz.underlying62 G B C D rfl (by decide) _ 0 [] (by rfl) oB (some ⟨g,0,none⟩) j cap (bq (l.take j)) (by rfl) (a7 _ bB) (jf _) cl (by omega) (bB).size (by rfl) ?_;intro v1 wA E q S;have hB1:Below wc.heap.size wc wA:=(bB).grown q (bB).size (dP oB);have ao:=qV q hB (by simp[Value.ownBlock]))|(refine bO (P:=Qs fs) (.tmp 55) (.tmp 58) 62 (by rfl) wc.heap.size 66 i0 _ 3 24 Tryz.underlying62 G B C D rfl (by decide) _ 0 [] (by rfl) oC (some ⟨g,0,none⟩) j cap (bq (l.take j)) (by rfl) (a7 _ bC) (jf _) cl (by omega) (bC).size (by rfl) ?_;intro v1 wA E q S;have hB1:Below wc.heap.size wc wA:=(bC).grown q (bC).size (dP oC);have ao:=qV q hC (by simp[Value.ownBlock]))|(refine bO (P:=Qs fs) (.tmp 59) (.tmp 61) 62 (by rfl) wc.heap.size 66 i0 _ 3 24 Tryz.underlying62 G B C D rfl (by decide) v1 (0+j) ([]++bq (l.take j)) (by rfl) (E.alloc _) (some ⟨wA.heap.size,0,none⟩) 1 1 [.int .i64 k,.int .i64 r,.int .i64 lv] (by rfl) (Gx wA _ _ _) qT R (by omega) (hB1.alloc hB1.size _).size (by rfl) ?_;intro v2 wB ar W ax;have hB2:Below wc.heap.size wc wB:=(hB1.alloc hB1.size _).grown W (hB1.alloc hB1.size _).size (dP E))|(refine bO (P:=Qs fs) (.tmp 59) (.tmp 61) 62 (by rfl) wc.heap.size 66 i0 _ 3 24 Tryz.underlying62 G B C D rfl (by decide) v1 (0+j) ([]++bq (l.take j)) (by rfl) E (some ⟨_,0,none⟩) 1 1 [.int .i64 k,.int .i64 r,.int .i64 lv] (by rfl) (zY ao) qT R (by omega) hB1.size (by rfl) ?_;intro v2 wB ar W ax;have hB2:Below wc.heap.size wc wB:=hB1.grown W hB1.size (dP E)))
        all_goals
         go_wp2_with fail
         go_meet;exact⟨v2,rfl,(by simpa using ar),hB2⟩
       case rest=>
        obtain⟨Q,rfl,ay,af⟩:=hcut;have c5:=fN HO (ae.below af);have X:Hid (World.ownsRow wc _ 66 3 Q (j+1) (bq (l.take j)++[.int .i64 k,.int .i64 r,.int .i64 lv])):=ay;have c6:=J5 c5 hj;have ef:(j:Int)<=(l.length:Int):=by omega
        have eg:(l.length:Int)<=(cap:Int):=by omega
        have aM:j+1+(l.length-j)<=maxLen:=by unfold maxLen;omega
        have ed:Hid _:=c6;have I:Hid _:=af;clear ay c6 af HO c5 a H0 H1 H2 n0 ea eb ec;obtain hjcap|hjcap:=Ry j cap
        ·go_wp2_with (first|(at_builtin;refine eU (P:=Qs fs) (.tmp 63) (.tmp 66) 62 (by rfl) _ 66 i0 _ 3 24 Tryz.underlying62 G B C D rfl (by decide) Q (j+1) _ (by rfl) X.out (some ⟨g,j*3,none⟩) (l.length-j) (cap-j) (bq (l.drop j)) (by rfl) ed.out (jf _) aM (by omega) I.out.size (by rfl) ?_;intro v5 w5 a1 a6 b4))
         have B5:=I.out.grown a6 I.out.size (dP X.out);refine⟨⟨k+1,v5,by omega,by go_num,rfl,⟨?_,?_⟩,BC.out.2.trans (SX.out.1.trans (ae.below B5)),SX.out.2.trans (B5.mono z)⟩,by simp[intOf];omega⟩
         ·rw[HN.out,HP.out,yH,vz _ _ _ hj]
          exact vy a1 z
         ·intro h
          rw[HN.out]at h;have:=iR c ⟨k,r,lv⟩ l;rw[h]at this;simp at this
        ·have ee:l.length-j=0:=by omega
         have e7:cap-j=0:=by omega
         have b2:j=cap:=by omega
         have b5:Src wc 3 (some ⟨g,0,none⟩) 0 (bq (l.drop j)):=by rw[RY (by omega)];exact .some _ _ _ rfl λi u hu=>by cases hu
         have c7:Hid _:=b5;have c8:j+1+0<=maxLen:=by unfold maxLen;omega
         clear b5;subst b2;go_wp2_with (first|(at_builtin;refine eU (P:=Qs fs) (.tmp 63) (.tmp 66) 62 (by rfl) _ 66 i0 _ 3 24 Tryz.underlying62 G B C D rfl (by decide) Q (j+1) _ (by rfl) X.out (some ⟨g,0,none⟩) (0) (0) (bq (l.drop j)) (by rfl) c7.out (jf _) c8 (by omega) I.out.size (by rfl) ?_;intro v5 w5 a1 a6 b4))
         have B5:=I.out.grown a6 I.out.size (dP X.out);refine⟨⟨k+1,v5,by omega,by go_num,rfl,⟨?_,?_⟩,BC.out.2.trans (SX.out.1.trans (ae.below B5)),SX.out.2.trans (B5.mono z)⟩,by simp[intOf];omega⟩
         ·rw[HN.out,HP.out,yH,vz _ _ _ hj]
          rw[ee];exact vy a1 z
         ·intro h
          rw[HN.out]at h;have:=iR c ⟨k,r,lv⟩ l;rw[h]at this;simp at this
  ·clear n Z cH cB a8 T S1 B1 hF
   obtain rfl:k=c.marks.length:=by omega
   go_wp2;go_ret;exact⟨_,rfl,HF.out,HW.out.2⟩
end Go.Proofs

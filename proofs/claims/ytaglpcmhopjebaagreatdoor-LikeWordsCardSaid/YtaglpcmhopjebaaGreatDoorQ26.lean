import Derived.Test.YtaglpcmhopjebaaGreatDoorQ25
set_option linter.all false
set_option maxRecDepth 100000
set_option maxHeartbeats 20000000
namespace Go.Proofs
open Go.Tm Go.RowKit
variable {fs:Array Func} (L:bU fs)
def ae.vy{w w'}(h:ae w w'){p}(d:w.heap.size<=p.block)(v):ae w (w'.setCell p v):=λb c e f a=>(Below.heap_setCell w' p v b (by have:=(R7.1 a).1;omega)).trans (h b c e f a)
def lF{B e k v n xs w w'}(h:w.ownsRow B e k v n xs)(b:Below w.heap.size w w'):w'.ownsRow B e k v n xs:=by
 refine⟨h.1,?_⟩;obtain c|⟨g,cap,a,d,f,i,j⟩:=h.2
 ·exact .inl c
 ·exact .inr ⟨g,cap,a,d,f,ae.below b g _ _ _ i,j⟩
def vz{w w'}(h:Below w.drew.heap.size w.drew w'):ae w w':=λb c e f a=>ae.below (w:=w.drew) h b c e f a
def IF{w w' o}(h:Below ((w.alloc o).drew).heap.size ((w.alloc o).drew) w'):ae w w':=(ae.alloc w o).trans (vz h)
def IG{w w':World}{cs e}(h:Below ((w.alloc (.cells cs e)).drew).heap.size ((w.alloc (.cells cs e)).drew) w'):w'.heap[w.heap.size]? =some (.cells cs e):=(h.block w.heap.size (by show w.heap.size<(w.alloc (.cells cs e)).heap.size;simp)).trans SY
def IH{w w' cs e}(h:Below ((w.alloc (.cells cs e)).drew).heap.size ((w.alloc (.cells cs e)).drew) w'):Below w.heap.size w w':=((Below.refl w.heap.size w).alloc (R2 _) (.cells cs e)).drew.trans (h.mono (by show w.heap.size<=(w.alloc (.cells cs e)).heap.size;simp))
def mQ:((Tryz.prog).info? 66).map (λi=>(i.zero,i.size,i.bytes))=some (some (.agg #[.int .i64 0,.int .i64 0,.int .i64 0]),3,24):=by kernel_rfl
def KT(fs):((Qs fs).info? 66).map (λi=>(i.zero,i.size,i.bytes))=some (some (.agg #[.int .i64 0,.int .i64 0,.int .i64 0]),3,24):=mQ
def fM{B e k v n xs w w'}(h:w.ownsRow B e k v n xs)(b:ae w w'):w'.ownsRow B e k v n xs:=by
 refine⟨h.1,?_⟩;obtain c|⟨g,cap,a,d,f,i,j⟩:=h.2
 ·exact .inl c
 ·exact .inr ⟨g,cap,a,d,f,b g _ _ _ i,j⟩
def O0{B v l}{w:World}(h:w.ownsRow B 66 3 v l.length (bp l)){j}(b:j<l.length):
 ∃g cap,v=.slice (some ⟨g,0,none⟩) l.length cap/\w.cell? ⟨g,j*3,none⟩=some (.int .i64 l[j].mark)/\w.cell? ⟨g,j*3+1,none⟩=some (.int .i64 l[j].eh)/\w.cell? ⟨g,j*3+2,none⟩=some (.int .i64 l[j].level):=by
 have a:=h;obtain⟨_,i⟩|⟨g,cap,c,rfl,_⟩:=h.2
 ·omega
 ·obtain⟨d,e,f⟩:=Cx l j b
  exact⟨g,cap,rfl,(a.cellAt (j*3) (by omega)).trans d,(a.cellAt (j*3+1) (by omega)).trans e,(a.cellAt (j*3+2) (by omega)).trans f⟩
def e9(b o j):(⟨b,o,none⟩:Addr).add j=⟨b,o+j,none⟩:=by
 unfold Addr.add;split
 ·rename_i h
  have:j=0:=by simpa using h
  subst this;rfl
 ·rfl
def Al{w b x y z e f}(h:w.heap[b]? =some (.cells #[.int .i64 x,.int .i64 y,.int .i64 z] e f)):Src w 3 (some ⟨b,0,none⟩) 1 [.int .i64 x,.int .i64 y,.int .i64 z]:=.some _ _ _ rfl λj u a=>by have:=cell_of_heap h j u (by simpa using a);rw[e9,Se];exact this
def Hd(w:World)(x y z):Src (w.alloc (.cells #[.int .i64 x,.int .i64 y,.int .i64 z] 66)) 3 (some ⟨w.heap.size,0,none⟩) 1 [.int .i64 x,.int .i64 y,.int .i64 z]:=Al (e:=66) (f:=(0,0)) SY
def qT{x y z}:∀u∈([.int .i64 x,.int .i64 y,.int .i64 z]:List Value),u.oneCell'=true:=by intro u a;simp only[SE,SS,SU]at a;rcases a with rfl|rfl|rfl<;>rfl
def KU{base g cap j l w}(h:w.ownsRow base 66 3 (.slice (some ⟨g,0,none⟩) l.length cap) l.length (bp l))(b:j<=l.length):Src w 3 (some ⟨g,0,none⟩) j (bp (l.take j)):=by
 refine .some _ _ _ (by rw[gY,Tp,Nat.min_eq_left b]) λi u a=>?_;rw[Ff]at a;have c:i<j*3:=by have:=(TC.1 a).1;rw[Tp]at this;omega
 rw[List.getElem?_take_of_lt c]at a;rw[e9,Se];exact(h.cellAt i (by omega)).trans a
def KV{base g cap j l w}(h:w.ownsRow base 66 3 (.slice (some ⟨g,0,none⟩) l.length cap) l.length (bp l))(b:j<=l.length):Src w 3 (some ⟨g,j*3,none⟩) (l.length-j) (bp (l.drop j)):=by
 refine .some _ _ _ (by rw[gY,Sk]) λi u a=>?_;rw[Fc,UR]at a;have c:j*3+i<l.length*3:=by have:=(TC.1 a).1;rw[gY]at this;omega
 rw[e9];exact(h.cellAt (j*3+i) (by omega)).trans a
def jl(l):∀u∈bp l,u.oneCell'=true:=by intro u a;obtain⟨n,rfl⟩:=sI l u a;rfl
def qU(a:World)(x y z:Int):let E:Obj:=.cells #[] 66
 let b:Obj:=.cells #[.int .i64 x,.int .i64 y,.int .i64 z] 66
 ((a.alloc E).drew.ownsRow a.heap.size 66 3 (.slice (some ⟨a.heap.size,0,none⟩) 0 0) 0 []/\Below a.heap.size a (a.alloc E).drew)/\
 (((a.alloc E).alloc b).drew.ownsRow a.heap.size 66 3 (.slice (some ⟨a.heap.size,0,none⟩) 0 0) 0 []/\Below a.heap.size a ((a.alloc E).alloc b).drew/\((a.alloc E).alloc b).drew.heap[a.heap.size+1]? =some b)/\
 (((a.alloc b).alloc E).drew.ownsRow a.heap.size 66 3 (.slice (some ⟨a.heap.size+1,0,none⟩) 0 0) 0 []/\Below a.heap.size a ((a.alloc b).alloc E).drew/\((a.alloc b).alloc E).drew.heap[a.heap.size]? =some b):=by
 intro E b;have h:(a.alloc E).heap.size=a.heap.size+1:=by simp
 have i:(a.alloc b).heap.size=a.heap.size+1:=by simp
 have d:(a.alloc E).ownsRow a.heap.size 66 3 (.slice (some ⟨a.heap.size,0,none⟩) 0 0) 0 []:=World.ownsRow_made a #[] 0 (R2 _) (R9 _) rfl;have f:=World.ownsRow_made (base:=a.heap.size) (e:=66) (size:=3) (a.alloc b) #[] 0 (by omega) (R9 _) rfl;rw[i]at f;have c:Below a.heap.size a (a.alloc E):=(Below.refl _ _).alloc (R2 _) _;have g:Below a.heap.size a (a.alloc b):=(Below.refl _ _).alloc (R2 _) _;refine⟨⟨d,c.drew⟩,⟨d.alloc _,(c.alloc c.size _).drew,?_⟩,⟨f,(g.alloc g.size _).drew,?_⟩⟩
 ·have:=SY (xs:=(a.alloc E).heap) (x:=b)
  rw[h]at this;exact this
 ·have:=Below.heap_alloc (a.alloc b) E a.heap.size (by omega)
  exact this.trans SY
def qV{w w':World}{row k o}(h:w.grownBy w' row)(b:w.heap[k]? =some o)(a:row≠some k):w'.heap[k]? =some o:=(h.block k (R7.1 b).1 (Sn a)).trans b
def vA{w:World}{base a e size v n xs}(h:w.ownsRow base e size v n xs)(i:a<=base):w.ownsRow a e size v n xs:=by
 refine⟨h.1,?_⟩;obtain c|⟨g,cap,b,d,j,f⟩:=h.2
 ·exact .inl c
 ·exact .inr ⟨g,cap,b,d,by omega,f⟩
def yQ(l:List Hit)(j h):bp (l.take j++h::l.drop j)=bp (l.take j)++[.int .i64 h.mark,.int .i64 h.eh,.int .i64 h.level]++bp (l.drop j):=by rw[Ak,Tw];rfl
def vB(l:List Hit)(j h)(a:j<=l.length):(l.take j++h::l.drop j).length=j+1+(l.length-j):=by rw[Sr,Tp,R4,Sk];omega
def fV(base:Nat)(w:World)(v:Value)(l:List Hit):Prop:=w.ownsRow base 66 3 v l.length (bp l)/\(l=[]->v=.slice none 0 0)
def vC{K:Nat->Prop}{sc:Array Value}{c:Case}(w:World)(hc:bI K w sc c)(ok:OkC c):
 Calls (Qs fs) 77 #[.agg sc] w λe w'=>∃v,e=.returned v/\fV w.heap.size w' v (bT c)/\Below w.heap.size w w':=by
 have e70:=e70 L;have Qb:=Qb L;have Qc:=Qc L;have dd:=ok.OW;have ei:=ok.sq;have cH:=λk (hk:k<c.marks.length) d (t:ae w d)=>OY L k d (hc.stays t) ok hk;have cB:=λi j r1 l1 r2 l2 G hj d (t:ae w d)=>KP L (c:=c) i j r1 l1 r2 l2 d (hc.stays t) G hj;obtain⟨v0,v1,v2,vr,vf,vm,vk,rfl,ht,hr,hf,hm,dm⟩:=hc;obtain⟨cp,cr,rfl,lr,ek,_,gr⟩:=hr;obtain⟨cq,cm,rfl,lm,ev,_,gm⟩:=hm;obtain⟨w1,ag⟩:=ex (w.alloc (.cells #[v0,v1,v2,.slice cp c.rules.length cr,.string c.new.name,.string c.new.word,vf,.int .i64 c.new.day,.bool c.new.known,.slice cq c.marks.length cm,vk] 60));have S1:ae w w1:=by rw[ag];exact ae.alloc _ _
 have B1:Below w.heap.size w w1:=by rw[ag];exact aG _ _
 have ct:∀i v,(#[v0,v1,v2,.slice cp c.rules.length cr,.string c.new.name,.string c.new.word,vf,.int .i64 c.new.day,.bool c.new.known,.slice cq c.marks.length cm,vk]:Array Value)[i]? =some v->w1.cell? ⟨w.heap.size,i,none⟩=some v:=λi v h=>by rw[ag];exact aw w _ 60 i v h
 obtain⟨N,hN⟩:=ex (w.heap.size);have T:=λd (t:ae w1 d) i v h=>t.cell (ct i v h);rw[<-hN]at T;have ba:=λ(r:ui) (m:Mark) (vx:Value) d (t:ae w d) (bk:OkM m) (hx:aE K 1 du d vx m.aW)=>yI L (m1:=#[.string c.new.name,.string c.new.word,vf,.int .i64 c.new.day,.bool c.new.known]) (m2:=#[.string m.name,.string m.word,vx,.int .i64 m.day,.bool m.known]) (one:=c.new) (two:=m) r.kind d (ht.stays t) ok.table ⟨vf,rfl,hf.ints t⟩ ⟨_,rfl,hx⟩ ok.new bk;have Y:=mP c dd;have ak:=pn c;go_enter (n77 L),Tryz.ntmps77;go_wp2;rw[<-ag,<-hN];clear ag hN ct ht hf dm;go_loopw [3,4] (λo s wr=>∃(k:Nat) (vF:Value),k<=c.marks.length/\s=.int .i64 k/\vF=o/\fV w.heap.size wr vF (jA c k)/\ae w1 wr/\Below w.heap.size w wr) (λo s _=>c.marks.length-(intOf s).toNat)
 case atStart=>exact⟨0,_,R9 _,rfl,rfl,⟨World.ownsRow_nil _ _ _ _,λ_=>rfl⟩,ae.refl _,B1⟩
 case round=>
  obtain⟨k,vF,hk,rfl,rfl,hF,n,Z⟩:=hrel;have u0:=T wr n 0 _ rfl;have u1:=T wr n 1 _ rfl;have u2:=T wr n 2 _ rfl;have u3:=T wr n 3 _ rfl;have u4:=T wr n 4 _ rfl;have u5:=T wr n 5 _ rfl;have u6:=T wr n 6 _ rfl;have u7:=T wr n 7 _ rfl;have u8:=T wr n 8 _ rfl;have u9:=T wr n 9 _ rfl;have cv:=T wr n 10 _ rfl;have HW:Hid _:=(⟨n,Z⟩:ae w1 wr/\Below w.heap.size w wr)
  have HF:Hid _:=hF;obtain an|hge:=R5 k c.marks.length
  ·have cK:=cH k an wr (S1.trans n)
   obtain⟨hz,hn⟩|⟨r,hr,hz,hn⟩:=tE c k an (by omega)
   ·rw[hz]at cK
    have HN:Hid _:=nJ c k hn;clear hn hz cH cB ba T S1 B1 n Z gr gm hF Y ak;go_wp2_with (first|(go_at_call 130;refine cK.mono ?_;rintro e w3 ⟨rfl,f⟩))
    refine⟨⟨k+1,vF,by omega,by go_num,rfl,?_,HW.out.1.trans (ae.below f),HW.out.2.trans (f.mono HW.out.2.size)⟩,by simp[intOf];omega⟩;rw[HN.out];exact⟨lF HF.out.1 f,HF.out.2⟩
   ·rw[hz]at cK
    have HN:Hid _:=nK c k _ hn;have bk:=ok.marks _ (Sg an);obtain⟨bm,om,rfl,x0,x1,⟨fm,x2,xf⟩,x3,x4⟩:=gm k an;obtain⟨br,ro,rfl,y0,y1,y2,y3⟩:=gr r hr;have dn:=S1.trans n;clear hn hz cH T B1 n Z gr gm hF;go_upto_region 7 with(first|(go_at_call 130;refine cK.mono ?_;rintro e w3 ⟨rfl,f⟩))
    have S3:ae w1 w3:=HW.out.1.trans (ae.below f);have B3:Below w.heap.size w w3:=HW.out.2.trans (f.mono HW.out.2.size);have cw:fV w.heap.size w3 vF (jA c k):=⟨lF HF.out.1 f,HF.out.2⟩
    have t0:=(ae.below f).cell u0;have t1:=(ae.below f).cell u1;have t2:=(ae.below f).cell u2;have t3:=(ae.below f).cell u3;have t4:=(ae.below f).cell u4;have t5:=(ae.below f).cell u5;have t6:=(ae.below f).cell u6;have t7:=(ae.below f).cell u7;have t8:=(ae.below f).cell u8;have t9:=(ae.below f).cell u9;have aa:=(ae.below f).cell cv;have J:=S1.trans S3;have bo:=xf.ints J;have ab:=λd (t:ae w3 d)=>ba c.rules[r] c.marks[k] fm d (J.trans t) bk (bo.ints t);obtain⟨m,cx⟩:=ex (c.marks[k]);obtain⟨rl,cy⟩:=ex (c.rules[r]);rw[<-cx]at x0 x1 x3 x4 bk ab HN bo;rw[<-cy]at y0 ab HN;have x0:=J.cell x0;have x1:=J.cell x1;have x2:=J.cell x2;have x3:=J.cell x3;have x4:=J.cell x4;have y0:=J.cell y0;clear u0 u1 u2 u3 u4 u5 u6 u7 u8 u9 cv cx cy y1 y2 y3 ba xf f HW HF;obtain⟨lv,cz⟩:=ex (bF c.table rl.kind c.new m);rw[<-cz]at ab HN;clear cz;have b8:Hid _:=cw;have bs:Hid _:=(⟨S3,B3⟩:ae w1 w3/\Below w.heap.size w w3)
    have dp:Hid _:=S1;have cA:Hid _:=bo;clear cw S3 B3 S1 J dn bo;have ez:(r:Int)<(c.rules.length:Int):=by omega
    have eS:(k:Int)<(c.marks.length:Int):=by omega
    obtain⟨cC,cf,rfl,lf,e0,kf,gf⟩:=cA.out;clear gf kf cA;go_cut [6]from 9 to 67 (λs6 wx=>∃H:Nat,s6=.pointer (some ⟨H,0,none⟩)/\w3.heap.size<=H/\wx.cell? ⟨H,0,none⟩=some (.int .i64 k)/\wx.cell? ⟨H,1,none⟩=some (.int .i64 r)/\wx.cell? ⟨H,2,none⟩=some (.int .i64 lv)/\Below w3.heap.size w3 wx)
    case first=>
     have F:∀d,ae w3 d->d.cell? ⟨N,0,none⟩=some v0/\d.cell? ⟨N,1,none⟩=some v1/\d.cell? ⟨N,2,none⟩=some v2/\d.cell? ⟨N,3,none⟩=some (.slice (some ⟨br,ro,none⟩) c.rules.length cr)/\d.cell? ⟨br,ro+r*4,none⟩=some (.int .i64 rl.kind)/\d.cell? ⟨N,4,none⟩=some (.string c.new.name)/\d.cell? ⟨N,5,none⟩=some (.string c.new.word)/\d.cell? ⟨N,6,none⟩=some vf/\d.cell? ⟨N,7,none⟩=some (.int .i64 c.new.day)/\d.cell? ⟨N,8,none⟩=some (.bool c.new.known)/\d.cell? ⟨N,9,none⟩=some (.slice (some ⟨bm,om,none⟩) c.marks.length cm)/\d.cell? ⟨bm,om+k*5,none⟩=some (.string m.name)/\d.cell? ⟨bm,om+k*5+1,none⟩=some (.string m.word)/\d.cell? ⟨bm,om+k*5+2,none⟩=some (.slice cC m.aW.length cf)/\d.cell? ⟨bm,om+k*5+3,none⟩=some (.int .i64 m.day)/\d.cell? ⟨bm,om+k*5+4,none⟩=some (.bool m.known):=λd t=>⟨t.cell t0,t.cell t1,t.cell t2,t.cell t3,t.cell y0,t.cell t4,t.cell t5,t.cell t6,t.cell t7,t.cell t8,t.cell t9,t.cell x0,t.cell x1,t.cell x2,t.cell x3,t.cell x4⟩
     have n0:=World.new_ne w3 _ t0;have n1:=World.new_ne w3 _ t1;have n2:=World.new_ne w3 _ t2;have n3:=World.new_ne w3 _ t3;have n4:=World.new_ne w3 _ y0;have n5:=World.new_ne w3 _ t4;have n6:=World.new_ne w3 _ t5;have n7:=World.new_ne w3 _ t6;have n8:=World.new_ne w3 _ t7;have n9:=World.new_ne w3 _ t8;have n10:=World.new_ne w3 _ t9;have n11:=World.new_ne w3 _ x0;have n12:=World.new_ne w3 _ x1;have n13:=World.new_ne w3 _ x2;have n14:=World.new_ne w3 _ x3;have n15:=World.new_ne w3 _ x4
     go_region_held3 (λw'=>w'.cell? ⟨N,0,none⟩=some v0/\w'.cell? ⟨N,1,none⟩=some v1/\w'.cell? ⟨N,2,none⟩=some v2/\w'.cell? ⟨N,3,none⟩=some (.slice (some ⟨br,ro,none⟩) c.rules.length cr)/\w'.cell? ⟨br,ro+r*4,none⟩=some (.int .i64 rl.kind)/\w'.cell? ⟨N,4,none⟩=some (.string c.new.name)/\w'.cell? ⟨N,5,none⟩=some (.string c.new.word)/\w'.cell? ⟨N,6,none⟩=some vf/\w'.cell? ⟨N,7,none⟩=some (.int .i64 c.new.day)/\w'.cell? ⟨N,8,none⟩=some (.bool c.new.known)/\w'.cell? ⟨N,9,none⟩=some (.slice (some ⟨bm,om,none⟩) c.marks.length cm)/\w'.cell? ⟨bm,om+k*5,none⟩=some (.string m.name)/\w'.cell? ⟨bm,om+k*5+1,none⟩=some (.string m.word)/\w'.cell? ⟨bm,om+k*5+2,none⟩=some (.slice cC m.aW.length cf)/\w'.cell? ⟨bm,om+k*5+3,none⟩=some (.int .i64 m.day)/\w'.cell? ⟨bm,om+k*5+4,none⟩=some (.bool m.known)) (first|exact F _ (λ_ _ _ _ h=>h)|exact F _ (by assumption)|exact F _ ((by assumption:ae w3 _).trans (ae.alloc _ _))|exact F _ (ae.alloc w3 _)|go_keep|exact F _ ((((by assumption:ae w3 _).vy (p:=⟨_,_,none⟩) (R2 _) _).vy (p:=⟨_,_,none⟩) (R2 _) _).vy (p:=⟨_,_,none⟩) (R2 _) _))
      (first|(go_at_call 70;refine(ab w3.drew (λ_ _ _ _ h=>h)).mono ?_;rintro e w4 ⟨rfl,O⟩;have dr:ae w3 w4:=vz O;have ao:Below w3.heap.size w3 w4:=(Below.refl _ w3).drew.trans O;clear O;dsimp only)|(go_at_call 70;refine(ab ((w3.alloc (.cells #[.int .i64 0,.int .i64 0,.int .i64 0] 66)).drew) (ae.alloc w3 (.cells #[.int .i64 0,.int .i64 0,.int .i64 0] 66))).mono ?_;rintro e w4 ⟨rfl,O⟩;have dr:ae w3 w4:=IF O;have U:=IG O;have ao:=IH O;have q0:=cell_of_heap U 0 _ rfl;have q1:=cell_of_heap U 1 _ rfl;have q2:=cell_of_heap U 2 _ rfl;have g0:=frozen_of_heap U 0;have g1:=frozen_of_heap U 1;have g2:=frozen_of_heap U 2;clear O U;dsimp only))
     all_goals (go_wp2_with fail;go_meet)
     ·exact⟨_,rfl,ao.size,aw w4 _ 66 0 _ rfl,aw w4 _ 66 1 _ rfl,aw w4 _ 66 2 _ rfl,ao.alloc ao.size _⟩
     ·exact⟨_,rfl,R2 _,by simp[go_sem, *],by simp[go_sem, *],by simp[go_sem, *],((ao.setCell (p:=⟨w3.heap.size,0,none⟩) (R2 _) _).setCell (p:=⟨w3.heap.size,1,none⟩) (R2 _) _).setCell (p:=⟨w3.heap.size,2,none⟩) (R2 _) _⟩
    case rest=>
     obtain⟨H,rfl,hH,h0,h1,h2,Bc⟩:=hcut;have Sc:=ae.below Bc;have hF:fV w.heap.size wc vF (jA c k):=⟨lF b8.out.1 Bc,b8.out.2⟩
     have ca:=Y k hk;have ds:=ak k;obtain⟨l,hl⟩:=ex (jA c k);rw[<-hl]at hF HN ca ds;have BC:Hid _:=(⟨bs.out.2.trans (Bc.mono bs.out.2.size),bs.out.1.trans Sc⟩:Below w.heap.size w wc/\ae w1 wc)
     replace t0:=Sc.cell t0;replace t1:=Sc.cell t1;replace t2:=Sc.cell t2;replace t3:=Sc.cell t3;replace t4:=Sc.cell t4;replace t5:=Sc.cell t5;replace t6:=Sc.cell t6;replace t7:=Sc.cell t7;replace t8:=Sc.cell t8;replace t9:=Sc.cell t9;replace aa:=Sc.cell aa;clear cK b8 hl bs Bc ab x0 x1 x2 x3 x4 y0 Sc;have bx:Hid _:=hF
     go_upto_block 2 with fail
     go_cut [7]from 40 to 54 (λs7 wx=>∃j:Nat,j<=l.length/\s7=.int .i64 j/\(∀i (G:i<l.length),i<j->aR c l[i] ⟨k,r,lv⟩=true)/\(∀hj:j<l.length,aR c l[j] ⟨k,r,lv⟩=false)/\ae wc wx/\Below w.heap.size w wx)
     case first=>
      go_wp2_with fail
      go_loopw [7] (λs wi=>∃j:Nat,j<=l.length/\s=.int .i64 j/\(∀i (G:i<l.length),i<j->aR c l[i] ⟨k,r,lv⟩=true)/\ae wc wi/\Below w.heap.size w wi) (λs _=>l.length-(intOf s).toNat)
      case atStart=>exact⟨0,R9 _,rfl,λi G h=>by omega,ae.refl _,BC.out.1⟩
      case round=>
       obtain⟨j,hj,rfl,ad,b,cb⟩:=hrel;have M:Hid _:=(⟨ad,b,cb⟩:(∀i (G:i<l.length),i<j->aR c l[i] ⟨k,r,lv⟩=true)/\ae wc wr/\Below w.heap.size w wr)
       have cd:=λi' r' Q cg d (t:ae wr d)=>cB i' k r' Q r lv cg an d (ae.trans dp.out (BC.out.2.trans (b.trans t)));have HO:=fM bx.out.1 b;obtain cD|hjg:=R5 j l.length
       ·obtain⟨i',r',Q,cg,e1,_,b0⟩:=ca l[j] (Sg cD)
        have V:=cd i' r' Q cg;rw[<-b0]at V;obtain⟨g,cap,rfl,b1,b2,b3⟩:=O0 HO cD;rw[b0]at b1 b2 b3 V;simp only[]at b1 b2 b3;have cF:(j:Int)<(l.length:Int):=by omega
        have cG:Hid _:=b0;have s0:=b.cell t0;have s1:=b.cell t1;have s2:=b.cell t2;have s3:=b.cell t3;have s4:=b.cell t4;have s5:=b.cell t5;have s6:=b.cell t6;have s7:=b.cell t7;have s8:=b.cell t8;have s9:=b.cell t9;have cI:=b.cell aa;have d0:=b.cell h0;have d1:=b.cell h1;have d2:=b.cell h2;clear ad b cb cd b0 HO hF bx h0 h1 h2 t0 t1 t2 t3 t4 t5 t6 t7 t8 t9 aa;have ck:Hid _:=(⟨M.out.2.1,M.out.2.2⟩:ae wc wr/\Below w.heap.size w wr)
        have z0:=λx:aj w wr=>x.cell s0;have z1:=λx:aj w wr=>x.cell s1;have z2:=λx:aj w wr=>x.cell s2;have z3:=λx:aj w wr=>x.cell s3;have z4:=λx:aj w wr=>x.cell s4;have z5:=λx:aj w wr=>x.cell s5;have z6:=λx:aj w wr=>x.cell s6;have z7:=λx:aj w wr=>x.cell s7;have z8:=λx:aj w wr=>x.cell s8;have z9:=λx:aj w wr=>x.cell s9;have cL:=λx:aj w wr=>x.cell cI;have cM:=λx:aj w wr=>x.cell d0;have cR:=λx:aj w wr=>x.cell d1;have cS:=λx:aj w wr=>x.cell d2;have cU:=λx:aj w wr=>x.cell b1;have cV:=λx:aj w wr=>x.cell b2;have cX:=λx:aj w wr=>x.cell b3;unfold mN at V;simp only[]at V;obtain⟨bb,cl⟩:=ex (aR c ⟨i',r',Q⟩ ⟨k,r,lv⟩);rw[<-cl]at V;have qB:∀x:aj w wr,Calls (Qs fs) 131 _ x.val λe w'=>e=.returned (.bool bb)/\∃y:aj w wr,w'=y.val:=λx=>aj.calls (V x.val x.st);have cY:Hid _:=cl;clear cl V s0 s1 s2 s3 s4 s5 s6 s7 s8 s9 cI d0 d1 d2 b1 b2 b3;go_wp2;haveI c0:Nonempty (aj w wr):=⟨⟨wr,ae.refl _,ck.out.2⟩⟩
        cases bb with
        |true=>
         refine aY (w0:=w) (w1:=wr) (by kernel_rfl) (by kernel_rfl) (ae.refl _) ck.out.2 ?_;repeat (go_big_quiet_step (first|(go_at_call 131;exact qB _)))
         refine wpQuiet_nil ?_;rintro wz ⟨⟨_,Sz,Bz⟩,rfl⟩;have SB:Hid _:=(⟨Sz,Bz⟩:ae wr wz/\Below w.heap.size w wz)
         clear qB c0 Sz Bz z0 z1 z2 z3 z4 z5 z6 z7 z8 z9 cL cM cR cS cU cV cX;go_wp2;refine⟨⟨j+1,by omega,by go_num,λi G e2=>?_,M.out.2.1.trans SB.out.1,SB.out.2⟩,by simp[intOf];omega⟩;by_cases c1:i<j
         ·exact M.out.1 i G c1
         ·obtain rfl:i=j:=by omega
          rw[cG.out];exact cY.out.symm
        |false=>
         refine aY (w0:=w) (w1:=wr) (by kernel_rfl) (by kernel_rfl) (ae.refl _) ck.out.2 ?_;repeat (go_big_quiet_step (first|(go_at_call 131;exact qB _)))
         refine wpQuiet_nil ?_;rintro wz ⟨⟨_,Sz,Bz⟩,rfl⟩;have SB:Hid _:=(⟨Sz,Bz⟩:ae wr wz/\Below w.heap.size w wz)
         clear qB c0 Sz Bz z0 z1 z2 z3 z4 z5 z6 z7 z8 z9 cL cM cR cS cU cV cX;go_wp2;go_meet;refine⟨j,hj,rfl,M.out.1,λc5=>?_,M.out.2.1.trans SB.out.1,SB.out.2⟩;rw[cG.out];exact cY.out.symm
       ·obtain⟨A,cap,rfl⟩:∃A cap,vF=.slice A l.length cap:=by
         obtain⟨rfl,h0⟩|⟨g,cap,dt,rfl,_⟩:=HO.2
         ·exact⟨_,_,by rw[h0]⟩
         ·exact⟨_,_,rfl⟩
        have cF:decide ((j:Int)<(l.length:Int))=false:=R8 (by omega);have e3:decide (j<l.length)=false:=R8 (by omega);have dw:Hid (j=l.length):=(by omega:j=l.length)
        clear ad b cb cd HO hF bx h0 h1 h2 t0 t1 t2 t3 t4 t5 t6 t7 t8 t9 aa cB;go_wp2;go_quiet (fail);go_wp2;go_meet;exact⟨j,hj,rfl,M.out.1,λc5=>absurd c5 (by have:=dw.out;omega),M.out.2.1,M.out.2.2.fK _⟩
     case rest=>
      obtain⟨j,hj,rfl,ad,c6,Sx,Bx⟩:=hcut;have b5:=Cw c ⟨k,r,lv⟩ l j hj ad c6;have HP:Hid _:=b5;clear b5;clear t0 t1 t2 t3 t4 t5 t6 t7 t8 t9 aa cB ca ad c6;have H0:=Sx.cell h0;have H1:=Sx.cell h1;have H2:=Sx.cell h2;have HO:=fM bx.out.1 Sx;have z:w.heap.size<=wc.heap.size:=Bx.size;have SX:Hid _:=(⟨Sx,Bx⟩:ae _ wc/\Below w.heap.size w wc)
      clear Sx Bx hF h0 h1 h2;obtain⟨i0,G,B,C,D⟩:=info_parts (KT fs);have a:∀d,Below wc.heap.size wc d->d.cell? ⟨H,0,none⟩=some (.int .i64 k)/\d.cell? ⟨H,1,none⟩=some (.int .i64 r)/\d.cell? ⟨H,2,none⟩=some (.int .i64 lv):=λd hb=>⟨(ae.below hb).cell H0,(ae.below hb).cell H1,(ae.below hb).cell H2⟩
      have n0:=World.new_ne wc _ H0;obtain⟨rfl,dy⟩|⟨g,cap,dt,rfl,hg,ea,e4,e5,eb,ec⟩:=HO.2
      ·obtain rfl:=S8 dy
       obtain rfl:j=0:=by simpa using hj
       go_upto_region 11 with fail;go_cut [8]from 55 to 67 (λs8 wx=>∃Q,Q=s8/\wx.ownsRow wc.heap.size 66 3 Q 1 [.int .i64 k,.int .i64 r,.int .i64 lv]/\Below wc.heap.size wc wx)
       case first=>
        obtain⟨⟨oA,bA⟩,⟨oB,bB,hB⟩,⟨oC,bC,hC⟩⟩:=qU wc k r lv;have R:0+0+1<=maxLen:=by unfold maxLen;omega
        go_region_held3 (λw'=>w'.cell? ⟨H,0,none⟩=some (.int .i64 k)/\w'.cell? ⟨H,1,none⟩=some (.int .i64 r)/\w'.cell? ⟨H,2,none⟩=some (.int .i64 lv)) (first|exact a _ (Below.refl _ _).drew|exact a _ bA|exact a _ bB|exact a _ bC|exact a _ (((Below.refl _ _).alloc (R2 _) _).drew)|exact a _ hB2|exact a _ (hB1.alloc hB1.size _)|exact a _ hB1)
         (first|(refine bO (P:=Qs fs) (.tmp 55) (.tmp 58) 62 (by rfl) wc.heap.size 66 i0 _ 3 24 Tryz.underlying62 G B C D rfl (by decide) _ 0 [] (by rfl) oA none 0 0 [] (by rfl) .nil (λu hu=>by cases hu) (R9 _) (by omega) (bA).size (by rfl) ?_;intro v1 wA E q S;have hB1:Below wc.heap.size wc wA:=(bA).grown q (bA).size (eo oA))|(refine bO (P:=Qs fs) (.tmp 55) (.tmp 58) 62 (by rfl) wc.heap.size 66 i0 _ 3 24 Tryz.underlying62 G B C D rfl (by decide) _ 0 [] (by rfl) oB none 0 0 [] (by rfl) .nil (λu hu=>by cases hu) (R9 _) (by omega) (bB).size (by rfl) ?_;intro v1 wA E q S;have hB1:Below wc.heap.size wc wA:=(bB).grown q (bB).size (eo oB);have ar:=qV q hB (by simp[Value.ownBlock]))|(refine bO (P:=Qs fs) (.tmp 55) (.tmp 58) 62 (by rfl) wc.heap.size 66 i0 _ 3 24 Tryz.underlying62 G B C D rfl (by decide) _ 0 [] (by rfl) oC none 0 0 [] (by rfl) .nil (λu hu=>by cases hu) (R9 _) (by omega) (bC).size (by rfl) ?_;intro v1 wA E q S;have hB1:Below wc.heap.size wc wA:=(bC).grown q (bC).size (eo oC);have ar:=qV q hC (by simp[Value.ownBlock]))|(refine bO (P:=Qs fs) (.tmp 59) (.tmp 61) 62 (by rfl) wc.heap.size 66 i0 _ 3 24 Tryz.underlying62 G B C D rfl (by decide) v1 (0+0) ([]++[]) (by rfl) (E.alloc _) (some ⟨wA.heap.size,0,none⟩) 1 1 [.int .i64 k,.int .i64 r,.int .i64 lv] (by rfl) (Hd wA _ _ _) qT R (by omega) (hB1.alloc hB1.size _).size (by rfl) ?_;intro v2 wB ax W ay;have hB2:Below wc.heap.size wc wB:=(hB1.alloc hB1.size _).grown W (hB1.alloc hB1.size _).size (eo E))|(refine bO (P:=Qs fs) (.tmp 59) (.tmp 61) 62 (by rfl) wc.heap.size 66 i0 _ 3 24 Tryz.underlying62 G B C D rfl (by decide) v1 (0+0) ([]++[]) (by rfl) E (some ⟨_,0,none⟩) 1 1 [.int .i64 k,.int .i64 r,.int .i64 lv] (by rfl) (Al ar) qT R (by omega) hB1.size (by rfl) ?_;intro v2 wB ax W ay;have hB2:Below wc.heap.size wc wB:=hB1.grown W hB1.size (eo E)))
        all_goals
         go_wp2_with fail
         go_meet;exact⟨v2,rfl,ax,hB2⟩
       case rest=>
        obtain⟨Q,rfl,aM,af⟩:=hcut;have X:Hid (World.ownsRow wc _ 66 3 Q 1 [.int .i64 k,.int .i64 r,.int .i64 lv]):=aM;have I:Hid _:=af;have a1:1+0<=maxLen:=by unfold maxLen;omega
        clear aM af HO a H0 H1 H2 n0;go_wp2_with (first|(at_builtin;refine eV (P:=Qs fs) (.tmp 63) (.tmp 66) 62 (by rfl) _ 66 i0 _ 3 24 Tryz.underlying62 G B C D rfl (by decide) Q 1 _ (by rfl) X.out none 0 0 [] (by rfl) .nil (λu hu=>by cases hu) a1 (by omega) I.out.size (by rfl) ?_;intro v5 w5 a6 a7 b6))
        have B5:=I.out.grown a7 I.out.size (eo X.out);refine⟨⟨k+1,v5,by omega,by go_num,rfl,⟨?_,?_⟩,BC.out.2.trans (SX.out.1.trans (ae.below B5)),SX.out.2.trans (B5.mono z)⟩,by simp[intOf];omega⟩
        ·rw[HN.out]
         exact vA a6 z
        ·intro h
         rw[HN.out]at h;cases h
      ·go_upto_region 11 with fail
       go_cut [8]from 55 to 67 (λs8 wx=>∃Q,Q=s8/\wx.ownsRow wc.heap.size 66 3 Q (j+1) (bp (l.take j)++[.int .i64 k,.int .i64 r,.int .i64 lv])/\Below wc.heap.size wc wx)
       case first=>
        have e6:(j:Int)<=(cap:Int):=by omega
        obtain⟨⟨oA,bA⟩,⟨oB,bB,hB⟩,⟨oC,bC,hC⟩⟩:=qU wc k r lv;have a8:∀d,Below wc.heap.size wc d->Src d 3 (some ⟨g,0,none⟩) j (bp (l.take j)):=λd hb=>KU (fM HO (ae.below hb)) hj;have cn:0+j<=maxLen:=by unfold maxLen;omega
        have R:0+j+1<=maxLen:=by unfold maxLen;omega
        go_region_held3 (λw'=>w'.cell? ⟨H,0,none⟩=some (.int .i64 k)/\w'.cell? ⟨H,1,none⟩=some (.int .i64 r)/\w'.cell? ⟨H,2,none⟩=some (.int .i64 lv)) (first|exact a _ (Below.refl _ _).drew|exact a _ bA|exact a _ bB|exact a _ bC|exact a _ (((Below.refl _ _).alloc (R2 _) _).drew)|exact a _ hB2|exact a _ (hB1.alloc hB1.size _)|exact a _ hB1)
         (first|(refine bO (P:=Qs fs) (.tmp 55) (.tmp 58) 62 (by rfl) wc.heap.size 66 i0 _ 3 24 Tryz.underlying62 G B C D rfl (by decide) _ 0 [] (by rfl) oA (some ⟨g,0,none⟩) j cap (bp (l.take j)) (by rfl) (a8 _ bA) (jl _) cn (by omega) (bA).size (by rfl) ?_;intro v1 wA E q S;have hB1:Below wc.heap.size wc wA:=(bA).grown q (bA).size (eo oA))|(refine bO (P:=Qs fs) (.tmp 55) (.tmp 58) 62 (by rfl) wc.heap.size 66 i0 _ 3 24 Tryz.underlying62 G B C D rfl (by decide) _ 0 [] (by rfl) oB (some ⟨g,0,none⟩) j cap (bp (l.take j)) (by rfl) (a8 _ bB) (jl _) cn (by omega) (bB).size (by rfl) ?_;intro v1 wA E q S;have hB1:Below wc.heap.size wc wA:=(bB).grown q (bB).size (eo oB);have ar:=qV q hB (by simp[Value.ownBlock]))|(refine bO (P:=Qs fs) (.tmp 55) (.tmp 58) 62 (by rfl) wc.heap.size 66 i0 _ 3 24 Tryz.underlying62 G B C D rfl (by decide) _ 0 [] (by rfl) oC (some ⟨g,0,none⟩) j cap (bp (l.take j)) (by rfl) (a8 _ bC) (jl _) cn (by omega) (bC).size (by rfl) ?_;intro v1 wA E q S;have hB1:Below wc.heap.size wc wA:=(bC).grown q (bC).size (eo oC);have ar:=qV q hC (by simp[Value.ownBlock]))|(refine bO (P:=Qs fs) (.tmp 59) (.tmp 61) 62 (by rfl) wc.heap.size 66 i0 _ 3 24 Tryz.underlying62 G B C D rfl (by decide) v1 (0+j) ([]++bp (l.take j)) (by rfl) (E.alloc _) (some ⟨wA.heap.size,0,none⟩) 1 1 [.int .i64 k,.int .i64 r,.int .i64 lv] (by rfl) (Hd wA _ _ _) qT R (by omega) (hB1.alloc hB1.size _).size (by rfl) ?_;intro v2 wB ax W ay;have hB2:Below wc.heap.size wc wB:=(hB1.alloc hB1.size _).grown W (hB1.alloc hB1.size _).size (eo E))|(refine bO (P:=Qs fs) (.tmp 59) (.tmp 61) 62 (by rfl) wc.heap.size 66 i0 _ 3 24 Tryz.underlying62 G B C D rfl (by decide) v1 (0+j) ([]++bp (l.take j)) (by rfl) E (some ⟨_,0,none⟩) 1 1 [.int .i64 k,.int .i64 r,.int .i64 lv] (by rfl) (Al ar) qT R (by omega) hB1.size (by rfl) ?_;intro v2 wB ax W ay;have hB2:Below wc.heap.size wc wB:=hB1.grown W hB1.size (eo E)))
        all_goals
         go_wp2_with fail
         go_meet;exact⟨v2,rfl,(by simpa using ax),hB2⟩
       case rest=>
        obtain⟨Q,rfl,aM,af⟩:=hcut;have c7:=fM HO (ae.below af);have X:Hid (World.ownsRow wc _ 66 3 Q (j+1) (bp (l.take j)++[.int .i64 k,.int .i64 r,.int .i64 lv])):=aM;have c8:=KV c7 hj;have ef:(j:Int)<=(l.length:Int):=by omega
        have eg:(l.length:Int)<=(cap:Int):=by omega
        have a1:j+1+(l.length-j)<=maxLen:=by unfold maxLen;omega
        have ed:Hid _:=c8;have I:Hid _:=af;clear aM c8 af HO c7 a H0 H1 H2 n0 ea eb ec;obtain hjcap|hjcap:=R5 j cap
        ·go_wp2_with (first|(at_builtin;refine eV (P:=Qs fs) (.tmp 63) (.tmp 66) 62 (by rfl) _ 66 i0 _ 3 24 Tryz.underlying62 G B C D rfl (by decide) Q (j+1) _ (by rfl) X.out (some ⟨g,j*3,none⟩) (l.length-j) (cap-j) (bp (l.drop j)) (by rfl) ed.out (jl _) a1 (by omega) I.out.size (by rfl) ?_;intro v5 w5 a6 a7 b6))
         have B5:=I.out.grown a7 I.out.size (eo X.out);refine⟨⟨k+1,v5,by omega,by go_num,rfl,⟨?_,?_⟩,BC.out.2.trans (SX.out.1.trans (ae.below B5)),SX.out.2.trans (B5.mono z)⟩,by simp[intOf];omega⟩
         ·rw[HN.out,HP.out,yQ,vB _ _ _ hj]
          exact vA a6 z
         ·intro h
          rw[HN.out]at h;have:=iT c ⟨k,r,lv⟩ l;rw[h]at this;simp at this
        ·have ee:l.length-j=0:=by omega
         have e7:cap-j=0:=by omega
         have b4:j=cap:=by omega
         have b7:Src wc 3 (some ⟨g,0,none⟩) 0 (bp (l.drop j)):=by rw[SJ (by omega)];exact .some _ _ _ rfl λi u hu=>by cases hu
         have c9:Hid _:=b7;have dc:j+1+0<=maxLen:=by unfold maxLen;omega
         clear b7;subst b4;go_wp2_with (first|(at_builtin;refine eV (P:=Qs fs) (.tmp 63) (.tmp 66) 62 (by rfl) _ 66 i0 _ 3 24 Tryz.underlying62 G B C D rfl (by decide) Q (j+1) _ (by rfl) X.out (some ⟨g,0,none⟩) (0) (0) (bp (l.drop j)) (by rfl) c9.out (jl _) dc (by omega) I.out.size (by rfl) ?_;intro v5 w5 a6 a7 b6))
         have B5:=I.out.grown a7 I.out.size (eo X.out);refine⟨⟨k+1,v5,by omega,by go_num,rfl,⟨?_,?_⟩,BC.out.2.trans (SX.out.1.trans (ae.below B5)),SX.out.2.trans (B5.mono z)⟩,by simp[intOf];omega⟩
         ·rw[HN.out,HP.out,yQ,vB _ _ _ hj]
          rw[ee];exact vA a6 z
         ·intro h
          rw[HN.out]at h;have:=iT c ⟨k,r,lv⟩ l;rw[h]at this;simp at this
  ·clear n Z cH cB ba T S1 B1 hF
   obtain rfl:k=c.marks.length:=by omega
   go_wp2;go_ret;exact⟨_,rfl,HF.out,HW.out.2⟩
def fnV(b:Nat):Value:=.func (.func 138) #[] #[.pointer (some ⟨b,0,none⟩)]
structure Am(B:Nat)(w:World)(v:Value)(so:List Nat)(ps:List Pr2):Prop where
 own:w.ownsRow B 101 1 v so.length (so.map fnV)
 len:so.length=ps.length
 box:∀j (h:j<so.length) (h':j<ps.length),w.heap[so[j]]? =some (.cells #[.string ps[j].1,.string ps[j].2] 51 (0,0))
def Nv:((Tryz.prog).info? 101).map (λi=>(i.zero,i.size,i.bytes))=some (some .nilFunc,1,8):=by kernel_rfl
def II(fs):((Qs fs).info? 101).map (λi=>(i.zero,i.size,i.bytes))=some (some .nilFunc,1,8):=Nv
def yR{w:World}{B e k n:Nat}{v xs}(h:w.ownsRow B e k v n xs){b}(c:v.ownBlock=some b):∃a F,w.heap[b]? =some (.cells a e F):=by
 obtain⟨rfl,_⟩|⟨g,cap,a,rfl,f,d,_⟩:=h.2
 ·cases c
 ·cases c;exact⟨_,_,d⟩
def KW{w w'}(h:ae w w'){b c e F}(a:w.heap[b]? =some (.cells c e F)):b<w'.heap.size:=(R7.1 (h b c e F a)).1
def Nw{K:Nat->Prop}{v0 v1 v2:Value}{l:List jw}(k:Nat)(w:World)(ht:aE K 2 eT w v1 l)(hk:k<l.length)(hn:l[k].aT.length<=100):
 Calls (Qs fs) 112 #[.agg #[v0,v1,v2],.int .i64 k] w λe w'=>∃v so,e=.returned v/\Am w.heap.size w' v so l[k].aT/\Below w.heap.size w w':=by
 obtain⟨i0,hi,W,X,Y⟩:=info_parts (II fs);have aM:∀(fn:Fn) (first cap:Array Value) (w:World),(Instr.makeFunc fn first cap).run (Qs fs) w=.ok (.func fn first cap) w:=λ_ _ _ _=>rfl;obtain⟨w1,d⟩:=ex (w.alloc (.cells #[v0,v1,v2] 100));have Z:ae w w1:=by rw[d];exact ae.alloc _ _
 have B1:Below w.heap.size w w1:=by rw[d];exact aG _ _
 have ct:w1.cell? ⟨w.heap.size,1,none⟩=some v1:=by rw[d];exact aw w _ 100 1 _ rfl
 have aa:aE K 2 eT w1 v1 l:=ht.stays Z λb b' o x e h=>by subst e;exact eT.carry (Carry.keep Z) b b o x rfl h
 obtain⟨ao,c,rfl,a1,hc,_,s⟩:=aa;obtain⟨b,p,rfl,_,vs,M,A⟩:=s k hk;have O:=A;obtain⟨ab,c2,rfl,C,a6,P,g⟩:=A;have HC:Hid (∀wr,ae w1 wr->∀j (hj:j<l[k].aT.length),∃b p,ab=some ⟨b,p,none⟩/\wr.cell? ⟨b,p+j*2,none⟩=some (.string l[k].aT[j].1)/\wr.cell? ⟨b,p+j*2+1,none⟩=some (.string l[k].aT[j].2)):=λwr hs j hj=>by obtain⟨b,p,e,h1,G⟩:=g j hj;exact⟨b,p,e,hs.cell h1,hs.cell G⟩
 obtain⟨ps,Q⟩:=ex (l[k].aT);rw[<-Q]at hn HC M C⊢;obtain⟨N,D⟩:=ex (w.heap.size);rw[<-D]at ct B1;have R:Hid (Below N w w1/\w1.heap.size=N+1):=⟨B1,by rw[d,D];simp⟩
 have HN:Hid _:=D;have ad:Hid (∃cc,w1.heap[N]? =some (.cells cc 100)):=⟨_,by rw[d,D];exact World.alloc_heap_new w _⟩
 have a7:(k:Int)<(l.length:Int):=by omega
 rw[<-D];clear g s P Q O ht Z B1;go_enter (n112 L),Tryz.ntmps112;go_upto_region 1 with fail;rw[<-d,<-D];clear d D;go_wp2;go_loopw [5,16] (λo i wr=>∃(H:Value) (j:Nat) (so:List Nat),H=o/\i=.int .i64 j/\j<=ps.length/\so.length=j/\wr.ownsRow (N+1) 101 1 H j (so.map fnV)/\(∀q (h:q<so.length) (T:q<ps.length),wr.heap[so[q]]? =some (.cells #[.string ps[q].1,.string ps[q].2] 51 (0,0)))/\ae w1 wr/\Below N w wr) (λo i _=>ps.length-(intOf i).toNat)
 case atStart=>exact⟨_,0,[],rfl,rfl,R9 _,rfl,World.ownsRow_nil _ _ _ _,λq h=>absurd h (Sm _),ae.refl _,R.out.1⟩
 case round=>
  obtain⟨H,j,so,rfl,rfl,hj,z,a,m,r,n⟩:=hrel;obtain af|hge:=R5 j ps.length
  ·obtain⟨b2,ay,rfl,x0,x1⟩:=HC.out wr r j af
   have a8:(j:Int)<(ps.length:Int):=by omega
   obtain⟨pp,E⟩:=ex (ps[j]);rw[<-E]at x0 x1;have HP:Hid _:=E;have f:Hid (so.length=j/\wr.ownsRow (N+1) 101 1 H j (so.map fnV)/\(∀q (h:q<so.length) (T:q<ps.length),wr.heap[so[q]]? =some (.cells #[.string ps[q].1,.string ps[q].2] 51 (0,0)))/\ae w1 wr/\Below N w wr):=⟨z,a,m,r,n⟩
   have ba:N+1<=wr.heap.size:=ad.out.elim λ_ h=>KW r h;clear E z m r n;go_wp2_with (first|(at_builtin;refine wpList_append_own _ rfl _ _ 175 rfl (N+1) 101 i0 .nilFunc 1 8 Tryz.underlying175 hi W X Y rfl (by decide) _ _ _ rfl ((a.alloc _).alloc _) ⟨_,0,none⟩ 1 1 [fnV wr.heap.size] rfl rfl ?c1 ?c2 ?c3 ?c4 ?c5 ?_))
   case c1=>
    intro q u I;rw[e9,Se];have h:=aw (wr.alloc (.cells #[.string pp.1,.string pp.2] 51)) #[fnV wr.heap.size] 101 q u (by
     match q,I with
     |0,I=>exact I)
    rw[World.size_alloc]at h;exact h
   case c2=>intro u I;simp at I;subst I;rfl
   case c3=>unfold maxLen;omega
   case c4=>omega
   case c5=>simp;omega
   intro v' w4 t y _;have U:Hid _:=y;have ag:Hid _:=t;clear a y t;go_wp2;refine⟨⟨_,j+1,so++[wr.heap.size],rfl,by go_num,by omega,by rw[Sr,f.out.1];rfl,by rw[T7];exact ag.out,?_,?_,?_⟩,by simp[intOf];omega⟩
   ·intro q h T
    have ak:∀B c e F,wr.heap[B]? =some (.cells c e F)->e≠101->H.ownBlock≠some B:=λB c e F hB he hv=>by obtain⟨an,F',G⟩:=yR f.out.2.1 hv;rw[hB]at G;cases G;exact he rfl
    by_cases V:q<so.length
    ·rw[List.getElem_append_left V]
     have J:=f.out.2.2.1 q V T;have hl:=(R7.1 J).1;rw[U.out.block _ (by simp;omega) (λe=>ak _ _ _ _ J (by decide) e.symm),Below.heap_alloc _ _ _ (by simp;omega),Below.heap_alloc _ _ _ hl];exact J
    ·obtain rfl:q=so.length:=by rw[Sr]at h;simp at h;omega
     rw[List.getElem_append_right (R2 _)];simp only[Nat.sub_self,Uk];have S:ps[so.length]=pp:=by rw[HP.out];simp only[f.out.1]
     rw[S,U.out.block _ (by simp;omega) (λe=>by obtain⟨an,F',G⟩:=yR f.out.2.1 e.symm;have:=(R7.1 G).1;omega),Below.heap_alloc _ _ _ (by simp)]
     exact World.alloc_heap_new wr _
   ·intro bk c e F J
    have hl:=(R7.1 J).1;have hw:=f.out.2.2.2.1 bk c e F J;have ar:=(R7.1 hw).1;rw[U.out.block _ (by simp;omega) (λe=>by have:=eo f.out.2.1 _ e.symm;have:=R.out.2;omega),Below.heap_alloc _ _ _ (by simp;omega),Below.heap_alloc _ _ _ ar]
    exact hw
   ·exact(((f.out.2.2.2.2).alloc (by omega) _).alloc (by simp;omega) _).grown U.out (by simp;omega) (λq V=>by have:=eo f.out.2.1 q V;omega)
  ·have ax:j=ps.length:=by omega
   subst ax;clear C M;have f:Hid (so.length=ps.length/\wr.ownsRow (N+1) 101 1 H ps.length (so.map fnV)/\(∀q (h:q<so.length) (T:q<ps.length),wr.heap[so[q]]? =some (.cells #[.string ps[q].1,.string ps[q].2] 51 (0,0)))/\ae w1 wr/\Below N w wr):=⟨z,a,m,r,n⟩
   clear z a m r n;go_wp2;go_ret;exact⟨_,so,rfl,⟨by rw[f.out.1];exact Ah f.out.2.1 (by omega),f.out.1,f.out.2.2.1⟩,f.out.2.2.2.2⟩
def IJ{w:World}{B e k n:Nat}{v xs}(h:w.ownsRow B e k v n xs):∃a cap,v=.slice a n cap:=by
 obtain⟨rfl,b⟩|⟨g,cap,c,rfl,_⟩:=h.2
 ·exact⟨none,0,by rw[b]⟩
 ·exact⟨_,_,rfl⟩
def Am.at{B w b cap a d}(h:Am B w (.slice b a.length cap) a d){j}(f:j<a.length):∃g,b=some ⟨g,0,none⟩/\w.cell? ⟨g,j,none⟩=some (fnV a[j]):=by
 have i:=h.own;obtain⟨_,l⟩|⟨g,c,k,e,_⟩:=h.own.2
 ·omega
 ·cases e
  refine⟨g,rfl,(i.cellAt j (by omega)).trans ?_⟩;rw[TK,SK f];rfl
def He{K:Nat->Prop}{v0 v1 v2:Value}{t:Table}(k:Nat)(s:ByteArray)(w:World)(ht:IsTable K w v0 v1 v2 t)(H:OkT t)(hs:s.size<=300)(hk:k<t.az.length)(hm:gJ w):
 Calls (Qs fs) 64 #[.agg #[v0,v1,v2],.int .i64 k,.string s] w λe w'=>e=.returned (.string (bs (bt t k s.data.toList)))/\Below w.heap.size w w':=by
 have e53:=e53 L;have P4:=P4 L;have Qg:=Qg L;have n:Hid (bt t k s.data.toList=EX t.az[k].aT (aQ t.au s.data.toList)):=si hk s.data.toList;have I:=dI H s.data.toList;rw[<-Lib.size_eq]at I;obtain⟨w1,b⟩:=ex (w.alloc (.cells #[v0,v1,v2] 100));have S1:ae w w1:=by rw[b];exact ae.alloc _ _
 have X:Below w.heap.size w w1:=by rw[b];exact aG _ _
 have r:=ht.stays S1;have J:=hm.stays S1;have ct:∀i v,(#[v0,v1,v2]:Array Value)[i]? =some v->w1.cell? ⟨w.heap.size,i,none⟩=some v:=λi v h=>by rw[b];exact aw w _ 100 i v h
 have u:=ct 0 v0 rfl;have x:=ct 1 v1 rfl;have z:=ct 2 v2 rfl;have A:=sH L (v1:=v1) (v2:=v2) s w1 r.1 H.lets (by omega);have c:=λwx (h:ae w1 wx)=>Nw L (v0:=v0) (v2:=v2) k wx (r.stays h).2.1 hk (by have:=H.G6 t.az[k] (Sg _);omega);have M:Hid (∀p∈t.az[k].aT,1<=p.1.size/\p.1.size<=3/\p.2.size<=p.1.size):=H.aT t.az[k] (Sg _);have O:t.az[k].aT.length<=5:=H.G6 _ (Sg _);obtain⟨ps,P⟩:=ex (t.az[k].aT);rw[<-P]at c n M O;have Q:Hid ((bs (aQ t.au s.data.toList)).size<=900/\bs (aQ t.au s.data.toList)=bs (aQ t.au s.data.toList)):=⟨by rw[db];omega,rfl⟩
 obtain⟨y0,R⟩:=ex (aQ t.au s.data.toList);rw[<-R]at A n Q;obtain⟨N,Y⟩:=ex (w.heap.size);rw[<-Y]at u x z X⊢;have aa:Hid (Below N w w1):=X;have HN:Hid _:=Y;have l:Hid (N<=w1.heap.size):=by have:=X.size;rw[Hid];omega
 have HM:Hid (gJ w1):=J;clear P R I ht r hm J S1 X ct;go_enter (n64 L),Tryz.ntmps64;go_upto_region 1 with fail;rw[<-b,<-Y];clear b Y;go_wp2_with (first|(go_at_call 53;refine A.mono ?_;clear A;rintro e w2 ⟨rfl,m⟩;have q:=c w2 (ae.below m);clear c;have S:=(ae.below m).cell u;have T:=(ae.below m).cell x;have U:=(ae.below m).cell z)|(go_at_call 112;refine q.mono ?_;clear q;rintro e w3 ⟨v,B,rfl,f,C⟩;obtain⟨ao,cap,rfl⟩:=IJ f.own))
 have HL:Hid (B.length=ps.length):=f.len;have HB:Hid (ae w1 w3/\Below N w w3):=⟨(ae.below m).trans (ae.below C),(aa.out.trans (m.mono l.out)).trans (C.mono (by have:=m.size;have:=l.out;omega))⟩
 have HR:Hid _:=f;clear m C f u x z S T U;go_loopw [7,17] (λo i wr=>∃(j:Nat) (y:Bs),j<=B.length/\i=.int .i64 j/\o=.string (bs y)/\(bs y).size<=900/\ae w3 wr/\Below N w wr/\EX (ps.drop j) y=bt t k s.data.toList) (λo i _=>B.length-(intOf i).toNat)
 case atStart=>exact⟨0,_,R9 _,rfl,rfl,Q.out.1,ae.refl _,HB.out.2,n.out.symm⟩
 case round=>
  obtain⟨j,y,hj,rfl,rfl,hy,a,d,G⟩:=hrel;have ad:B.length<=5:=by have:=HL.out;omega
  have HX:Hid _:=G;have Z:Hid _:=(⟨a,d⟩:ae w3 wr/\Below N w wr)
  obtain V|hge:=R5 j B.length
  ·have D:j<ps.length:=by have:=HL.out;omega
   obtain⟨g,rfl,E⟩:=HR.out.at V;have E:=a.cell E;have F:=a _ _ _ _ (HR.out.box j V D);obtain⟨z1,z2,z3⟩:=M.out ps[j] (Sg D);have ab:=jy z3 y;rw[<-db,<-db]at ab;have cR:=KS L (bs y) ps[j] B[j] wr (by omega) (HM.out.stays (HB.out.1.trans a)) z1 (by omega) (cell_of_heap F 0 _ rfl) (cell_of_heap F 1 _ rfl);rw[dH]at cR;have af:(j:Int)<(B.length:Int):=by omega
   unfold fnV at E;clear G a d F;go_wp2_with (first|(go_at_call 138;refine cR.mono ?_;rintro e w4 ⟨rfl,W⟩))
   refine⟨⟨j+1,_,by omega,by go_num,rfl,by omega,Z.out.1.trans (ae.below W),Z.out.2.trans (W.mono (by have:=Z.out.2.size;have:=HN.out;omega)),?_⟩,by simp[intOf];omega⟩;rw[<-HX.out,yz _ _ D]
  ·clear G a d
   go_wp2;go_ret;have G:=HX.out;rw[SJ (by have:=HL.out;omega)]at G;exact⟨by rw[<-G];rfl,Z.out.2⟩
end Go.Proofs

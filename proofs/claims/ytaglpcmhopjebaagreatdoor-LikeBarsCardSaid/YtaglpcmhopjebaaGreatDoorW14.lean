import Derived.Shelf.Strings.IndexAnyAll
import Derived.Laws.RangeAny
import Derived.Laws.Runes
import Derived.Lib.OthersKept
import Derived.Test.YtaglpcmhopjebaaGreatDoorW13
set_option linter.all false
set_option maxRecDepth 100000
set_option maxHeartbeats 20000000
namespace Go.Proofs
open Go.Tm Go.RowKit
variable {fs:Array Func} (L:bT fs)
def ae.yX{w w'}(h:ae w w'){p}(d:w.heap.size<=p.block)(v):ae w (w'.setCell p v):=λb c e f a=>(Below.heap_setCell w' p v b (by have:=(WC.1 a).1;omega)).trans (h b c e f a)
def ni{B e k v n xs w w'}(h:w.ownsRow B e k v n xs)(b:Below w.heap.size w w'):w'.ownsRow B e k v n xs:=by refine⟨h.1,?_⟩;obtain c|⟨g,cap,a,d,f,i,j⟩:=h.2;exact .inl c;exact .inr ⟨g,cap,a,d,f,ae.below b g _ _ _ i,j⟩
def yY{w w'}(h:Below w.drew.heap.size w.drew w'):ae w w':=λb c e f a=>ae.below (w:=w.drew) h b c e f a
def L6{w w' o}(h:Below ((w.alloc o).drew).heap.size ((w.alloc o).drew) w'):ae w w':=(ae.alloc w o).trans (yY h)
def L8{w w':xv}{cs e}(h:Below ((w.alloc (.cells cs e)).drew).heap.size ((w.alloc (.cells cs e)).drew) w'):w'.heap[w.heap.size]? =some (.cells cs e):=(h.block w.heap.size (by show w.heap.size<(w.alloc (.cells cs e)).heap.size;simp)).trans Xh
def L9{w w' cs e}(h:Below ((w.alloc (.cells cs e)).drew).heap.size ((w.alloc (.cells cs e)).drew) w'):Below w.heap.size w w':=((Below.refl w.heap.size w).alloc (Wv _) (.cells cs e)).drew.trans (h.mono (by show w.heap.size<=(w.alloc (.cells cs e)).heap.size;simp))
def oL:((Tryz.prog).info? 66).map (λi=>(i.zero,i.size,i.bytes))=some (some (.agg #[.i 0,.i 0,.i 0]),3,24):=by kernel_rfl
def OR(fs):((Qs fs).info? 66).map (λi=>(i.zero,i.size,i.bytes))=some (some (.agg #[.i 0,.i 0,.i 0]),3,24):=oL
def bh{B e k v n xs w w'}(h:w.ownsRow B e k v n xs)(b:ae w w'):w'.ownsRow B e k v n xs:=by refine⟨h.1,?_⟩;obtain c|⟨g,cap,a,d,f,i,j⟩:=h.2;exact .inl c;exact .inr ⟨g,cap,a,d,f,b g _ _ _ i,j⟩
def To{B v l}{w:xv}(h:w.ownsRow B 66 3 v l.length (bI l)){j}(b:j<l.length):∃g cap,v=.slice (some ⟨g,0,none⟩) l.length cap/\w.cell? ⟨g,j*3,none⟩=some (.i l[j].mark)/\w.cell? ⟨g,j*3+1,none⟩=some (.i l[j].di)/\w.cell? ⟨g,j*3+2,none⟩=some (.i l[j].level):=by have a:=h;obtain⟨_,i⟩|⟨g,cap,c,rfl,_⟩:=h.2;omega;obtain⟨d,e,f⟩:=F8 l j b;exact⟨g,cap,rfl,(a.cellAt (j*3) (by omega)).trans d,(a.cellAt (j*3+1) (by omega)).trans e,(a.cellAt (j*3+2) (by omega)).trans f⟩
def eR(b o j):(⟨b,o,none⟩:Addr).add j=⟨b,o+j,none⟩:=by unfold Addr.add;split;rename_i h;(have:j=0:=by simpa using h);subst this;rfl;rfl
def D1{w b x y z e f}(h:w.heap[b]? =some (.cells #[.i x,.i y,.i z] e f)):Src w 3 (some ⟨b,0,none⟩) 1 [.i x,.i y,.i z]:=.some _ _ _ rfl λj u a=>by have:=cell_of_heap h j u (by simpa using a);rw[eR,WH];exact this
def Ld(w:xv)(x y z):Src (w.alloc (.cells #[.i x,.i y,.i z] 66)) 3 (some ⟨w.heap.size,0,none⟩) 1 [.i x,.i y,.i z]:=D1 (e:=66) (f:=(0,0)) Xh
def tN{x y z}:∀u∈([.i x,.i y,.i z]:List x6),u.oneCell'=true:=by intro u a;simp only[WO,WY,W7]at a;rcases a with rfl|rfl|rfl<;>rfl
def OS{base g cap j l w}(h:w.ownsRow base 66 3 (.slice (some ⟨g,0,none⟩) l.length cap) l.length (bI l))(b:j<=l.length):Src w 3 (some ⟨g,0,none⟩) j (bI (l.take j)):=by (refine .some _ _ _ (by rw[jh,Xy,ZH b]) λi u a=>?_;rw[Jq]at a;have c:i<j*3:=by have:=(Xk.1 a).1;rw[Xy]at this;omega);rw[List.getElem?_take_of_lt c]at a;rw[eR,WH];exact(h.cellAt i (by omega)).trans a
def OT{base g cap j l w}(h:w.ownsRow base 66 3 (.slice (some ⟨g,0,none⟩) l.length cap) l.length (bI l))(b:j<=l.length):Src w 3 (some ⟨g,j*3,none⟩) (l.length-j) (bI (l.drop j)):=by (refine .some _ _ _ (by rw[jh,WJ]) λi u a=>?_;rw[Jp,Zf]at a;have c:j*3+i<l.length*3:=by have:=(Xk.1 a).1;rw[jh]at this;omega);rw[eR];exact(h.cellAt (j*3+i) (by omega)).trans a
def ko(l):∀u∈bI l,u.oneCell'=true:=by intro u a;obtain⟨n,rfl⟩:=vv l u a;rfl
def tO(a:xv)(x y z:Int):let E:Obj:=.cells #[] 66
 let b:Obj:=.cells #[.i x,.i y,.i z] 66
 ((a.alloc E).drew.ownsRow a.heap.size 66 3 (.slice (some ⟨a.heap.size,0,none⟩) 0 0) 0 []/\Below a.heap.size a (a.alloc E).drew)/\
 (((a.alloc E).alloc b).drew.ownsRow a.heap.size 66 3 (.slice (some ⟨a.heap.size,0,none⟩) 0 0) 0 []/\Below a.heap.size a ((a.alloc E).alloc b).drew/\((a.alloc E).alloc b).drew.heap[a.heap.size+1]? =some b)/\
 (((a.alloc b).alloc E).drew.ownsRow a.heap.size 66 3 (.slice (some ⟨a.heap.size+1,0,none⟩) 0 0) 0 []/\Below a.heap.size a ((a.alloc b).alloc E).drew/\((a.alloc b).alloc E).drew.heap[a.heap.size]? =some b):=by
 intro E b;have h:(a.alloc E).heap.size=a.heap.size+1:=by simp
 have i:(a.alloc b).heap.size=a.heap.size+1:=by simp
 have d:(a.alloc E).ownsRow a.heap.size 66 3 (.slice (some ⟨a.heap.size,0,none⟩) 0 0) 0 []:=World.ownsRow_made a #[] 0 (Wv _) (WB _) rfl;have f:=World.ownsRow_made (base:=a.heap.size) (e:=66) (size:=3) (a.alloc b) #[] 0 (by omega) (WB _) rfl;rw[i]at f;have c:Below a.heap.size a (a.alloc E):=(Below.refl _ _).alloc (Wv _) _;have g:Below a.heap.size a (a.alloc b):=(Below.refl _ _).alloc (Wv _) _;refine⟨⟨d,c.drew⟩,⟨d.alloc _,(c.alloc c.size _).drew,?_⟩,⟨f,(g.alloc g.size _).drew,?_⟩⟩
 .have:=Xh (xs:=(a.alloc E).heap) (x:=b)
  rw[h]at this;exact this
 .have:=Below.heap_alloc (a.alloc b) E a.heap.size (by omega)
  exact this.trans Xh
def tP{w w':xv}{row k o}(h:w.grownBy w' row)(b:w.heap[k]? =some o)(a:row≠some k):w'.heap[k]? =some o:=(h.block k (WC.1 b).1 (WT a)).trans b
def tQ{w:xv}{base a e size v n xs}(h:w.ownsRow base e size v n xs)(i:a<=base):w.ownsRow a e size v n xs:=by refine⟨h.1,?_⟩;obtain c|⟨g,cap,b,d,j,f⟩:=h.2;exact .inl c;exact .inr ⟨g,cap,b,d,by omega,f⟩
def Cd(l:List Hit)(j h):bI (l.take j++h::l.drop j)=bI (l.take j)++[.i h.mark,.i h.di,.i h.level]++bI (l.drop j):=by rw[DZ,XR];rfl
def yZ(l:List Hit)(j h)(a:j<=l.length):(l.take j++h::l.drop j).length=j+1+(l.length-j):=by rw[WS,Xy,WA,WJ];omega
def fg(base:Nat)(w:xv)(v:x6)(l:List Hit):Prop:=w.ownsRow base 66 3 v l.length (bI l)/\(l=[]->v=.slice none 0 0)
def y5{K:Nat->Prop}{sc:WZ}{c:Case}(w:xv)(hc:bD K w sc c)(ok:OkC c):Calls (Qs fs) 77 #[.agg sc] w λe w'=>∃v,e=.returned v/\fg w.heap.size w' v (aA c)/\Below w.heap.size w w':=by
 have e70:=e70 L;have Uy:=Uy L;have Uz:=Uz L;have cU:=ok.Jc;have dp:=ok.lT;have cH:=λk (hk:k<c.marks.length) d (t:ae w d)=>Tl L k d (hc.stays t) ok hk;have cB:=λi j r1 l1 r2 l2 G hj d (t:ae w d)=>ON L (c:=c) i j r1 l1 r2 l2 d (hc.stays t) G hj;obtain⟨v0,v1,v2,vr,vf,vm,vk,rfl,ht,hr,hf,hm,cV⟩:=hc;obtain⟨cd,cr,rfl,lr,dr,_,gr⟩:=hr;obtain⟨cg,cm,rfl,lm,ds,_,gm⟩:=hm;obtain⟨w1,ag⟩:=ex (w.alloc (.cells #[v0,v1,v2,.slice cd c.rules.length cr,.string c.new.name,.string c.new.word,vf,.i c.new.day,.bool c.new.known,.slice cg c.marks.length cm,vk] 60));have S1:ae w w1:=by rw[ag];exact ae.alloc _ _
 have B1:Below w.heap.size w w1:=by rw[ag];exact aN _ _
 have ct:∀i v,(#[v0,v1,v2,.slice cd c.rules.length cr,.string c.new.name,.string c.new.word,vf,.i c.new.day,.bool c.new.known,.slice cg c.marks.length cm,vk]:WZ)[i]? =some v->w1.cell? ⟨w.heap.size,i,none⟩=some v:=λi v h=>by rw[ag];exact aC w _ 60 i v h
 obtain⟨N,hN⟩:=ex (w.heap.size);have T:=λd (t:ae w1 d) i v h=>t.cell (ct i v h);rw[<-hN]at T;have a1:=λ(r:jd) (m:Mark) (vx:x6) d (t:ae w d) (a6:OkM m) (hx:aB K 1 dh d vx m.aU)=>BS L (m1:=#[.string c.new.name,.string c.new.word,vf,.i c.new.day,.bool c.new.known]) (m2:=#[.string m.name,.string m.word,vx,.i m.day,.bool m.known]) (one:=c.new) (two:=m) r.kind d (ht.stays t) ok.table ⟨vf,rfl,hf.ints t⟩ ⟨_,rfl,hx⟩ ok.new a6;have Y:=oJ c cU;have ah:=rM c;go_enter (n77 L),Tryz.ntmps77;go_wp2;rw[<-ag,<-hN];clear ag hN ct ht hf cV;go_loopw [3,4] (λo s wr=>∃(k:Nat) (vF:x6),k<=c.marks.length/\s=.i k/\vF=o/\fg w.heap.size wr vF (kJ c k)/\ae w1 wr/\Below w.heap.size w wr) (λo s _=>c.marks.length-(intOf s).toNat);case atStart=>exact⟨0,_,WB _,rfl,rfl,⟨World.ownsRow_nil _ _ _ _,λ_=>rfl⟩,ae.refl _,B1⟩
 case round=>
  obtain⟨k,vF,hk,rfl,rfl,hF,n,Z⟩:=hrel;have u0:=T wr n 0 _ rfl;have u1:=T wr n 1 _ rfl;have u2:=T wr n 2 _ rfl;have u3:=T wr n 3 _ rfl;have u4:=T wr n 4 _ rfl;have u5:=T wr n 5 _ rfl;have u6:=T wr n 6 _ rfl;have u7:=T wr n 7 _ rfl;have u8:=T wr n 8 _ rfl;have u9:=T wr n 9 _ rfl;have ck:=T wr n 10 _ rfl;have HW:Hid _:=(⟨n,Z⟩:ae w1 wr/\Below w.heap.size w wr)
  have HF:=jj hF;obtain ak|hge:=Wx k c.marks.length
  .have cK:=cH k ak wr (S1.trans n);obtain⟨hz,hn⟩|⟨r,hr,hz,hn⟩:=xc c k ak (by omega)
   .rw[hz]at cK;have HN:Hid _:=pM c k hn;clear hn hz cH cB a1 T S1 B1 n Z gr gm hF Y ah;go_wp2_with (go_at_call 130;refine cK.mono ?_;rintro e w3 ⟨rfl,f⟩);refine⟨⟨k+1,vF,by omega,by go_num,rfl,?_,HW.o.1.trans (ae.below f),HW.o.2.trans (f.mono HW.o.2.size)⟩,by simp[intOf];omega⟩;rw[HN.o];exact⟨ni HF.o.1 f,HF.o.2⟩
   rw[hz]at cK;(have HN:Hid _:=pN c k _ hn;have a6:=ok.marks _ (WG ak);obtain⟨bm,om,rfl,x0,x1,⟨fm,x2,xf⟩,x3,x4⟩:=gm k ak;obtain⟨br,ro,rfl,y0,y1,y2,y3⟩:=gr r hr;have cX:=S1.trans n;clear hn hz cH T B1 n Z gr gm hF;go_upto_region 7 with((go_at_call 130;refine cK.mono ?_;rintro e w3 ⟨rfl,f⟩)));(have S3:ae w1 w3:=HW.o.1.trans (ae.below f);have B3:Below w.heap.size w w3:=HW.o.2.trans (f.mono HW.o.2.size);have cl:fg w.heap.size w3 vF (kJ c k):=⟨ni HF.o.1 f,HF.o.2⟩);(have t0:=(ae.below f).cell u0;have t1:=(ae.below f).cell u1;have t2:=(ae.below f).cell u2;have t3:=(ae.below f).cell u3;have t4:=(ae.below f).cell u4;have t5:=(ae.below f).cell u5;have t6:=(ae.below f).cell u6;have t7:=(ae.below f).cell u7;have t8:=(ae.below f).cell u8;have t9:=(ae.below f).cell u9;have aa:=(ae.below f).cell ck;have J:=S1.trans S3;have a7:=xf.ints J;have ab:=λd (t:ae w3 d)=>a1 c.rules[r] c.marks[k] fm d (J.trans t) a6 (a7.ints t);obtain⟨m,cn⟩:=ex (c.marks[k]);obtain⟨rl,cp⟩:=ex (c.rules[r]);rw[<-cn]at x0 x1 x3 x4 a6 ab HN a7;rw[<-cp]at y0 ab HN;have x0:=J.cell x0;have x1:=J.cell x1;have x2:=J.cell x2;have x3:=J.cell x3;have x4:=J.cell x4;have y0:=J.cell y0;clear u0 u1 u2 u3 u4 u5 u6 u7 u8 u9 ck cn cp y1 y2 y3 a1 xf f HW HF;obtain⟨lv,cq⟩:=ex (bn c.table rl.kind c.new m);rw[<-cq]at ab HN;clear cq;have b4:=jj cl;have a8:Hid _:=(⟨S3,B3⟩:ae w1 w3/\Below w.heap.size w w3));(have cY:=jj S1;have cv:=jj a7;clear cl S3 B3 S1 J cX a7;have dt:(r:Int)<(c.rules.length:Int):=by omega);(have dw:(k:Int)<(c.marks.length:Int):=by omega);obtain⟨cw,cf,rfl,lf,dy,kf,gf⟩:=cv.o;clear gf kf cv;go_cut [6]from 9 to 67 (λs6 wx=>∃H:Nat,s6=.pointer (some ⟨H,0,none⟩)/\w3.heap.size<=H/\wx.cell? ⟨H,0,none⟩=some (.i k)/\wx.cell? ⟨H,1,none⟩=some (.i r)/\wx.cell? ⟨H,2,none⟩=some (.i lv)/\Below w3.heap.size w3 wx)
   case first=>
    (have F:∀d,ae w3 d->d.cell? ⟨N,0,none⟩=some v0/\d.cell? ⟨N,1,none⟩=some v1/\d.cell? ⟨N,2,none⟩=some v2/\d.cell? ⟨N,3,none⟩=some (.slice (some ⟨br,ro,none⟩) c.rules.length cr)/\d.cell? ⟨br,ro+r*4,none⟩=some (.i rl.kind)/\d.cell? ⟨N,4,none⟩=some (.string c.new.name)/\d.cell? ⟨N,5,none⟩=some (.string c.new.word)/\d.cell? ⟨N,6,none⟩=some vf/\d.cell? ⟨N,7,none⟩=some (.i c.new.day)/\d.cell? ⟨N,8,none⟩=some (.bool c.new.known)/\d.cell? ⟨N,9,none⟩=some (.slice (some ⟨bm,om,none⟩) c.marks.length cm)/\d.cell? ⟨bm,om+k*5,none⟩=some (.string m.name)/\d.cell? ⟨bm,om+k*5+1,none⟩=some (.string m.word)/\d.cell? ⟨bm,om+k*5+2,none⟩=some (.slice cw m.aU.length cf)/\d.cell? ⟨bm,om+k*5+3,none⟩=some (.i m.day)/\d.cell? ⟨bm,om+k*5+4,none⟩=some (.bool m.known):=λd t=>⟨t.cell t0,t.cell t1,t.cell t2,t.cell t3,t.cell y0,t.cell t4,t.cell t5,t.cell t6,t.cell t7,t.cell t8,t.cell t9,t.cell x0,t.cell x1,t.cell x2,t.cell x3,t.cell x4⟩);have n0:=World.new_ne w3 _ t0;have n1:=World.new_ne w3 _ t1;have n2:=World.new_ne w3 _ t2;have n3:=World.new_ne w3 _ t3;have n4:=World.new_ne w3 _ y0;have n5:=World.new_ne w3 _ t4;have n6:=World.new_ne w3 _ t5;have n7:=World.new_ne w3 _ t6;have n8:=World.new_ne w3 _ t7;have n9:=World.new_ne w3 _ t8;have n10:=World.new_ne w3 _ t9;have n11:=World.new_ne w3 _ x0;have n12:=World.new_ne w3 _ x1;have n13:=World.new_ne w3 _ x2;have n14:=World.new_ne w3 _ x3;have n15:=World.new_ne w3 _ x4
    go_region_held3 (λw'=>w'.cell? ⟨N,0,none⟩=some v0/\w'.cell? ⟨N,1,none⟩=some v1/\w'.cell? ⟨N,2,none⟩=some v2/\w'.cell? ⟨N,3,none⟩=some (.slice (some ⟨br,ro,none⟩) c.rules.length cr)/\w'.cell? ⟨br,ro+r*4,none⟩=some (.i rl.kind)/\w'.cell? ⟨N,4,none⟩=some (.string c.new.name)/\w'.cell? ⟨N,5,none⟩=some (.string c.new.word)/\w'.cell? ⟨N,6,none⟩=some vf/\w'.cell? ⟨N,7,none⟩=some (.i c.new.day)/\w'.cell? ⟨N,8,none⟩=some (.bool c.new.known)/\w'.cell? ⟨N,9,none⟩=some (.slice (some ⟨bm,om,none⟩) c.marks.length cm)/\w'.cell? ⟨bm,om+k*5,none⟩=some (.string m.name)/\w'.cell? ⟨bm,om+k*5+1,none⟩=some (.string m.word)/\w'.cell? ⟨bm,om+k*5+2,none⟩=some (.slice cw m.aU.length cf)/\w'.cell? ⟨bm,om+k*5+3,none⟩=some (.i m.day)/\w'.cell? ⟨bm,om+k*5+4,none⟩=some (.bool m.known)) (first|exact F _ (λ_ _ _ _ h=>h)|exact F _ (by assumption)|exact F _ ((by assumption:ae w3 _).trans (ae.alloc _ _))|exact F _ (ae.alloc w3 _)|go_keep|exact F _ ((((by assumption:ae w3 _).yX (p:=⟨_,_,none⟩) (Wv _) _).yX (p:=⟨_,_,none⟩) (Wv _) _).yX (p:=⟨_,_,none⟩) (Wv _) _))
     (first|(go_at_call 70;refine(ab w3.drew (λ_ _ _ _ h=>h)).mono ?_;rintro e w4 ⟨rfl,O⟩;have c0:ae w3 w4:=yY O;have al:Below w3.heap.size w3 w4:=(Below.refl _ w3).drew.trans O;clear O;dsimp only)|(go_at_call 70;refine(ab ((w3.alloc (.cells #[.i 0,.i 0,.i 0] 66)).drew) (ae.alloc w3 (.cells #[.i 0,.i 0,.i 0] 66))).mono ?_;rintro e w4 ⟨rfl,O⟩;have c0:ae w3 w4:=L6 O;have U:=L8 O;have al:=L9 O;have q0:=cell_of_heap U 0 _ rfl;have q1:=cell_of_heap U 1 _ rfl;have q2:=cell_of_heap U 2 _ rfl;have g0:=frozen_of_heap U 0;have g1:=frozen_of_heap U 1;have g2:=frozen_of_heap U 2;clear O U;dsimp only))
    (all_goals (go_wp2_with fail;go_meet));exact⟨_,rfl,al.size,aC w4 _ 66 0 _ rfl,aC w4 _ 66 1 _ rfl,aC w4 _ 66 2 _ rfl,al.alloc al.size _⟩;exact⟨_,rfl,Wv _,by simp[go_sem, *],by simp[go_sem, *],by simp[go_sem, *],((al.setCell (p:=⟨w3.heap.size,0,none⟩) (Wv _) _).setCell (p:=⟨w3.heap.size,1,none⟩) (Wv _) _).setCell (p:=⟨w3.heap.size,2,none⟩) (Wv _) _⟩
   case rest=>
    (obtain⟨H,rfl,hH,h0,h1,h2,Bc⟩:=hcut;have Sc:=ae.below Bc;have hF:fg w.heap.size wc vF (kJ c k):=⟨ni b4.o.1 Bc,b4.o.2⟩);(have b5:=Y k hk;have c1:=ah k;obtain⟨l,hl⟩:=ex (kJ c k);rw[<-hl]at hF HN b5 c1;have BC:Hid _:=(⟨a8.o.2.trans (Bc.mono a8.o.2.size),a8.o.1.trans Sc⟩:Below w.heap.size w wc/\ae w1 wc));replace t0:=Sc.cell t0;replace t1:=Sc.cell t1;replace t2:=Sc.cell t2;replace t3:=Sc.cell t3;replace t4:=Sc.cell t4;replace t5:=Sc.cell t5;replace t6:=Sc.cell t6;replace t7:=Sc.cell t7;replace t8:=Sc.cell t8;replace t9:=Sc.cell t9;replace aa:=Sc.cell aa;clear cK b4 hl a8 Bc ab x0 x1 x2 x3 x4 y0 Sc;have ba:=jj hF
    (go_upto_block 2 with fail);go_cut [7]from 40 to 54 (λs7 wx=>∃j:Nat,j<=l.length/\s7=.i j/\(∀i (G:i<l.length),i<j->aV c l[i] ⟨k,r,lv⟩=true)/\(∀hj:j<l.length,aV c l[j] ⟨k,r,lv⟩=false)/\ae wc wx/\Below w.heap.size w wx)
    case first=>
     (go_wp2_with fail);(go_loopw [7] (λs wi=>∃j:Nat,j<=l.length/\s=.i j/\(∀i (G:i<l.length),i<j->aV c l[i] ⟨k,r,lv⟩=true)/\ae wc wi/\Below w.heap.size w wi) (λs _=>l.length-(intOf s).toNat));case atStart=>exact⟨0,WB _,rfl,λi G h=>by omega,ae.refl _,BC.o.1⟩
     case round=>
      (obtain⟨j,hj,rfl,ad,b,b6⟩:=hrel;have M:Hid _:=(⟨ad,b,b6⟩:(∀i (G:i<l.length),i<j->aV c l[i] ⟨k,r,lv⟩=true)/\ae wc wr/\Below w.heap.size w wr));have b7:=λi' r' Q b8 d (t:ae wr d)=>cB i' k r' Q r lv b8 ak d (ae.trans cY.o (BC.o.2.trans (b.trans t)));have HO:=bh ba.o.1 b;obtain cx|hjg:=Wx j l.length
      .obtain⟨i',r',Q,b8,ea,_,bk⟩:=b5 l[j] (WG cx);(have V:=b7 i' r' Q b8;rw[<-bk]at V;obtain⟨g,cap,rfl,bo,bs,bx⟩:=To HO cx;rw[bk]at bo bs bx V;simp only[]at bo bs bx;have cy:(j:Int)<(l.length:Int):=by omega);(have cz:=jj bk;have s0:=b.cell t0;have s1:=b.cell t1;have s2:=b.cell t2;have s3:=b.cell t3;have s4:=b.cell t4;have s5:=b.cell t5;have s6:=b.cell t6;have s7:=b.cell t7;have s8:=b.cell t8;have s9:=b.cell t9;have cA:=b.cell aa;have d0:=b.cell h0;have d1:=b.cell h1;have d2:=b.cell h2;clear ad b b6 b7 bk HO hF ba h0 h1 h2 t0 t1 t2 t3 t4 t5 t6 t7 t8 t9 aa;have b9:Hid _:=(⟨M.o.2.1,M.o.2.2⟩:ae wc wr/\Below w.heap.size w wr));have z0:=λx:au w wr=>And.intro (x.cell s0)<|And.intro (x.cell s1)<|And.intro (x.cell s2)<|And.intro (x.cell s3)<|And.intro (x.cell s4)<|And.intro (x.cell s5)<|And.intro (x.cell s6)<|And.intro (x.cell s7)<|And.intro (x.cell s8)<|And.intro (x.cell s9)<|And.intro (x.cell cA)<|And.intro (x.cell d0)<|And.intro (x.cell d1)<|And.intro (x.cell d2)<|And.intro (x.cell bo)<|And.intro (x.cell bs)<|x.cell bx;unfold iH at V;simp only[]at V;obtain⟨bb,ca⟩:=ex (aV c ⟨i',r',Q⟩ ⟨k,r,lv⟩);rw[<-ca]at V;have qB:∀x:au w wr,Calls (Qs fs) 131 _ x.val λe w'=>e=.returned (.bool bb)/\∃y:au w wr,w'=y.val:=λx=>au.calls (V x.val x.st);have cC:=jj ca;clear ca V s0 s1 s2 s3 s4 s5 s6 s7 s8 s9 cA d0 d1 d2 bo bs bx;go_wp2;haveI cD:Nonempty (au w wr):=⟨⟨wr,ae.refl _,b9.o.2⟩⟩
       cases bb with
       |true=>(refine aO (w0:=w) (w1:=wr) (by kernel_rfl) (by kernel_rfl) (ae.refl _) b9.o.2 ?_;repeat (go_big_quiet_step ((go_at_call 131;exact qB _))));(refine wpQuiet_nil ?_;rintro wz ⟨⟨_,Sz,Bz⟩,rfl⟩;have SB:Hid _:=(⟨Sz,Bz⟩:ae wr wz/\Below w.heap.size w wz));clear qB cD Sz Bz z0;go_wp2;refine⟨⟨j+1,by omega,by go_num,λi G eb=>?_,M.o.2.1.trans SB.o.1,SB.o.2⟩,by simp[intOf];omega⟩;by_cases cF:i<j;exact M.o.1 i G cF;(obtain rfl:i=j:=by omega);rw[cz.o];exact cC.o.symm
       |false=>(refine aO (w0:=w) (w1:=wr) (by kernel_rfl) (by kernel_rfl) (ae.refl _) b9.o.2 ?_;repeat (go_big_quiet_step ((go_at_call 131;exact qB _))));(refine wpQuiet_nil ?_;rintro wz ⟨⟨_,Sz,Bz⟩,rfl⟩;have SB:Hid _:=(⟨Sz,Bz⟩:ae wr wz/\Below w.heap.size w wz));clear qB cD Sz Bz z0;go_wp2;go_meet;refine⟨j,hj,rfl,M.o.1,λcG=>?_,M.o.2.1.trans SB.o.1,SB.o.2⟩;rw[cz.o];exact cC.o.symm
      (obtain⟨A,cap,rfl⟩:∃A cap,vF=.slice A l.length cap:=by obtain⟨rfl,h0⟩|⟨g,cap,c5,rfl,_⟩:=HO.2;exact⟨_,_,by rw[h0]⟩;exact⟨_,_,rfl⟩);(have cy:decide ((j:Int)<(l.length:Int))=false:=Wz (by omega);have ec:decide (j<l.length)=false:=Wz (by omega);have c6:Hid (j=l.length):=(by omega:j=l.length));clear ad b b6 b7 HO hF ba h0 h1 h2 t0 t1 t2 t3 t4 t5 t6 t7 t8 t9 aa cB;go_wp2;go_quiet (fail);go_wp2;go_meet;exact⟨j,hj,rfl,M.o.1,λcG=>absurd cG (by have:=c6.o;omega),M.o.2.1,M.o.2.2.dR _⟩
    case rest=>
     (obtain⟨j,hj,rfl,ad,cI,Sx,Bx⟩:=hcut;have b1:=F7 c ⟨k,r,lv⟩ l j hj ad cI;have HP:=jj b1;clear b1;clear t0 t1 t2 t3 t4 t5 t6 t7 t8 t9 aa cB b5 ad cI;have H0:=Sx.cell h0;have H1:=Sx.cell h1;have H2:=Sx.cell h2;have HO:=bh ba.o.1 Sx;have z:w.heap.size<=wc.heap.size:=Bx.size;have SX:Hid _:=(⟨Sx,Bx⟩:ae _ wc/\Below w.heap.size w wc));(clear Sx Bx hF h0 h1 h2;obtain⟨i0,G,B,C,D⟩:=info_parts (OR fs);have a:∀d,Below wc.heap.size wc d->d.cell? ⟨H,0,none⟩=some (.i k)/\d.cell? ⟨H,1,none⟩=some (.i r)/\d.cell? ⟨H,2,none⟩=some (.i lv):=λd hb=>⟨(ae.below hb).cell H0,(ae.below hb).cell H1,(ae.below hb).cell H2⟩);have n0:=World.new_ne wc _ H0;obtain⟨rfl,c7⟩|⟨g,cap,c5,rfl,hg,c8,ed,ee,c9,da⟩:=HO.2
     .obtain rfl:=Xp c7;(obtain rfl:j=0:=by simpa using hj);go_upto_region 11 with fail;go_cut [8]from 55 to 67 (λs8 wx=>∃Q,Q=s8/\wx.ownsRow wc.heap.size 66 3 Q 1 [.i k,.i r,.i lv]/\Below wc.heap.size wc wx)
      case first=>
       obtain⟨⟨oA,bA⟩,⟨oB,bB,hB⟩,⟨oC,bC,hC⟩⟩:=tO wc k r lv;have R:0+0+1<=maxLen:=by unfold maxLen;omega
       go_region_held3 (λw'=>w'.cell? ⟨H,0,none⟩=some (.i k)/\w'.cell? ⟨H,1,none⟩=some (.i r)/\w'.cell? ⟨H,2,none⟩=some (.i lv)) (first|exact a _ (Below.refl _ _).drew|exact a _ bA|exact a _ bB|exact a _ bC|exact a _ (((Below.refl _ _).alloc (Wv _) _).drew)|exact a _ hB2|exact a _ (hB1.alloc hB1.size _)|exact a _ hB1)
        (first|(refine bl (P:=Qs fs) (.tmp 55) (.tmp 58) 62 (by rfl) wc.heap.size 66 i0 _ 3 24 Tryz.underlying62 G B C D rfl (by decide) _ 0 [] (by rfl) oA none 0 0 [] (by rfl) .nil (λu hu=>by cases hu) (WB _) (by omega) (bA).size (by rfl) ?_;intro v1 wA E q S;have hB1:Below wc.heap.size wc wA:=(bA).grown q (bA).size (dI oA))|(refine bl (P:=Qs fs) (.tmp 55) (.tmp 58) 62 (by rfl) wc.heap.size 66 i0 _ 3 24 Tryz.underlying62 G B C D rfl (by decide) _ 0 [] (by rfl) oB none 0 0 [] (by rfl) .nil (λu hu=>by cases hu) (WB _) (by omega) (bB).size (by rfl) ?_;intro v1 wA E q S;have hB1:Below wc.heap.size wc wA:=(bB).grown q (bB).size (dI oB);have an:=tP q hB (by simp[Value.ownBlock]))|(refine bl (P:=Qs fs) (.tmp 55) (.tmp 58) 62 (by rfl) wc.heap.size 66 i0 _ 3 24 Tryz.underlying62 G B C D rfl (by decide) _ 0 [] (by rfl) oC none 0 0 [] (by rfl) .nil (λu hu=>by cases hu) (WB _) (by omega) (bC).size (by rfl) ?_;intro v1 wA E q S;have hB1:Below wc.heap.size wc wA:=(bC).grown q (bC).size (dI oC);have an:=tP q hC (by simp[Value.ownBlock]))|(refine bl (P:=Qs fs) (.tmp 59) (.tmp 61) 62 (by rfl) wc.heap.size 66 i0 _ 3 24 Tryz.underlying62 G B C D rfl (by decide) v1 (0+0) ([]++[]) (by rfl) (E.alloc _) (some ⟨wA.heap.size,0,none⟩) 1 1 [.i k,.i r,.i lv] (by rfl) (Ld wA _ _ _) tN R (by omega) (hB1.alloc hB1.size _).size (by rfl) ?_;intro v2 wB ao W ar;have hB2:Below wc.heap.size wc wB:=(hB1.alloc hB1.size _).grown W (hB1.alloc hB1.size _).size (dI E))|(refine bl (P:=Qs fs) (.tmp 59) (.tmp 61) 62 (by rfl) wc.heap.size 66 i0 _ 3 24 Tryz.underlying62 G B C D rfl (by decide) v1 (0+0) ([]++[]) (by rfl) E (some ⟨_,0,none⟩) 1 1 [.i k,.i r,.i lv] (by rfl) (D1 an) tN R (by omega) hB1.size (by rfl) ?_;intro v2 wB ao W ar;have hB2:Below wc.heap.size wc wB:=hB1.grown W hB1.size (dI E)))
       all_goals
        go_wp2_with fail
        go_meet;exact⟨v2,rfl,ao,hB2⟩
      case rest=>(obtain⟨Q,rfl,ax,af⟩:=hcut;have X:Hid (World.ownsRow wc _ 66 3 Q 1 [.i k,.i r,.i lv]):=ax;have I:=jj af;have ay:1+0<=maxLen:=by unfold maxLen;omega);clear ax af HO a H0 H1 H2 n0;go_wp2_with (at_builtin;refine cu (P:=Qs fs) (.tmp 63) (.tmp 66) 62 (by rfl) _ 66 i0 _ 3 24 Tryz.underlying62 G B C D rfl (by decide) Q 1 _ (by rfl) X.o none 0 0 [] (by rfl) .nil (λu hu=>by cases hu) ay (by omega) I.o.size (by rfl) ?_;intro v5 w5 aK aM b2);have B5:=I.o.grown aM I.o.size (dI X.o);refine⟨⟨k+1,v5,by omega,by go_num,rfl,⟨?_,?_⟩,BC.o.2.trans (SX.o.1.trans (ae.below B5)),SX.o.2.trans (B5.mono z)⟩,by simp[intOf];omega⟩;rw[HN.o];exact tQ aK z;intro h;rw[HN.o]at h;cases h
     go_upto_region 11 with fail;go_cut [8]from 55 to 67 (λs8 wx=>∃Q,Q=s8/\wx.ownsRow wc.heap.size 66 3 Q (j+1) (bI (l.take j)++[.i k,.i r,.i lv])/\Below wc.heap.size wc wx)
     case first=>
      (have ef:(j:Int)<=(cap:Int):=by omega);(obtain⟨⟨oA,bA⟩,⟨oB,bB,hB⟩,⟨oC,bC,hC⟩⟩:=tO wc k r lv;have aR:∀d,Below wc.heap.size wc d->Src d 3 (some ⟨g,0,none⟩) j (bI (l.take j)):=λd hb=>OS (bh HO (ae.below hb)) hj;have cb:0+j<=maxLen:=by unfold maxLen;omega);have R:0+j+1<=maxLen:=by unfold maxLen;omega
      go_region_held3 (λw'=>w'.cell? ⟨H,0,none⟩=some (.i k)/\w'.cell? ⟨H,1,none⟩=some (.i r)/\w'.cell? ⟨H,2,none⟩=some (.i lv)) (first|exact a _ (Below.refl _ _).drew|exact a _ bA|exact a _ bB|exact a _ bC|exact a _ (((Below.refl _ _).alloc (Wv _) _).drew)|exact a _ hB2|exact a _ (hB1.alloc hB1.size _)|exact a _ hB1)
       (first|(refine bl (P:=Qs fs) (.tmp 55) (.tmp 58) 62 (by rfl) wc.heap.size 66 i0 _ 3 24 Tryz.underlying62 G B C D rfl (by decide) _ 0 [] (by rfl) oA (some ⟨g,0,none⟩) j cap (bI (l.take j)) (by rfl) (aR _ bA) (ko _) cb (by omega) (bA).size (by rfl) ?_;intro v1 wA E q S;have hB1:Below wc.heap.size wc wA:=(bA).grown q (bA).size (dI oA))|(refine bl (P:=Qs fs) (.tmp 55) (.tmp 58) 62 (by rfl) wc.heap.size 66 i0 _ 3 24 Tryz.underlying62 G B C D rfl (by decide) _ 0 [] (by rfl) oB (some ⟨g,0,none⟩) j cap (bI (l.take j)) (by rfl) (aR _ bB) (ko _) cb (by omega) (bB).size (by rfl) ?_;intro v1 wA E q S;have hB1:Below wc.heap.size wc wA:=(bB).grown q (bB).size (dI oB);have an:=tP q hB (by simp[Value.ownBlock]))|(refine bl (P:=Qs fs) (.tmp 55) (.tmp 58) 62 (by rfl) wc.heap.size 66 i0 _ 3 24 Tryz.underlying62 G B C D rfl (by decide) _ 0 [] (by rfl) oC (some ⟨g,0,none⟩) j cap (bI (l.take j)) (by rfl) (aR _ bC) (ko _) cb (by omega) (bC).size (by rfl) ?_;intro v1 wA E q S;have hB1:Below wc.heap.size wc wA:=(bC).grown q (bC).size (dI oC);have an:=tP q hC (by simp[Value.ownBlock]))|(refine bl (P:=Qs fs) (.tmp 59) (.tmp 61) 62 (by rfl) wc.heap.size 66 i0 _ 3 24 Tryz.underlying62 G B C D rfl (by decide) v1 (0+j) ([]++bI (l.take j)) (by rfl) (E.alloc _) (some ⟨wA.heap.size,0,none⟩) 1 1 [.i k,.i r,.i lv] (by rfl) (Ld wA _ _ _) tN R (by omega) (hB1.alloc hB1.size _).size (by rfl) ?_;intro v2 wB ao W ar;have hB2:Below wc.heap.size wc wB:=(hB1.alloc hB1.size _).grown W (hB1.alloc hB1.size _).size (dI E))|(refine bl (P:=Qs fs) (.tmp 59) (.tmp 61) 62 (by rfl) wc.heap.size 66 i0 _ 3 24 Tryz.underlying62 G B C D rfl (by decide) v1 (0+j) ([]++bI (l.take j)) (by rfl) E (some ⟨_,0,none⟩) 1 1 [.i k,.i r,.i lv] (by rfl) (D1 an) tN R (by omega) hB1.size (by rfl) ?_;intro v2 wB ao W ar;have hB2:Below wc.heap.size wc wB:=hB1.grown W hB1.size (dI E)))
      all_goals
       go_wp2_with fail
       go_meet;exact⟨v2,rfl,(by simpa using ao),hB2⟩
     case rest=>
      (obtain⟨Q,rfl,ax,af⟩:=hcut;have cL:=bh HO (ae.below af);have X:Hid (World.ownsRow wc _ 66 3 Q (j+1) (bI (l.take j)++[.i k,.i r,.i lv])):=ax;have cM:=OT cL hj;have dm:(j:Int)<=(l.length:Int):=by omega);(have dn:(l.length:Int)<=(cap:Int):=by omega);(have ay:j+1+(l.length-j)<=maxLen:=by unfold maxLen;omega);have dc:=jj cM;have I:=jj af;clear ax cM af HO cL a H0 H1 H2 n0 c8 c9 da;obtain hjcap|hjcap:=Wx j cap
      ·(go_wp2_with (at_builtin;refine cu (P:=Qs fs) (.tmp 63) (.tmp 66) 62 (by rfl) _ 66 i0 _ 3 24 Tryz.underlying62 G B C D rfl (by decide) Q (j+1) _ (by rfl) X.o (some ⟨g,j*3,none⟩) (l.length-j) (cap-j) (bI (l.drop j)) (by rfl) dc.o (ko _) ay (by omega) I.o.size (by rfl) ?_;intro v5 w5 aK aM b2));have B5:=I.o.grown aM I.o.size (dI X.o);refine⟨⟨k+1,v5,by omega,by go_num,rfl,⟨?_,?_⟩,BC.o.2.trans (SX.o.1.trans (ae.below B5)),SX.o.2.trans (B5.mono z)⟩,by simp[intOf];omega⟩;rw[HN.o,HP.o,Cd,yZ _ _ _ hj];exact tQ aK z;intro h;rw[HN.o]at h;have:=jQ c ⟨k,r,lv⟩ l;rw[h]at this;simp at this
      (have dd:l.length-j=0:=by omega);(have eg:cap-j=0:=by omega);(have b0:j=cap:=by omega);(have b3:Src wc 3 (some ⟨g,0,none⟩) 0 (bI (l.drop j)):=by rw[Xg (by omega)];exact .some _ _ _ rfl λi u hu=>by cases hu);(have cR:=jj b3;have cS:j+1+0<=maxLen:=by unfold maxLen;omega);clear b3;subst b0;go_wp2_with (at_builtin;refine cu (P:=Qs fs) (.tmp 63) (.tmp 66) 62 (by rfl) _ 66 i0 _ 3 24 Tryz.underlying62 G B C D rfl (by decide) Q (j+1) _ (by rfl) X.o (some ⟨g,0,none⟩) (0) (0) (bI (l.drop j)) (by rfl) cR.o (ko _) cS (by omega) I.o.size (by rfl) ?_;intro v5 w5 aK aM b2);have B5:=I.o.grown aM I.o.size (dI X.o);refine⟨⟨k+1,v5,by omega,by go_num,rfl,⟨?_,?_⟩,BC.o.2.trans (SX.o.1.trans (ae.below B5)),SX.o.2.trans (B5.mono z)⟩,by simp[intOf];omega⟩;rw[HN.o,HP.o,Cd,yZ _ _ _ hj];rw[dd];exact tQ aK z;intro h;rw[HN.o]at h;have:=jQ c ⟨k,r,lv⟩ l;rw[h]at this;simp at this
  clear n Z cH cB a1 T S1 B1 hF;obtain rfl:k=c.marks.length:=by omega
  go_wp2;go_ret;exact⟨_,rfl,HF.o,HW.o.2⟩
def fnV(b:Nat):x6:=.func (.func 138) #[] #[.pointer (some ⟨b,0,none⟩)]
structure D2(B:Nat)(w:xv)(v:x6)(so:List Nat)(ps:List Pr2):Prop where
 own:w.ownsRow B 101 1 v so.length (so.map fnV)
 len:so.length=ps.length
 box:∀j (h:j<so.length) (h':j<ps.length),w.heap[so[j]]? =some (.cells #[.string ps[j].1,.string ps[j].2] 51 (0,0))
def Rz:((Tryz.prog).info? 101).map (λi=>(i.zero,i.size,i.bytes))=some (some .nilFunc,1,8):=by kernel_rfl
def Ma(fs):((Qs fs).info? 101).map (λi=>(i.zero,i.size,i.bytes))=some (some .nilFunc,1,8):=Rz
def Ce{w:xv}{B e k n:Nat}{v xs}(h:w.ownsRow B e k v n xs){b}(c:v.ownBlock=some b):∃a F,w.heap[b]? =some (.cells a e F):=by obtain⟨rfl,_⟩|⟨g,cap,a,rfl,f,d,_⟩:=h.2;cases c;cases c;exact⟨_,_,d⟩
def OU{w w'}(h:ae w w'){b c e F}(a:w.heap[b]? =some (.cells c e F)):b<w'.heap.size:=(WC.1 (h b c e F a)).1
def RA{K:Nat->Prop}{v0 v1 v2:x6}{l:List kE}(k:Nat)(w:xv)(ht:aB K 2 fW w v1 l)(hk:k<l.length)(hn:l[k].bd.length<=100):Calls (Qs fs) 112 #[.agg #[v0,v1,v2],.i k] w λe w'=>∃v so,e=.returned v/\D2 w.heap.size w' v so l[k].bd/\Below w.heap.size w w':=by
 obtain⟨i0,hi,U,V,W⟩:=info_parts (Ma fs);have ar:∀(fn:Fn) (first cap:WZ) (w:xv),(Instr.makeFunc fn first cap).run (Qs fs) w=.ok (.func fn first cap) w:=λ_ _ _ _=>rfl;obtain⟨w1,d⟩:=ex (w.alloc (.cells #[v0,v1,v2] 100));have X:ae w w1:=by rw[d];exact ae.alloc _ _
 have Y:Below w.heap.size w w1:=by rw[d];exact aN _ _
 have ct:w1.cell? ⟨w.heap.size,1,none⟩=some v1:=by rw[d];exact aC w _ 100 1 _ rfl
 have Z:aB K 2 fW w1 v1 l:=ht.stays X λb b' o x e h=>by subst e;exact fW.carry (Carry.keep X) b b o x rfl h
 obtain⟨ao,c,rfl,ax,hc,_,p⟩:=Z;obtain⟨b,off,rfl,_,vs,I,y⟩:=p k hk;have J:=y;obtain⟨aa,c2,rfl,z,ay,M,f⟩:=y;have HC:Hid (∀wr,ae w1 wr->∀j (hj:j<l[k].bd.length),∃b off,aa=some ⟨b,off,none⟩/\wr.cell? ⟨b,off+j*2,none⟩=some (.string l[k].bd[j].1)/\wr.cell? ⟨b,off+j*2+1,none⟩=some (.string l[k].bd[j].2)):=λwr hs j hj=>by obtain⟨b,off,e,h1,D⟩:=f j hj;exact⟨b,off,e,hs.cell h1,hs.cell D⟩
 obtain⟨ps,O⟩:=ex (l[k].bd);rw[<-O]at hn HC I z⊢;obtain⟨N,A⟩:=ex (w.heap.size);rw[<-A]at ct Y;have P:Hid (Below N w w1/\w1.heap.size=N+1):=⟨Y,by rw[d,A];simp⟩
 have HN:=jj A;have ab:Hid (∃cc,w1.heap[N]? =some (.cells cc 100)):=⟨_,by rw[d,A];exact World.alloc_heap_new w _⟩
 have aK:(k:Int)<(l.length:Int):=by omega
 rw[<-A];clear f p M O J ht X Y;go_enter (n112 L),Tryz.ntmps112;go_upto_region 1 with fail;rw[<-d,<-A];clear d A;go_wp2;go_loopw [5,16] (λo i wr=>∃(E:x6) (j:Nat) (so:List Nat),E=o/\i=.i j/\j<=ps.length/\so.length=j/\wr.ownsRow (N+1) 101 1 E j (so.map fnV)/\(∀q (h:q<so.length) (R:q<ps.length),wr.heap[so[q]]? =some (.cells #[.string ps[q].1,.string ps[q].2] 51 (0,0)))/\ae w1 wr/\Below N w wr) (λo i _=>ps.length-(intOf i).toNat);case atStart=>exact⟨_,0,[],rfl,rfl,WB _,rfl,World.ownsRow_nil _ _ _ _,λq h=>absurd h (WM _),ae.refl _,P.o.1⟩
 case round=>
  obtain⟨E,j,so,rfl,rfl,hj,t,a,g,n,m⟩:=hrel;obtain ad|hge:=Wx j ps.length
  .obtain⟨b2,an,rfl,x0,x1⟩:=HC.o wr n j ad;(have aM:(j:Int)<(ps.length:Int):=by omega);(obtain⟨pp,C⟩:=ex (ps[j]);rw[<-C]at x0 x1;have HP:=jj C;have HS:Hid (so.length=j/\wr.ownsRow (N+1) 101 1 E j (so.map fnV)/\(∀q (h:q<so.length) (R:q<ps.length),wr.heap[so[q]]? =some (.cells #[.string ps[q].1,.string ps[q].2] 51 (0,0)))/\ae w1 wr/\Below N w wr):=⟨t,a,g,n,m⟩);have aR:N+1<=wr.heap.size:=ab.o.elim λ_ h=>OU n h;clear C t g n m;go_wp2_with (at_builtin;refine wpList_append_own _ rfl _ _ 175 rfl (N+1) 101 i0 .nilFunc 1 8 Tryz.underlying175 hi U V W rfl (by decide) _ _ _ rfl ((a.alloc _).alloc _) ⟨_,0,none⟩ 1 1 [fnV wr.heap.size] rfl rfl ?c1 ?c2 ?c3 ?c4 ?c5 ?_);case c1=>
    intro q u G;rw[eR,WH];have h:=aC (wr.alloc (.cells #[.string pp.1,.string pp.2] 51)) #[fnV wr.heap.size] 101 q u (by
     match q,G with
     |0,G=>exact G)
    rw[World.size_alloc]at h;exact h
   (case c2=>intro u G;simp at G;subst G;rfl);(case c3=>unfold maxLen;omega);(case c4=>omega);(case c5=>simp;omega);intro v' w4 r s _;have S:=jj s;have af:=jj r;clear a s r;go_wp2;refine⟨⟨_,j+1,so++[wr.heap.size],rfl,by go_num,by omega,by rw[WS,HS.o.1];rfl,by rw[Yr];exact af.o,?_,?_,?_⟩,by simp[intOf];omega⟩;intro q h R;(have ag:∀B c e F,wr.heap[B]? =some (.cells c e F)->e≠101->E.ownBlock≠some B:=λB c e F hB he hv=>by obtain⟨ah,F',D⟩:=Ce HS.o.2.1 hv;rw[hB]at D;cases D;exact he rfl);by_cases T:q<so.length;rw[List.getElem_append_left T];have H:=HS.o.2.2.1 q T R;have hl:=(WC.1 H).1;rw[S.o.block _ (by simp;omega) (λe=>ag _ _ _ _ H (by decide) e.symm),Below.heap_alloc _ _ _ (by simp;omega),Below.heap_alloc _ _ _ hl];exact H;(obtain rfl:q=so.length:=by rw[WS]at h;simp at h;omega);(rw[List.getElem_append_right (Wv _)];simp only[Nat.sub_self,YW];have Q:ps[so.length]=pp:=by rw[HP.o];simp only[HS.o.1]);rw[Q,S.o.block _ (by simp;omega) (λe=>by obtain⟨ah,F',D⟩:=Ce HS.o.2.1 e.symm;have:=(WC.1 D).1;omega),Below.heap_alloc _ _ _ (by simp)];exact World.alloc_heap_new wr _;intro bk c e F H;have hl:=(WC.1 H).1;have hw:=HS.o.2.2.2.1 bk c e F H;have ak:=(WC.1 hw).1;rw[S.o.block _ (by simp;omega) (λe=>by have:=dI HS.o.2.1 _ e.symm;have:=P.o.2;omega),Below.heap_alloc _ _ _ (by simp;omega),Below.heap_alloc _ _ _ ak];exact hw;exact(((HS.o.2.2.2.2).alloc (by omega) _).alloc (by simp;omega) _).grown S.o (by simp;omega) (λq T=>by have:=dI HS.o.2.1 q T;omega)
  have al:j=ps.length:=by omega
  subst al;clear z I;have HS:Hid (so.length=ps.length/\wr.ownsRow (N+1) 101 1 E ps.length (so.map fnV)/\(∀q (h:q<so.length) (R:q<ps.length),wr.heap[so[q]]? =some (.cells #[.string ps[q].1,.string ps[q].2] 51 (0,0)))/\ae w1 wr/\Below N w wr):=⟨t,a,g,n,m⟩
  clear t a g n m;go_wp2;go_ret;exact⟨_,so,rfl,⟨by rw[HS.o.1];exact DV HS.o.2.1 (by omega),HS.o.1,HS.o.2.2.1⟩,HS.o.2.2.2.2⟩
def nM{w:xv}{B e k n:Nat}{v xs}(h:w.ownsRow B e k v n xs):∃a cap,v=.slice a n cap:=by obtain⟨rfl,b⟩|⟨g,cap,c,rfl,_⟩:=h.2;exact⟨none,0,by rw[b]⟩;exact⟨_,_,rfl⟩
def D2.at{B w b cap a d}(h:D2 B w (.slice b a.length cap) a d){j}(f:j<a.length):∃g,b=some ⟨g,0,none⟩/\w.cell? ⟨g,j,none⟩=some (fnV a[j]):=by have i:=h.own;obtain⟨_,l⟩|⟨g,c,k,e,_⟩:=h.own.2;omega;cases e;refine⟨g,rfl,(i.cellAt j (by omega)).trans ?_⟩;rw[Xq,WN f];rfl
def Le{K:Nat->Prop}{v0 v1 v2:x6}{t:Table}(k:Nat)(s:UV)(w:xv)(ht:IsTable K w v0 v1 v2 t)(H:OkT t)(hs:s.size<=300)(hk:k<t.aI.length)(hm:hZ w):Calls (Qs fs) 64 #[.agg #[v0,v1,v2],.i k,.string s] w λe w'=>e=.returned (.string (bs (bS t k s.data.toList)))/\Below w.heap.size w w':=by
 have e53:=e53 L;have Ur:=Ur L;have UC:=UC L;have n:Hid (bS t k s.data.toList=Ja t.aI[k].bd (aX t.az s.data.toList)):=ve hk s.data.toList;have I:=dx H s.data.toList;rw[<-Lib.size_eq]at I;obtain⟨w1,b⟩:=ex (w.alloc (.cells #[v0,v1,v2] 100));have Z:ae w w1:=by rw[b];exact ae.alloc _ _
 have X:Below w.heap.size w w1:=by rw[b];exact aN _ _
 have r:=ht.stays Z;have J:=hm.stays Z;have ct:∀i v,(#[v0,v1,v2]:WZ)[i]? =some v->w1.cell? ⟨w.heap.size,i,none⟩=some v:=λi v h=>by rw[b];exact aC w _ 100 i v h
 have u:=ct 0 v0 rfl;have x:=ct 1 v1 rfl;have z:=ct 2 v2 rfl;have A:=sN L (v1:=v1) (v2:=v2) s w1 r.1 H.lets (by omega);have c:=λwx (h:ae w1 wx)=>RA L (v0:=v0) (v2:=v2) k wx (r.stays h).2.1 hk (by have:=H.K7 t.aI[k] (WG _);omega);have M:Hid (∀p∈t.aI[k].bd,1<=p.1.size/\p.1.size<=3/\p.2.size<=p.1.size):=H.bd t.aI[k] (WG _);have O:t.aI[k].bd.length<=5:=H.K7 _ (WG _);obtain⟨ps,P⟩:=ex (t.aI[k].bd);rw[<-P]at c n M O;have Q:Hid ((bs (aX t.az s.data.toList)).size<=900/\bs (aX t.az s.data.toList)=bs (aX t.az s.data.toList)):=⟨by rw[dv];omega,rfl⟩
 obtain⟨y0,R⟩:=ex (aX t.az s.data.toList);rw[<-R]at A n Q;obtain⟨N,Y⟩:=ex (w.heap.size);rw[<-Y]at u x z X⊢;have aa:Hid (Below N w w1):=X;have HN:=jj Y;have l:Hid (N<=w1.heap.size):=by have:=X.size;rw[Hid];omega
 have HM:Hid (hZ w1):=J;clear P R I ht r hm J Z X ct;go_enter (n64 L),Tryz.ntmps64;go_upto_region 1 with fail;rw[<-b,<-Y];clear b Y;go_wp2_with (first|(go_at_call 53;refine A.mono ?_;clear A;rintro e w2 ⟨rfl,m⟩;have q:=c w2 (ae.below m);clear c;have S:=(ae.below m).cell u;have T:=(ae.below m).cell x;have U:=(ae.below m).cell z)|(go_at_call 112;refine q.mono ?_;clear q;rintro e w3 ⟨v,B,rfl,f,C⟩;obtain⟨ao,cap,rfl⟩:=nM f.own));have HL:Hid (B.length=ps.length):=f.len;have HB:Hid (ae w1 w3/\Below N w w3):=⟨(ae.below m).trans (ae.below C),(aa.o.trans (m.mono l.o)).trans (C.mono (by have:=m.size;have:=l.o;omega))⟩
 have HR:=jj f;clear m C f u x z S T U;go_loopw [7,17] (λo i wr=>∃(j:Nat) (y:Bs),j<=B.length/\i=.i j/\o=.string (bs y)/\(bs y).size<=900/\ae w3 wr/\Below N w wr/\Ja (ps.drop j) y=bS t k s.data.toList) (λo i _=>B.length-(intOf i).toNat);case atStart=>exact⟨0,_,WB _,rfl,rfl,Q.o.1,ae.refl _,HB.o.2,n.o.symm⟩
 case round=>
  obtain⟨j,y,hj,rfl,rfl,hy,a,d,G⟩:=hrel;have ad:B.length<=5:=by have:=HL.o;omega
  have HX:=jj G;have HW:Hid _:=(⟨a,d⟩:ae w3 wr/\Below N w wr)
  obtain V|hge:=Wx j B.length
  ·(have D:j<ps.length:=by have:=HL.o;omega);(obtain⟨g,rfl,E⟩:=HR.o.at V;have E:=a.cell E;have F:=a _ _ _ _ (HR.o.box j V D);obtain⟨z1,z2,z3⟩:=M.o ps[j] (WG D);have ab:=kH z3 y;rw[<-dv,<-dv]at ab;have cR:=OQ L (bs y) ps[j] B[j] wr (by omega) (HM.o.stays (HB.o.1.trans a)) z1 (by omega) (cell_of_heap F 0 _ rfl) (cell_of_heap F 1 _ rfl);rw[dM]at cR;have af:(j:Int)<(B.length:Int):=by omega);unfold fnV at E;clear G a d F;go_wp2_with (go_at_call 138;refine cR.mono ?_;rintro e w4 ⟨rfl,W⟩);refine⟨⟨j+1,_,by omega,by go_num,rfl,by omega,HW.o.1.trans (ae.below W),HW.o.2.trans (W.mono (by have:=HW.o.2.size;have:=HN.o;omega)),?_⟩,by simp[intOf];omega⟩;rw[<-HX.o,BK _ _ D]
  clear G a d;go_wp2;go_ret;have G:=HX.o;rw[Xg (by have:=HL.o;omega)]at G;exact⟨by rw[<-G];rfl,HW.o.2⟩
def eo(kd:IntKind)(K:Nat->Prop)(w:xv)(b o:Nat)(x:Int×Int×Int):Prop:=w.cell? ⟨b,o,none⟩=some (.i x.1)/\w.cell? ⟨b,o+1,none⟩=some (.i x.2.1)/\w.cell? ⟨b,o+2,none⟩=some (.int kd x.2.2)
def eo.keep{kd K w w'}(a:ae w w'){b o x}(h:eo kd K w b o x):eo kd K w' b o x:=⟨a.cell h.1,a.cell h.2.1,a.cell h.2.2⟩
def D4{a:Type}[DecidableEq a]{l m:List a}(b:l.length=m.length){j}(c:j<l.length)(h:l[j]≠m[j]'(b▸c)):decide (l=m)=false:=by refine Wz λe=>?_;subst e;exact h rfl
def D5{a:Type}[DecidableEq a]{l m:List a}(b:l.length=m.length)(h:∀j (c:j<l.length),l[j]=m[j]'(b▸c)):decide (l=m)=true:=WE (aae b λj d e=>h j d)
def y7{K:Nat->Prop}{v0 v1:x6}{l m:List (Int×Int×Int)}(w:xv)(O:aB K 3 (eo .i64) w v0 l)(P:aB K 3 (eo .i64) w v1 m):ac fs 36 #[v0,v1] w (.bool (decide (l=m))):=by
 obtain⟨Q,c0,rfl,R,S,_,g0⟩:=O;obtain⟨a1,c1,rfl,T,U,_,D⟩:=P;obtain hlen|hlen:=ZJ (l.length=m.length)
 .have f:((l.length:Int)!=(m.length:Int))=false:=by rw[hlen];simp
  have V:((m.length:Int)!=(m.length:Int))=false:=by simp
  have u:Hid (l.length=m.length):=hlen;have E:Hid ((∀j (F:j<l.length),∃b o,Q=some ⟨b,o,none⟩/\eo .i64 K w b (o+j*3) l[j])/\(∀j (F:j<m.length),∃b o,a1=some ⟨b,o,none⟩/\eo .i64 K w b (o+j*3) m[j])):=⟨g0,D⟩
  clear g0 D;go_enter (n36 L),Tryz.ntmps36;go_wp2;go_loopw [5] (λs wr=>∃j:Nat,j<=l.length/\s=.i j/\(∀q (d:q<l.length),q<j->l[q]=m[q]'(u.o▸d))/\Below w.heap.size w wr) (λs _=>l.length-(intOf s).toNat);case atStart=>exact⟨0,WB _,rfl,λq d h=>by omega,Below.refl _ _⟩
  case round=>
   (obtain⟨j,F,rfl,f,a⟩:=hrel;have g:Hid ((∀q (d:q<l.length),q<j->l[q]=m[q]'(u.o▸d))/\Below w.heap.size w wr):=⟨f,a⟩);obtain i|hge:=Wx j l.length
   ·(have k:j<m.length:=by omega);(obtain⟨b,o,rfl,v,x,y⟩:=E.o.1 j i;obtain⟨b2,o2,rfl,z,A,B⟩:=E.o.2 j k;have c:=ae.below a;have v:=c.cell v;have x:=c.cell x;have y:=c.cell y;have z:=c.cell z;have A:=c.cell A;have B:=c.cell B;obtain⟨p,n⟩:=ex (l[j]);obtain⟨q,d⟩:=ex (m[j]);rw[<-n]at v x y;rw[<-d]at z A B;obtain⟨G,H,I⟩:=p;obtain⟨J,M,N⟩:=q;simp only[]at v x y z A B;have W:=jj n;have X:=jj d;have C:=Cb fs G H I J M N;have hG:=fQ fs DT .neq (.tmp 20) (.tmp 24);have Y:(j:Int)<(l.length:Int):=by omega);(have Z:(j:Int)<(m.length:Int):=by omega);by_cases r:G=J/\H=M/\I=N
    .rw[WE r]at C;obtain⟨rfl,rfl,rfl⟩:=r;simp only[XW]at C;clear f a c n d;go_wp2;go_quiet (fail);go_wp2;refine⟨⟨j+1,by omega,by go_num,λq d aa=>?_,g.o.2.dR _⟩,by simp[intOf];omega⟩;by_cases h:q<j;exact g.o.1 q d h;(obtain rfl:q=j:=by omega);exact W.o.symm.trans X.o
    (have t:l[j]≠m[j]:=λe=>by rw[<-n,<-d]at e;cases e;exact r ⟨rfl,rfl,rfl⟩);have HN:Hid _:=D4 u.o i t;rw[Wz r]at C;simp only[YJ]at C;clear f a c n d t r;go_wp2;go_quiet (fail);go_wp2;go_ret;exact⟨by rw[HN.o];rfl,g.o.2.dR _⟩
   clear f a;have HT:Hid _:=D5 u.o λq d=>g.o.1 q d (by omega);go_wp2;go_ret;exact⟨by rw[HT.o];rfl,g.o.2⟩
 have f:((l.length:Int)!=(m.length:Int))=true:=by rw[X7];omega
 have hN:Hid (decide (l=m)=false):=Wz λe=>hlen (by rw[e]);clear g0 D;go_enter (n36 L),Tryz.ntmps36;go_wp2;go_ret;exact⟨by rw[hN.o];rfl,Below.refl _ _⟩
def Ge{K:Nat->Prop}{v0 v1:x6}{l m:List (Int×Int×Int)}(w:xv)(O:aB K 3 (eo .i64) w v0 l)(P:aB K 3 (eo .i64) w v1 m):ac fs 40 #[v0,v1] w (.bool (decide (l=m))):=by
 obtain⟨Q,c0,rfl,R,S,_,g0⟩:=O;obtain⟨a1,c1,rfl,T,U,_,D⟩:=P;obtain hlen|hlen:=ZJ (l.length=m.length)
 .have f:((l.length:Int)!=(m.length:Int))=false:=by rw[hlen];simp
  have V:((m.length:Int)!=(m.length:Int))=false:=by simp
  have u:Hid (l.length=m.length):=hlen;have E:Hid ((∀j (F:j<l.length),∃b o,Q=some ⟨b,o,none⟩/\eo .i64 K w b (o+j*3) l[j])/\(∀j (F:j<m.length),∃b o,a1=some ⟨b,o,none⟩/\eo .i64 K w b (o+j*3) m[j])):=⟨g0,D⟩
  clear g0 D;go_enter (n40 L),Tryz.ntmps40;go_wp2;go_loopw [5] (λs wr=>∃j:Nat,j<=l.length/\s=.i j/\(∀q (d:q<l.length),q<j->l[q]=m[q]'(u.o▸d))/\Below w.heap.size w wr) (λs _=>l.length-(intOf s).toNat);case atStart=>exact⟨0,WB _,rfl,λq d h=>by omega,Below.refl _ _⟩
  case round=>
   (obtain⟨j,F,rfl,f,a⟩:=hrel;have g:Hid ((∀q (d:q<l.length),q<j->l[q]=m[q]'(u.o▸d))/\Below w.heap.size w wr):=⟨f,a⟩);obtain i|hge:=Wx j l.length
   ·(have k:j<m.length:=by omega);(obtain⟨b,o,rfl,v,x,y⟩:=E.o.1 j i;obtain⟨b2,o2,rfl,z,A,B⟩:=E.o.2 j k;have c:=ae.below a;have v:=c.cell v;have x:=c.cell x;have y:=c.cell y;have z:=c.cell z;have A:=c.cell A;have B:=c.cell B;obtain⟨p,n⟩:=ex (l[j]);obtain⟨q,d⟩:=ex (m[j]);rw[<-n]at v x y;rw[<-d]at z A B;obtain⟨G,H,I⟩:=p;obtain⟨J,M,N⟩:=q;simp only[]at v x y z A B;have W:=jj n;have X:=jj d;have C:=Ca fs G H I J M N;have hG:=fQ fs tK .neq (.tmp 20) (.tmp 24);have Y:(j:Int)<(l.length:Int):=by omega);(have Z:(j:Int)<(m.length:Int):=by omega);by_cases r:G=J/\H=M/\I=N
    .rw[WE r]at C;obtain⟨rfl,rfl,rfl⟩:=r;simp only[XW]at C;clear f a c n d;go_wp2;go_quiet (fail);go_wp2;refine⟨⟨j+1,by omega,by go_num,λq d aa=>?_,g.o.2.dR _⟩,by simp[intOf];omega⟩;by_cases h:q<j;exact g.o.1 q d h;(obtain rfl:q=j:=by omega);exact W.o.symm.trans X.o
    (have t:l[j]≠m[j]:=λe=>by rw[<-n,<-d]at e;cases e;exact r ⟨rfl,rfl,rfl⟩);have HN:Hid _:=D4 u.o i t;rw[Wz r]at C;simp only[YJ]at C;clear f a c n d t r;go_wp2;go_quiet (fail);go_wp2;go_ret;exact⟨by rw[HN.o];rfl,g.o.2.dR _⟩
   clear f a;have HT:Hid _:=D5 u.o λq d=>g.o.1 q d (by omega);go_wp2;go_ret;exact⟨by rw[HT.o];rfl,g.o.2⟩
 have f:((l.length:Int)!=(m.length:Int))=true:=by rw[X7];omega
 have hN:Hid (decide (l=m)=false):=Wz λe=>hlen (by rw[e]);clear g0 D;go_enter (n40 L),Tryz.ntmps40;go_wp2;go_ret;exact⟨by rw[hN.o];rfl,Below.refl _ _⟩
def Gf{K:Nat->Prop}{v0 v1:x6}{l m:List (Int×Int×Int)}(w:xv)(O:aB K 3 (eo .u8) w v0 l)(P:aB K 3 (eo .u8) w v1 m):ac fs 46 #[v0,v1] w (.bool (decide (l=m))):=by
 obtain⟨Q,c0,rfl,R,S,_,g0⟩:=O;obtain⟨a1,c1,rfl,T,U,_,D⟩:=P;obtain hlen|hlen:=ZJ (l.length=m.length)
 .have f:((l.length:Int)!=(m.length:Int))=false:=by rw[hlen];simp
  have V:((m.length:Int)!=(m.length:Int))=false:=by simp
  have u:Hid (l.length=m.length):=hlen;have E:Hid ((∀j (F:j<l.length),∃b o,Q=some ⟨b,o,none⟩/\eo .u8 K w b (o+j*3) l[j])/\(∀j (F:j<m.length),∃b o,a1=some ⟨b,o,none⟩/\eo .u8 K w b (o+j*3) m[j])):=⟨g0,D⟩
  clear g0 D;go_enter (n46 L),Tryz.ntmps46;go_wp2;go_loopw [5] (λs wr=>∃j:Nat,j<=l.length/\s=.i j/\(∀q (d:q<l.length),q<j->l[q]=m[q]'(u.o▸d))/\Below w.heap.size w wr) (λs _=>l.length-(intOf s).toNat);case atStart=>exact⟨0,WB _,rfl,λq d h=>by omega,Below.refl _ _⟩
  case round=>
   (obtain⟨j,F,rfl,f,a⟩:=hrel;have g:Hid ((∀q (d:q<l.length),q<j->l[q]=m[q]'(u.o▸d))/\Below w.heap.size w wr):=⟨f,a⟩);obtain i|hge:=Wx j l.length
   ·(have k:j<m.length:=by omega);(obtain⟨b,o,rfl,v,x,y⟩:=E.o.1 j i;obtain⟨b2,o2,rfl,z,A,B⟩:=E.o.2 j k;have c:=ae.below a;have v:=c.cell v;have x:=c.cell x;have y:=c.cell y;have z:=c.cell z;have A:=c.cell A;have B:=c.cell B;obtain⟨p,n⟩:=ex (l[j]);obtain⟨q,d⟩:=ex (m[j]);rw[<-n]at v x y;rw[<-d]at z A B;obtain⟨G,H,I⟩:=p;obtain⟨J,M,N⟩:=q;simp only[]at v x y z A B;have W:=jj n;have X:=jj d;have C:=L1 fs G H I J M N;have hG:=fQ fs Rv .neq (.tmp 20) (.tmp 24);have Y:(j:Int)<(l.length:Int):=by omega);(have Z:(j:Int)<(m.length:Int):=by omega);by_cases r:G=J/\H=M/\I=N
    .rw[WE r]at C;obtain⟨rfl,rfl,rfl⟩:=r;simp only[XW]at C;clear f a c n d;go_wp2;go_quiet (fail);go_wp2;refine⟨⟨j+1,by omega,by go_num,λq d aa=>?_,g.o.2.dR _⟩,by simp[intOf];omega⟩;by_cases h:q<j;exact g.o.1 q d h;(obtain rfl:q=j:=by omega);exact W.o.symm.trans X.o
    (have t:l[j]≠m[j]:=λe=>by rw[<-n,<-d]at e;cases e;exact r ⟨rfl,rfl,rfl⟩);have HN:Hid _:=D4 u.o i t;rw[Wz r]at C;simp only[YJ]at C;clear f a c n d t r;go_wp2;go_quiet (fail);go_wp2;go_ret;exact⟨by rw[HN.o];rfl,g.o.2.dR _⟩
   clear f a;have HT:Hid _:=D5 u.o λq d=>g.o.1 q d (by omega);go_wp2;go_ret;exact⟨by rw[HT.o];rfl,g.o.2⟩
 have f:((l.length:Int)!=(m.length:Int))=true:=by rw[X7];omega
 have hN:Hid (decide (l=m)=false):=Wz λe=>hlen (by rw[e]);clear g0 D;go_enter (n46 L),Tryz.ntmps46;go_wp2;go_ret;exact⟨by rw[hN.o];rfl,Below.refl _ _⟩
def fN(a:Nat->Int):Nat->Nat->Int
 |0,_=>0
 |n+1,j=>if a j≠0 then a j else fN a n (j+1)
def y8(a b:Int)(c:Nat->Int)(n:Nat):Int:=if av n a b then fN c n 0 else 2
def A2{a n j}(h:a j=0)(c:0<n):fN a n j=fN a (n-1) (j+1):=by (obtain⟨n,rfl⟩:∃k,n=k+1:=⟨n-1,by omega⟩);(conv=>lhs;unfold fN);rw[Wt (λb=>b h)];rfl
def A3{a n j}(h:a j≠0)(b:0<n):fN a n j=a j:=by (obtain⟨n,rfl⟩:∃k,n=k+1:=⟨n-1,by omega⟩);unfold fN;rw[Wu h]
def aB.Cg{K v l w w'}(h:aB K 2 dO w v l)(a:ae w w'):aB K 2 dO w' v l:=h.stays a λb c o x e h=>by subst e;exact dO.carry (Carry.keep a) b b o x rfl h
def aB.strs{K v l w w'}(h:aB K 1 kF w v l)(a:ae w w'):aB K 1 kF w' v l:=h.stays a λb c o x e h=>by subst e;exact kF.carry (Carry.keep a) b b o x rfl h
def aB.SY{K v l w w'}(h:aB K 1 dh w v l)(a:ae w w'):aB K 1 dh w' v l:=h.ints a
abbrev rO(fs:Array Func)(f:FuncId)(a:WZ)(c:Nat->Int)(b:Nat->xv->Prop)(j:Nat)(x:x6)(wr:xv):Prop:=Calls (Qs fs) f (#[.i j,x]++a) wr λe w'=>e=.returned (.i (c j))/\b (j+1) w'
abbrev pn(fs:Array Func)(f:FuncId)(a:WZ)(g:Nat->Int)(b:Nat->xv->Prop)(c d:Int)(n:FuncId)(v:x6)(k:Nat)(w:xv):Prop:=Calls (Qs fs) n #[v,.i c,.i d,.func (.func f) #[] a] w λe w'=>e=.returned (.i (y8 c d g k))/\∃j,b j w'
def lq{K:Nat->Prop}{v:x6}(f:FuncId)(h:WZ)(r t:Int)(w:xv)(g:Nat->xv->Prop)(m:Nat->Int)(ef:∀a w,(callFunc f a).run (Qs fs) w=.ok (.enter f a) w)(W:g 0 w)(O:∀j wr,g j wr->ae w wr)(P:∀j wr o,g j wr->g j (wr.alloc o)):(∀l:List Pr2,aB K 2 dO w v l->(∀j (C:j<l.length) wr,g j wr->rO fs f h m g j (.agg #[.string l[j].1,.string l[j].2]) wr)->pn fs f h m g r t 97 v l.length w)/\(∀l:List Pr2,aB K 2 dO w v l->(∀j (C:j<l.length) wr,g j wr->rO fs f h m g j (.agg #[.string l[j].1,.string l[j].2]) wr)->pn fs f h m g r t 103 v l.length w)/\(∀l:List jd,aB K 4 j5 w v l->(∀j (C:j<l.length) wr,g j wr->rO fs f h m g j (.agg #[.i l[j].kind,.i l[j].least,.i l[j].plain,.i l[j].known]) wr)->pn fs f h m g r t 78 v l.length w)/\(∀l:List (Int×Int×Int),aB K 3 (eo .u8) w v l->(∀j (C:j<l.length) wr,g j wr->rO fs f h m g j (.agg #[.i l[j].1,.i l[j].2.1,.int .u8 l[j].2.2]) wr)->pn fs f h m g r t 89 v l.length w)/\(∀l:List Int,aB K 1 dh w v l->(∀j (C:j<l.length) wr,g j wr->rO fs f h m g j (.i l[j]) wr)->pn fs f h m g r t 82 v l.length w)/\(∀l:List UV,aB K 1 kF w v l->(∀j (C:j<l.length) wr,g j wr->rO fs f h m g j (.string l[j]) wr)->pn fs f h m g r t 107 v l.length w)/\(∀l:List Mark,aB K 5 mG w v l->(∀j (C:j<l.length) wr,g j wr->∀u,(aB K 1 dh wr u l[j].aU)->rO fs f h m g j (.agg #[.string l[j].name,.string l[j].word,u,.i l[j].day,.bool l[j].known]) wr)->pn fs f h m g r t 80 v l.length w)/\(∀l:List kE,aB K 2 fW w v l->(∀j (C:j<l.length) wr,g j wr->∀u,(aB K 2 dO wr u l[j].bd)->rO fs f h m g j (.agg #[.string l[j].name,u]) wr)->pn fs f h m g r t 100 v l.length w)/\(∀l:List (List UV),aB K 1 kG w v l->(∀j (C:j<l.length) wr,g j wr->∀u,(aB K 1 kF wr u l[j])->rO fs f h m g j (u) wr)->pn fs f h m g r t 105 v l.length w):=by
 have X:=jj W;have I:Hid ((∀j wr,g j wr->ae w wr)/\(∀j wr o,g j wr->g j (wr.alloc o))):=⟨O,P⟩
 clear O P W;refine⟨?_,?_,?_,?_,?_,?_,?_,?_,?_⟩;all_goals
  intro l Q x;unfold rO at x;unfold pn;have e63:=e63 L;have M:=dV fs (n63 L) (l.length:Int) r t w;obtain⟨ao,c,rfl,aa,hc,ab,y⟩:=Q;have D:=jj x;have E:=jj y;clear x y;first
  |(go_enter (n97 L),Tryz.ntmps97;have B:Fin 1:=0)
  |(go_enter (n103 L),Tryz.ntmps103;have B:Fin 2:=0)
  |(go_enter (n78 L),Tryz.ntmps78;have B:Fin 3:=0)
  |(go_enter (n89 L),Tryz.ntmps89;have B:Fin 3:=0)
  |(go_enter (n82 L),Tryz.ntmps82;have B:Fin 3:=0)
  |(go_enter (n107 L),Tryz.ntmps107;have B:Fin 3:=0)
  |(go_enter (n80 L),Tryz.ntmps80;have B:Fin 3:=0)
  |(go_enter (n100 L),Tryz.ntmps100;have B:Fin 3:=0)
  |(go_enter (n105 L),Tryz.ntmps105;have B:Fin 3:=0)
  cases G:av l.length r t with
  |false=>
   have T:Hid (y8 r t m l.length=2):=by unfold Hid y8;rw[G];rfl
   unfold av at G;rw[G]at M;clear G;go_wp2_with (go_at_call 63;refine M.mono ?_;clear M;rintro e w2 ⟨rfl,rfl⟩)
   go_ret;exact⟨by rw[T.o];rfl,0,X.o⟩
  |true=>
   have T:Hid (y8 r t m l.length=fN m l.length 0):=by unfold Hid y8;rw[G];rfl
   unfold av at G;rw[G]at M;clear G;go_wp2_with (go_at_call 63;refine M.mono ?_;clear M;rintro e w2 ⟨rfl,rfl⟩)
   go_loopw [20] (λs wr=>∃j:Nat,j<=l.length/\s=.i j/\g j wr/\fN m l.length 0=fN m (l.length-j) j) (λs _=>l.length-(intOf s).toNat)
   case atStart=>exact⟨0,WB _,rfl,X.o,rfl⟩
   case round=>
    obtain⟨j,C,rfl,q,N⟩:=hrel;have HF:=jj N;have HI:=jj q;obtain i|hge:=Wx j l.length
    .have d:=I.o.1 j wr q
     first
     |(obtain⟨b,off,rfl,k,p,H,R⟩:=E.o j i;have k:=d.cell k;have p:=d.cell p;have H:=d.cell H;have R:=d.cell R;have n:=D.o j i _ (I.o.2 j wr (.cells #[.i l[j].kind,.i l[j].least,.i l[j].plain,.i l[j].known] 69) q))
     |(obtain⟨b,off,rfl,k,p,H⟩:=E.o j i;have k:=d.cell k;have p:=d.cell p;have H:=d.cell H;have n:=D.o j i _ (I.o.2 j wr (.cells #[.i l[j].1,.i l[j].2.1,.int .u8 l[j].2.2] 96) q))
     |(obtain⟨b,off,rfl,k⟩:=E.o j i;have k:=d.cell k;rw[Xj]at k;have n:=D.o j i _ q)
     |(obtain⟨b,off,rfl,k⟩:=E.o j i;have k:=d.cell k;rw[Xj]at k;have n:=D.o j i _ q)
     |(obtain⟨b,off,rfl,k,p,⟨u,H,z⟩,R,Y⟩:=E.o j i;have k:=d.cell k;have p:=d.cell p;have H:=d.cell H;have R:=d.cell R;have Y:=d.cell Y;obtain⟨F,U,rfl,xl,_⟩:=z.SY d;have n:=D.o j i _ (I.o.2 j wr (.cells #[.string l[j].name,.string l[j].word,.slice F l[j].aU.length U,.i l[j].day,.bool l[j].known] 38) q) _ (z.SY (d.trans (ae.alloc _ _)));clear z)
     |(obtain⟨b,off,rfl,k,u,p,z⟩:=E.o j i;have k:=d.cell k;have p:=d.cell p;obtain⟨F,U,rfl,xl,_⟩:=z.Cg d;have n:=D.o j i _ (I.o.2 j wr (.cells #[.string l[j].name,.slice F l[j].bd.length U] 50) q) _ (z.Cg (d.trans (ae.alloc _ _)));clear z)
     |(obtain⟨b,off,rfl,u,k,z⟩:=E.o j i;have k:=d.cell k;rw[Xj]at k;obtain⟨F,U,rfl,xl,_⟩:=z.strs d;have n:=D.o j i _ q _ (z.strs d);clear z)
     |(have _:Fin 1:=B;obtain⟨b,off,rfl,k,p⟩:=E.o j i;have k:=d.cell k;have p:=d.cell p;have n:=D.o j i _ (I.o.2 j wr (.cells #[.string l[j].1,.string l[j].2] 46) q))
     |(have _:Fin 2:=B;obtain⟨b,off,rfl,k,p⟩:=E.o j i;have k:=d.cell k;have p:=d.cell p;have n:=D.o j i _ (I.o.2 j wr (.cells #[.string l[j].1,.string l[j].2] 51) q))
     by_cases S:m j=0
     .have V:Hid _:=(N.trans (A2 S (by omega)))
      rw[S]at n;clear N q d S;go_wp2_with (go_at_fn f;refine n.mono ?_;rintro e w3 ⟨rfl,A⟩;have J:=jj A;clear A)
      exact⟨⟨j+1,by omega,by go_num,J.o,V.o⟩,by simp[intOf];omega⟩
     .have V:Hid _:=(N.trans (A3 S (by omega)))
      have ad:(m j !=0)=true:=by simpa using S
      clear N q d;go_wp2_with (go_at_fn f;refine n.mono ?_;rintro e w3 ⟨rfl,A⟩;have J:=jj A;clear A)
      go_ret;exact⟨by rw[T.o,V.o];rfl,_,J.o⟩
    .clear N q
     go_wp2;go_ret;have Z:=HF.o;rw[show l.length-j=0 by omega]at Z;exact⟨by rw[T.o,Z];rfl,_,HI.o⟩
end Go.Proofs
namespace Go.Proofs
open Go.Shelf Go.Tm Go.RowKit
variable {fs:Array Func} (L:bT fs)
def RB:((Tryz.prog.info? 240).bind (·.zero))=some (.agg (Array.replicate 256 (.bool false))):=by kernel_rfl
def RD:(Tryz.prog.info? 240).map (·.size)=some 256:=by kernel_rfl
def F9(fs w):(zeroValue 240).run (Qs fs) w=.ok (.agg (Array.replicate 256 (.bool false))) w:=by rw[jZ];have h:=RB;cases a:Tryz.prog.info? 240 with|none=>rw[a]at h;cases h|some i=>rw[a]at h;simp only[YI]at h;simp[zeroValue,typeInfo,a,h]
def Ga(s:UV)(c:Int)(w:xv):ap fs 193 #[.string s,.int .u8 c] w (.i (Lib.indexByte s.data.toList c.toNat.toUInt8)):=Any.strings_IndexByte {(kI L).1 with} s c w
def xS(s a:UV)(w:xv)(d:2<=a.size)(g:8<s.size)(h:s.size<4294967281)(f:a.size<4294967281)(c:∀(j:Nat) b,a.data.toList[j]? =some b->b.toNat<128):ac fs 165 #[.string s,.string a] w (.i (Lib.indexAny s.data.toList a.data.toList)):=
 (Any.strings_IndexAny_long {(kI L).1 with} (F9 fs) RD s a w d g h f c).mono λe w' ⟨i,d⟩=>⟨i,by rw[d];exact((Below.refl _ _).alloc (Wv _) _).alloc (by simp) _⟩
def y6(w s pos):Below w.heap.size w (w.iter s pos):=(Below.refl _ _).alloc (Wv _) _
def indexByte_none(l c)(h:∀b∈l,b≠c):Lib.indexByte l c= -1:=by (have a:=Lib.contains_iff_indexByte l c;have d:l.contains c=false:=by cases e:l.contains c with|false=>rfl|true=>exact absurd rfl (h c (by simpa using e)));rw[d]at a;have f:=ZI a.symm;have g:=Lib.indexByte_ge l c;omega
def Gb(s:UV)(k){b}(h:b∈(s.extract k s.size).data.toList):b∈s.data.toList:=by (have e:(s.extract k s.size).data=s.data.extract k s.size:=by simp);rw[e,Array.toList_extract]at h;exact aac (aad h)
def Gc(r:Int)(w:xv):ap fs 194 #[.int .i32 r] w (.bool (Utf8.valid r)):=by
 by_cases c:0<=r
 .by_cases b:r<55296
  ·(have a:Hid (Utf8.valid r=true):=by unfold Hid Utf8.valid;simp;omega);go_enter (n194 L),Tryz.ntmps194;go_wp2;go_ret;exact⟨by rw[a.o];rfl,rfl⟩
  have d:decide (r<55296)=false:=Wz b;by_cases f:57343<r
  .by_cases g:r<=1114111
   ·(have a:Hid (Utf8.valid r=true):=by unfold Hid Utf8.valid;simp;omega);go_enter (n194 L),Tryz.ntmps194;go_wp2;go_ret;exact⟨by rw[a.o];rfl,rfl⟩
   (have a:Hid (Utf8.valid r=false):=by unfold Hid Utf8.valid;simp;omega);go_enter (n194 L),Tryz.ntmps194;go_wp2;go_ret;exact⟨by rw[a.o];rfl,rfl⟩
  have a:Hid (Utf8.valid r=false):=by unfold Hid Utf8.valid;simp;omega
  go_enter (n194 L),Tryz.ntmps194;go_wp2;go_ret;exact⟨by rw[a.o];rfl,rfl⟩
 have a:Hid (Utf8.valid r=false):=by unfold Hid Utf8.valid;simp;omega
 go_enter (n194 L),Tryz.ntmps194;go_wp2;go_ret;exact⟨by rw[a.o];rfl,rfl⟩
def vw(s:UV)(r:Int)(w:xv)(C:∀(j:Nat) b,s.data.toList[j]? =some b->b.toNat<128)(hz:s.size<=1000)(H:128<=r)(h2:r<=2147483647):ac fs 175 #[.string s,.int .i32 r] w (.i (-1)):=by
 have UR:=UR L;have US:=US L;have c:=Gc L r w;have HS:=jj C;clear C;have I:decide (r<128)=false:=Wz (by omega);by_cases D:r=65533
 .subst D;clear c;go_enter (n175 L),Tryz.ntmps175;go_wp2
  go_loopg [5,6] s.size (λg _ _ wx=>∃i:Nat,i+g=s.size/\wx=w.iter s i)
  case atStart=>exact⟨0,by omega,rfl⟩
  case round=>
   obtain⟨i,J,rfl⟩:=hrel;cases gk with
   |zero=>(obtain rfl:i=s.size:=by omega);have l:=λty=>run_next_end (P:=Qs fs) w s s.size ty (by omega);go_wp2;go_ret;exact⟨rfl,y6 w s _⟩
   |succ g=>(have n:i<s.size:=by omega);(obtain⟨x,a⟩:∃x:UInt8,s[i]'n=x:=⟨_,rfl⟩);(have d:x.toNat<128:=HS.o i x (by rw[<-a];exact Lib.data_getElem? s i n);have l:=λty=>run_next_ascii (P:=Qs fs) w s i ty n (by rw[a];exact d);rw[a]at l;have K:((x.toNat:Int)==65533)=false:=by rw[W5];omega);clear a;go_wp2;(go_roundg g);(case measure=>omega);case rel=>exact⟨i+1,by omega,rfl⟩
 have M:(r==65533)=false:=by rw[W5];exact D
 cases m:Utf8.valid r with
 |false=>rw[m]at c;clear m;go_enter (n175 L),Tryz.ntmps175;go_wp2_with (go_at_call 194;refine c.mono ?_;clear c;rintro e w2 ⟨rfl,rfl⟩);go_ret;exact⟨rfl,Below.refl _ _⟩
 |true=>
  obtain⟨N,O,o⟩:=encode_facts r m H;have p:=λw=>run_convert_int_string (P:=Qs fs) w 21 9 .i32 r (by rw[aP];rfl) (by rw[aP];exact Tryz.underlying9);obtain⟨t,q⟩:=ex (Utf8.encode r);rw[<-q]at N O p;simp only[<-q]at o;obtain⟨k,E⟩:∃k,t.size=k+1:=⟨t.size-1,by omega⟩
  have f:k<t.size:=by omega
  have Q:128<=(t[k]'f).toNat:=by have:=o (by omega);simpa[E]using this
  clear o q;rw[m]at c;clear m;have R:IntKind.i64.wrap ((t.size:Int)-1)=k:=by rw[E];exact(wrap_i64 _ (by omega)).trans (by omega)
  go_enter (n175 L),Tryz.ntmps175;go_wp2_with (go_at_call 194;refine c.mono ?_;clear c;rintro e w2 ⟨rfl,rfl⟩)
  go_step3
  go_wp2;have v:=λu wx=>Ga L u ((t[k]'f).toNat:Int) wx;go_loopw [9] (λz wr=>z=.i k/\wr=w2) (λ_ _=>0);case atStart=>exact⟨rfl,rfl⟩
  case round=>
   obtain⟨rfl,rfl⟩:=hrel;obtain hks|hks:=Wx k s.size
   .obtain⟨x,a⟩:=ex (s[k]'hks);(obtain⟨y,A⟩:=ex (t[k]'f);have S:x.toNat<128:=HS.o k x (by rw[a];exact Lib.data_getElem? s k hks);rw[<-A]at Q v;have T:((x.toNat:Int)!=(y.toNat:Int))=true:=by rw[X7];omega);(have F:(k:Int)<(s.size:Int):=by omega);(have G:(k:Int)<(t.size:Int):=by omega);(have U:IntKind.i64.wrap ((k:Int)+1)=(k:Int)+1:=wrap_i64 _ (by omega);have V:(k:Int)+1<=(s.size:Int):=by omega);(have W:(0:Int)<=(k:Int)+1:=by omega);(have X:s[k]=x:=a.symm;have Y:t[k]=y:=A.symm;have B:∀wx,ap fs 193 #[.string (s.extract (k+1) s.size),.int .u8 y.toNat] wx (.i (-1)):=λwx=>by have h:=v (s.extract (k+1) s.size) wx;rw[show((y.toNat:Int)).toNat.toUInt8=y by simp,indexByte_none _ y (λb Z e=>by subst e;obtain⟨j,hj⟩:=XV.1 (Gb s (k+1) Z);have:=HS.o j b hj;omega)]at h;exact h);clear a A v;go_wp2
    (go_step3);go_wp2;go_quiet (fail);go_wp2;go_quiet ((go_at_call 193;exact(B _).mono λe w' h=>⟨h.1,_,h.2⟩));go_wp2;simp(config:={zetaDelta:=true}) only [Exit.noGoto_ret,Exit.inBlock,Exit.then];go_ret;exact⟨rfl,(Below.refl _ _).dR _⟩
   go_wp2;rw[Exit.noGoto_ret];go_ret;exact⟨rfl,Below.refl _ _⟩
def tR(s:UV)(r:Int)(w:xv)(a:0<=r)(b:r<128):ap fs 175 #[.string s,.int .i32 r] w (.i (Lib.indexByte s.data.toList r.toNat.toUInt8)):=Any.strings_IndexRune_ascii {(kI L).1 with} s r w a b
def rD(L:bT fs)(n w):ap fs 176 #[.i n] w (.bool (decide (8<n))):=Any.strings_shouldUseASCIISet {(kI L).1 with} n w
def lp{w w' B k pos s}(h:Below B w w')(b:B<=k):Below B w (w'.iterAt k s pos):=
 ⟨h.os,h.tape,h.output,by simp[World.iterAt,h.size],λi a=>by
  have:k≠i:=by omega
  simp[World.iterAt,WK this,h.block i a]⟩
def D3(s pos)(h:pos<s.size)(d:128<=(s[pos]'h).toNat):pos+(Utf8.decode s pos).2<=s.size/\∀j,j<(Utf8.decode s pos).2->128<=(s.get! (pos+j)).toNat:=by (have c:128<=(s.get! (pos+0)).toNat:=by rw[get_at s pos h];exact d);(have e:¬(s.get! (pos+0)).toNat<128:=by omega);(have one:∀j,j<1->128<=(s.get! (pos+j)).toNat:=λj a=>by (obtain rfl:j=0:=by omega);exact c);simp only[Utf8.decode,e,WU];split;rename_i b;simp only[WI,Xw,WR]at b;split;refine⟨by omega,λj a=>?_⟩;(match j,a with|0,_=>exact c|1,_=>omega);exact⟨by omega,one⟩;split;rename_i b;simp only[WI,Xw,WR]at b;split;refine⟨by omega,λj a=>?_⟩;(match j,a with|0,_=>exact c|1,_=>omega|2,_=>omega);exact⟨by omega,one⟩;split;rename_i b;simp only[WI,Xw,WR]at b;split;refine⟨by omega,λj a=>?_⟩;(match j,a with|0,_=>exact c|1,_=>omega|2,_=>omega|3,_=>omega);exact⟨by omega,one⟩;exact⟨by omega,one⟩
def Jr{s a i n}(h:Lib.NoAny s a i)(f:∀c∈a,c.toNat<128)(g:∀j b,j<n->s[i+j]? =some b->128<=b.toNat):Lib.NoAny s a (i+n):=by intro j b k e;obtain h1|h1:=Wx j i;exact h j b h1 e;have:=g (j-i) b (by omega) (by rw[show i+(j-i)=j by omega];exact e);cases d:a.contains b with|false=>rfl|true=>have:=f b (by simpa using d);omega
def vy(s a:UV)(w:xv)(h2:2<=a.size)(h8:s.size<=8)(A:a.size<=1000)(U:∀(j:Nat) b,a.data.toList[j]? =some b->b.toNat<128):ac fs 165 #[.string s,.string a] w (.i (Lib.indexAny s.data.toList a.data.toList)):=by
 have UM:=UM L;have UN:=UN L;have V:a.toList.isEmpty=false:=by rw[Lib.toList_data];cases h:a.data.toList with|nil=>have:=Lib.size_eq a;rw[h,WQ]at this;omega|cons _ _=>rfl
 have aa:((a.size:Int)==1)=false:=W5.2 (by omega);have Q:=rD L (s.size:Int) w;rw[Wz (by omega)]at Q;have HS:=jj U;clear U;go_enter (n165 L),Tryz.ntmps165;go_wp2_with (go_at_call 176;refine Q.mono ?_;clear Q;rintro e w2 ⟨rfl,rfl⟩);obtain⟨N,O⟩:=ex (w2.heap.size);have R:Hid ((w2.iter s 0).heap[N]? =some (.stringIter s 0)):=by rw[O];exact World.iter_heap w2 s 0
 rw[<-O];have o:=jj O;clear O
 go_loopg [9,10] s.size (λg _ _ F=>∃i:Nat,s.size<=i+g/\i<=s.size/\F.heap[N]? =some (.stringIter s i)/\Lib.NoAny s.data.toList a.data.toList i/\Below N w2 F)
 case atStart=>exact⟨0,by omega,WB _,R.o,Lib.NoAny.zero _ _,by rw[o.o];exact y6 w2 s 0⟩
 case round=>
  obtain⟨i,ab,ad,hit,I,y⟩:=hrel;have J:=jj I;have G:=jj y;have K:N<wr.heap.size:=(WC.1 hit).1;clear I y;cases gk with
  |zero=>(obtain rfl:i=s.size:=by omega);have l:=λty=>Lib.run_next_end_at (P:=Qs fs) wr N s s.size ty hit (by omega);go_wp2;go_ret;exact⟨by rw[Lib.indexAny_none (by rw[<-Lib.size_eq];exact J.o)];rfl,by have:=G.o;rwa[o.o]at this⟩
  |succ g=>
   (have u:i<s.size\/i=s.size:=by omega);obtain u|rfl:=u
   ·(obtain⟨x,H⟩:∃x:UInt8,s[i]'u=x:=⟨_,rfl⟩);(have B:s.data.toList[i]? =some x:=by rw[<-H];exact Lib.data_getElem? s i u);have W:=jj B;by_cases C:x.toNat<128
    .have l:=λty=>Lib.run_next_ascii_at (P:=Qs fs) wr N s i ty hit u (by rw[H];exact C)
     rw[H]at l;have d:=Lib.contains_iff_indexByte a.data.toList x;have t:=λF=>tR L a (x.toNat:Int) F (by omega) (by omega);rw[show((x.toNat:Int)).toNat.toUInt8=x by simp]at t;have f:=Lib.iterAt_heap wr N s i (i+1) hit;have D:=jj f;clear hit f B H;cases m:a.data.toList.contains x with
     |false=>rw[m]at d;have v:¬((0:Int)<=Lib.indexByte a.data.toList x):=ZI d.symm;have E:=jj m;clear d m;obtain⟨z,A⟩:=ex (Lib.indexByte a.data.toList x);rw[<-A]at v t;clear A;go_wp2_with (go_at_call 175;refine(t _).mono ?_;clear t;rintro e w3 ⟨rfl,rfl⟩);(go_roundg g);(case measure=>omega);case rel=>exact⟨i+1,by omega,by omega,D.o,Lib.NoAny.succ J.o W.o E.o,lp G.o (Wv _)⟩
     |true=>rw[m]at d;have p:(0:Int)<=Lib.indexByte a.data.toList x:=W6 d.symm;have E:=jj m;clear d m;obtain⟨z,A⟩:=ex (Lib.indexByte a.data.toList x);rw[<-A]at p t;clear A;go_wp2_with (go_at_call 175;refine(t _).mono ?_;clear t;rintro e w3 ⟨rfl,rfl⟩);go_ret;exact⟨by rw[Lib.indexAny_hit J.o W.o E.o];rfl,by have:=lp (k:=N) (pos:=i+1) (s:=s) G.o (Wv _);rwa[show Below N w2=Below w2.heap.size w2 by rw[o.o]]at this⟩
    have p:128<=(s[i]'u).toNat:=by rw[H];omega
    have l:=λty=>Lib.run_next_any_at (P:=Qs fs) wr N s i ty hit u;obtain⟨d1,d2⟩:=decode_high s i u p;obtain⟨d3,d4⟩:=D3 s i u p;have d5:=decode_le s i;obtain⟨r,X⟩:=ex ((Utf8.decode s i).1);obtain⟨n,Y⟩:=ex ((Utf8.decode s i).2);rw[<-X]at l d1 d5;rw[<-Y]at l d2 d3 d4;have q:Lib.NoAny s.data.toList a.data.toList (i+n):=Jr J.o (λc hc=>by
     obtain⟨j,S⟩:=XV.1 hc;exact HS.o j c S) (λj b S Z=>by
      have:=d4 j S;have v:i+j<s.size:=by omega
      have e:=get_at s (i+j) v;rw[XE]at e;rw[e]at this;rw[Lib.data_getElem? s (i+j) v]at Z;cases Z;exact this)
    have T:=jj q;have t:=λF=>vw L a (r:Int) F HS.o A (by omega) (by omega);have f:=Lib.iterAt_heap wr N s i (i+n) hit;have D:=jj f;clear hit f B H p X Y d4 q;go_wp2_with (go_at_call 175;refine(t _).mono ?_;clear t;rintro e w3 ⟨rfl,M⟩)
    (go_roundg g);(case measure=>omega);case rel=>exact⟨i+n,by omega,by omega,(M.block N (by simpa[World.iterAt]using K)).trans D.o,T.o,(lp G.o (Wv _)).trans (M.mono (by have:=(lp (k:=N) (pos:=i+n) (s:=s) G.o (Wv _)).size;have:=o.o;omega))⟩
   have l:=λty=>Lib.run_next_end_at (P:=Qs fs) wr N s s.size ty hit (by omega);go_wp2;go_ret;exact⟨by rw[Lib.indexAny_none (by rw[<-Lib.size_eq];exact J.o)];rfl,by have:=G.o;rwa[o.o]at this⟩
end Go.Proofs
namespace Go.Proofs
open Go.Tm Go.RowKit
variable {fs:Array Func} (L:bT fs)
def cs4:UV:=⟨#[10,58,59,44]⟩
def Ch:∀(j:Nat) b,cs4.data.toList[j]? =some b->b.toNat<128:=by intro j b h;have a:b∈cs4.data.toList:=Xr h;have:cs4.data.toList=[10,58,59,44]:=rfl;rw[this]at a;simp only[WO,WY,W7]at a;rcases a with rfl|rfl|rfl|rfl<;>decide
def D6(l):decide (0<=Lib.indexAny l cs4.data.toList)=l.any j7:=by induction l with|nil=>rfl|cons b l a=>(have c:cs4.data.toList.contains b=j7 b:=by have:cs4.data.toList=[10,58,59,44]:=rfl;rw[this];unfold j7;simp only[List.contains_cons,List.contains_nil,Bool.or_false,aaf]);rw[Lib.indexAny,c,List.any_cons,<-a];have:=Lib.indexAny_ge cs4.data.toList l;cases j7 b with|true=>simp|false=>simp only[WW,WU,YY];by_cases h:Lib.indexAny l cs4.data.toList= -1;rw[h];rfl;rw[Wt (by simpa using h)];rw[WE (by omega),WE (by omega)]
def Js(s:UV)(w:xv)(a:s.size<4294967281):ac fs 165 #[.string s,.string cs4] w (.i (Lib.indexAny s.data.toList cs4.data.toList)):=by obtain h|h:=Wx 8 s.size;exact xS L s cs4 w (by decide) h a (by decide) Ch;exact vy L s cs4 w (by decide) h (by decide) Ch
def A4(s:UV)(w:xv)(d:s.size<4294967281):Calls (Qs fs) 135 #[.string s,.string cs4] w λe w'=>e=.returned (.bool (s.data.toList.any j7))/\Below w.heap.size w w':=by have UJ:=UJ L;have c:=Js L s w d;have a:Hid _:=D6 s.data.toList;obtain⟨z,b⟩:=ex (Lib.indexAny s.data.toList cs4.data.toList);rw[<-b]at c a;clear b;obtain⟨ch,hch⟩:=ex cs4;rw[<-hch]at c⊢;clear hch;go_enter (n135 L),Tryz.ntmps135;go_wp2_with (go_at_call 165;refine c.mono ?_;clear c;rintro e w2 ⟨rfl,f⟩);go_ret;exact⟨by rw[<-a.o];rfl,f⟩
def y9(s:UV)(a:Int)(w:xv)(k:a<=1000):ac fs 99 #[.string s,.i a] w (.bool (bz s a)):=by
 have UA:=UA L;have e63:=e63 L;have c:=dV fs (n63 L) (s.size:Int) 1 a w;have i:Hid (bz s a=(av s.size 1 a&& !s.data.toList.any j7)):=rfl;cases b:av s.size 1 a with
 |false=>(have d:Hid (bz s a=false):=by rw[i.o,b];rfl);unfold av at b;rw[b]at c;clear b;go_enter (n99 L),Tryz.ntmps99;go_wp2_with (go_at_call 63;refine c.mono ?_;clear c;rintro e w2 ⟨rfl,rfl⟩);go_ret;exact⟨by rw[d.o];rfl,Below.refl _ _⟩
 |true=>(have d:Hid (bz s a= !s.data.toList.any j7):=by rw[i.o,b];rfl);(unfold av at b;rw[b]at c;have g:s.size<4294967281:=by rw[WI,WR,WR]at b;omega);clear b;have f:=A4 L s w g;rw[show cs4=(⟨#[10,58,59,44]⟩:UV)from rfl]at f;obtain⟨z,j⟩:=ex (s.data.toList.any j7);rw[<-j]at f d;clear j;go_enter (n99 L),Tryz.ntmps99;go_wp2_with (first|(go_at_call 63;refine c.mono ?_;clear c;rintro e w2 ⟨rfl,rfl⟩)|(go_at_call 135;refine f.mono ?_;clear f;rintro e w3 ⟨rfl,h⟩));go_ret;exact⟨by rw[d.o];rfl,h⟩
end Go.Proofs

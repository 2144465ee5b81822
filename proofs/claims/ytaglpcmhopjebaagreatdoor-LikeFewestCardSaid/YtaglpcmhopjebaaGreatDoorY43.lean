import Derived.Test.YtaglpcmhopjebaaGreatDoorY40
import Derived.Test.YtaglpcmhopjebaaGreatDoorY42
set_option linter.all false
set_option maxRecDepth 100000
set_option maxHeartbeats 20000000
namespace Go.Proofs
open Go.Tm Go.RowKit
variable {fs:Array Func} (L:bQ fs)
def Nh(n:Nat)(a:n<256)(w:World):Calls (Qs fs) 192 #[.int .u64 n] w λe w'=>(∃l,e=.returned (.int .i64 l))/\w'=w:=by
 have b:¬((n:Int)>=4294967296):=by omega
 have c:¬((n:Int)>=65536):=by omega
 have d:¬((n:Int)>=256):=by omega
 go_enter (n192 L),Tryz.ntmps192;go_wp2;go_ret;exact⟨⟨_,rfl⟩,rfl⟩
def N6(n:Nat)(a:n<256)(w:World):Calls (Qs fs) 174 #[.int .u64 n] w λe w'=>(∃l,e=.returned (.int .i64 l))/\w'=w:=by
 have PT:=PT L;have q:=Nh L n a;go_enter (n174 L),Tryz.ntmps174;go_wp2_with (first|(go_at_call 192;refine(q _).mono ?_;rintro e w3 ⟨⟨l,rfl⟩,rfl⟩))
 go_ret;exact⟨⟨_,rfl⟩,rfl⟩
def QG{K:Nat->Prop}{sc:Array Value}{c:Case}{g cap:Nat}{rest:List Value}{d0:Array Hit}(f:Int)(w:World)(h:lI K w sc c)(i:OkC c)(j:∀b,K b->b≠g)(k:∀x∈d0,gl c x)(l:d0.size<=12)(m:g<w.heap.size)(o:SW w g rest d0 w):
 Calls (Qs fs) 173 #[.slice (some ⟨g,0,none⟩) d0.size cap,.int .i64 0,.int .i64 d0.size,.int .i64 f,.func (.func 129) #[.agg sc] #[]] w λe w'=>e=.returned (.tuple #[])/\SW w g rest (Sort.insertionSort (aQ c) d0 0 d0.size) w':=by
 have Mq:=Mq L;have q:=QF L (cap:=cap) w h i j k l m o;obtain⟨s,a⟩:=ex (Sort.insertionSort (aQ c) d0 0 d0.size);rw[<-a]at q⊢;obtain⟨n,d⟩:=ex (d0.size);rw[<-d]at q l⊢;clear h i j k m o a d;have p:(n:Int)<=12:=by omega
 have t:IntKind.i64.wrap (n:Int)=n:=wrap_i64 _ (by omega);go_enter (n173 L),Tryz.ntmps173;go_wp2;refine wp_loop_rounds 1 ?_;rw[rounds_succ];go_wp2_with (first|(go_at_call 183;refine q.mono ?_;rintro e w3 ⟨rfl,r⟩))
 (try simp only[Exit.inBlock,Exit.then])
 refine bodyPost_ret (results_none rfl _ _ _) rfl ?_;exact⟨rfl,r⟩
def FU{K:Nat->Prop}{sc:Array Value}{c:Case}{g cap:Nat}{rest:List Value}{d0:Array Hit}(w:World)(h:lI K w sc c)(i:OkC c)(j:∀b,K b->b≠g)(k:∀x∈d0,gl c x)(m:d0.size<=12)(o:g<w.heap.size)(p:SW w g rest d0 w):
 Calls (Qs fs) 162 #[.slice (some ⟨g,0,none⟩) d0.size cap,.func (.func 129) #[.agg sc] #[]] w λe w'=>e=.returned (.tuple #[])/\SW w g rest (Sort.insertionSort (aQ c) d0 0 d0.size) w':=by
 have Mo:=Mo L;have Mp:=Mp L;have q:=λf=>QG L (cap:=cap) f w h i j k m o p;have r:=N6 L d0.size (by omega) w;obtain⟨u,a⟩:=ex (Sort.insertionSort (aQ c) d0 0 d0.size);rw[<-a]at q⊢;obtain⟨n,d⟩:=ex (d0.size);rw[<-d]at q r m⊢;clear h i j k o p a d;have s:(n:Int)<=12:=by omega
 go_enter (n162 L),Tryz.ntmps162;go_wp2_with (first|(go_at_call 174;refine r.mono ?_;rintro e w3 ⟨⟨l,rfl⟩,rfl⟩)|(go_at_call 173;refine(q _).mono ?_;rintro e w4 ⟨rfl,t⟩))
 go_end0
 exact⟨rfl,t⟩
def Lc{K:Nat->Prop}{sc:Array Value}{c:Case}{g cap:Nat}{rest:List Value}{d0:Array Hit}(w:World)(f:lI K w sc c)(h:OkC c)(i:∀b,K b->b≠g)(j:∀x∈d0,gl c x)(k:d0.size<=12)(l:g<w.heap.size)(m:SW w g rest d0 w):
 Calls (Qs fs) 128 #[.slice (some ⟨g,0,none⟩) d0.size cap,.func (.func 129) #[.agg sc] #[]] w λe w'=>e=.returned (.slice (some ⟨g,0,none⟩) d0.size cap)/\SW w g rest (Sort.insertionSort (aQ c) d0 0 d0.size) w':=by
 have Mn:=Mn L;have q:=FU L (cap:=cap) w f h i j k l m;obtain⟨p,a⟩:=ex (Sort.insertionSort (aQ c) d0 0 d0.size);rw[<-a]at q⊢;obtain⟨n,d⟩:=ex (d0.size);rw[<-d]at q k⊢;clear f h i j l m a d;go_enter (n128 L),Tryz.ntmps128;go_wp2_with (first|(go_at_call 162;refine q.mono ?_;rintro e w4 ⟨rfl,o⟩))
 go_ret;exact⟨rfl,o⟩
def IV{sc:Array Value}(w:World):
 Calls (Qs fs) 128 #[.slice none 0 0,.func (.func 129) #[.agg sc] #[]] w λe w'=>e=.returned (.slice none 0 0)/\w'=w:=by
 have Mn:=Mn L;have Mo:=Mo L;have Mp:=Mp L;have Mq:=Mq L;have a:Calls (Qs fs) 183 #[.slice none 0 0,.int .i64 0,.int .i64 0,.func (.func 129) #[.agg sc] #[]] w λe w'=>e=.returned (.tuple #[])/\w'=w:=by
  go_enter (n183 L),Tryz.ntmps183;go_wp2;refine wp_loop_rounds 1 ?_;rw[rounds_succ];go_wp2
  go_end0
  exact⟨rfl,rfl⟩
 have b:∀c,Calls (Qs fs) 173 #[.slice none 0 0,.int .i64 0,.int .i64 0,.int .i64 c,.func (.func 129) #[.agg sc] #[]] w λe w'=>e=.returned (.tuple #[])/\w'=w:=by
  intro c;go_enter (n173 L),Tryz.ntmps173;go_wp2;refine wp_loop_rounds 1 ?_;rw[rounds_succ];go_wp2_with (first|(go_at_call 183;refine a.mono ?_;rintro e w3 ⟨rfl,rfl⟩))
  (try simp only[Exit.inBlock,Exit.then])
  refine bodyPost_ret (results_none rfl _ _ _) rfl ?_;exact⟨rfl,rfl⟩
 have f:=N6 L 0 (by omega) w;have d:Calls (Qs fs) 162 #[.slice none 0 0,.func (.func 129) #[.agg sc] #[]] w λe w'=>e=.returned (.tuple #[])/\w'=w:=by
  go_enter (n162 L),Tryz.ntmps162;go_wp2_with (first|(go_at_call 174;refine f.mono ?_;rintro e w3 ⟨⟨l,rfl⟩,rfl⟩)|(go_at_call 173;refine(b _).mono ?_;rintro e w4 ⟨rfl,rfl⟩))
  go_end0
  exact⟨rfl,rfl⟩
 go_enter (n128 L),Tryz.ntmps128;go_wp2_with (first|(go_at_call 162;refine d.mono ?_;rintro e w4 ⟨rfl,rfl⟩))
 go_ret;exact⟨rfl,rfl⟩
def FV(c):Sort.SWO (aQ c):=⟨Cx c,λ_ _ _=>before_trans,λ_ _ _=>pj⟩
def DL{c}{l:List Hit}(h:l.Perm (bX c)):(Sort.insertionSort (aQ c) l.toArray 0 l.toArray.size).toList=bX c:=by
 obtain⟨⟨b,m,e⟩,k⟩:=Sort.insertionSort_holds (FV c) l.toArray 0 l.toArray.size (RA _) (Rq _);obtain⟨d,n⟩:=ex (Sort.insertionSort (aQ c) l.toArray 0 l.toArray.size);rw[<-n]at b m e k⊢;have e1:d.extract 0 l.toArray.size=d:=by rw[<-b];simp
 have o:l.toArray.extract 0 l.toArray.size=l.toArray:=by simp
 rw[e1,o]at e;refine xP ?_ (vI c) (e.trans h);refine List.pairwise_iff_getElem.2 λi j p q f=>?_;have g:i<d.size:=by simpa using p
 have a:j<d.size:=by simpa using q
 have:=k i j (RA _) f (by rw[<-b];exact a);rw[UA d i g,UA d j a]at this;simpa using this
def jE(c:Case)(m:Mark)(kin:Int):List Bl:=c.rules.map (lP c m kin)
def xn(l:List Bl):List Go.Value:=l.flatMap λx=>[.int .i64 x.days,.int .i64 x.level,.int .i64 x.kin]
def A9(a b):xn (a++b)=xn a++xn b:=by unfold xn;rw[T9]
def OZ:((Tryz.prog).info? 86).map (λi=>(i.zero,i.size,i.bytes))=some (some (.agg #[.int .i64 0,.int .i64 0,.int .i64 0]),3,24):=by kernel_rfl
def LK(fs):((Qs fs).info? 86).map (λi=>(i.zero,i.size,i.bytes))=some (some (.agg #[.int .i64 0,.int .i64 0,.int .i64 0]),3,24):=OZ
def ym{a b:Type}(f:a->b)(l:List a)(k)(c:k<l.length):(l.map f).take (k+1)=(l.map f).take k++[f l[k]]:=by rw[List.take_add_one,TE,R5 c];rfl
def GV{K:Nat->Prop}{sc:Array Value}{c:Case}(j:Nat)(w:World)(Z:bl K w sc c)(ok:OkC c)(h0:o7 c=0)(hj:j<c.marks.length)(aa:j<c.kin.length)(I:uO fs c)(hm:gZ w)(J:ia w):
 Calls (Qs fs) 38 #[.agg sc,.int .i64 j] w λe w'=>∃v,e=.returned (.tuple #[v,.int .i64 0])/\w'.ownsRow w.heap.size 86 3 v (jE c c.marks[j] c.kin[j]).length (xn (jE c c.marks[j] c.kin[j]))/\Below w.heap.size w w':=by
 have e37:=e37 L;have e51:=e51 L;have e52:=e52 L;have e63:=e63 L;have e84:=e84 L;have a1:=ok.sx;have a6:=ok.Ev;have cC:=λp (C:ae w p)=>uc L p (Z.stays C);rw[h0]at cC;have cL:=λk (hk:k<c.rules.length) p (C:ae w p)=>Kl L j k p (Z.stays C) ok hj hk aa (I _ (RR hk)) (hm.stays C) (J.stays C);obtain⟨v0,v1,v2,vr,vf,vm,vk,rfl,ht,M,hf,ab,ad⟩:=Z;obtain⟨ar,cr,rfl,_,_,_,gr⟩:=id M;obtain⟨am,cm,rfl,_⟩:=ab;obtain⟨w1,m⟩:=ex (w.alloc (.cells #[v0,v1,v2,.slice ar c.rules.length cr,.string c.new.name,.string c.new.word,vf,.int .i64 c.new.day,.bool c.new.known,.slice am c.marks.length cm,vk] 60));have S1:ae w w1:=by rw[m];exact ae.alloc _ _
 have B1:Below w.heap.size w w1:=by rw[m];exact aF _ _
 have ct:∀i v,(#[v0,v1,v2,.slice ar c.rules.length cr,.string c.new.name,.string c.new.word,vf,.int .i64 c.new.day,.bool c.new.known,.slice am c.marks.length cm,vk]:Array Value)[i]? =some v->w1.cell? ⟨w.heap.size,i,none⟩=some v:=λi v h=>by rw[m];exact aw w _ 60 i v h
 have af:(decide ((0:Int)<=(j:Int))&&decide ((j:Int)<=(c.marks.length:Int)-1))=true:=by rw[RE (by omega),RE (by omega)];rfl
 have a7:IntKind.i64.wrap ((c.marks.length:Int)-1)=(c.marks.length:Int)-1:=wrap_i64 _ (by omega);obtain⟨N,hN⟩:=ex (w.heap.size);have d:=λp (C:ae w1 p) i v h=>C.cell (ct i v h);rw[<-hN]at d;have O:∀x:aj w w1,Calls (Qs fs) 37 #[.agg #[v0,v1,v2,.slice ar c.rules.length cr,.string c.new.name,.string c.new.word,vf,.int .i64 c.new.day,.bool c.new.known,.slice am c.marks.length cm,vk]] x.val λe w'=>e=.returned (.int .i64 0)/\∃y:aj w w1,w'=y.val:=λx=>aj.calls (cC x.val (S1.trans x.st));have Q:∀x:aj w w1,Calls (Qs fs) 63 #[.int .i64 j,.int .i64 0,.int .i64 ((c.marks.length:Int)-1)] x.val λe w'=>e=.returned (.bool true)/\∃y:aj w w1,w'=y.val:=λx=>by have h:=cj fs (n63 L) j 0 ((c.marks.length:Int)-1) x.val;rw[af]at h;exact aj.same h
 have R:∀x:aj w w1,Calls (Qs fs) 52 #[.bool false,.int .i64 6] x.val λe w'=>e=.returned (.int .i64 0)/\∃y:aj w w1,w'=y.val:=λx=>aj.same (dm L false 6 x.val);have D:=λwx=>de L 0 0 wx;have l0:=λx:aj w w1=>d x.val x.st 0 _ rfl;have l1:=λx:aj w w1=>d x.val x.st 1 _ rfl;have l2:=λx:aj w w1=>d x.val x.st 2 _ rfl;have l3:=λx:aj w w1=>d x.val x.st 3 _ rfl;have l4:=λx:aj w w1=>d x.val x.st 4 _ rfl;have l5:=λx:aj w w1=>d x.val x.st 5 _ rfl;have l6:=λx:aj w w1=>d x.val x.st 6 _ rfl;have l7:=λx:aj w w1=>d x.val x.st 7 _ rfl;have l8:=λx:aj w w1=>d x.val x.st 8 _ rfl;have l9:=λx:aj w w1=>d x.val x.st 9 _ rfl;have ag:=λx:aj w w1=>d x.val x.st 10 _ rfl;have HB:Hid _:=B1;have n:Hid _:=S1;obtain⟨i0,hi,S,T,U⟩:=info_parts (LK fs);clear ht hf ad M ct B1 S1 h0 I hm J cC;go_enter (n38 L),Tryz.ntmps38;go_upto_region 1 with fail;rw[<-m,<-hN];clear m hN;refine aT (w0:=w) (w1:=w1) 10 (by kernel_rfl) (by kernel_rfl) (ae.refl _) HB.out ?_;simp only[R7,Si,Sk,Sj];haveI ak:Nonempty (aj w w1):=⟨⟨w1,ae.refl _,HB.out⟩⟩
 repeat (go_big_quiet_step (first|(go_at_call 37;exact O _)|(go_at_call 63;exact Q _)|(go_at_call 52;exact R _)))
 refine wpQuiet_nil ?_;rintro p ⟨⟨_,Sy,By⟩,rfl⟩;obtain⟨w2,q⟩:=ex (p.alloc (.cells #[.int .i64 0,.int .i64 0] 29));have S2:ae w1 w2:=by rw[q];exact Sy.trans (ae.alloc p _)
 have B2:Below w.heap.size w w2:=by rw[q];exact By.alloc By.size _
 have u1:=d w2 S2 3 _ rfl;have t:Hid _:=(⟨S2,B2⟩:_/\_)
 clear O Q R l0 l1 l2 l3 l4 l5 l6 l7 l8 l9 ag ak Sy By S2 B2;go_wp2_with (first|(go_at_call 51;refine(D _).mono ?_;rintro e w4 ⟨rfl,rfl⟩;rw[<-q];clear q))
 go_loopw [7,30] (λo s wr=>∃(k:Nat) (X:Value),k<=c.rules.length/\s=.int .i64 k/\X=o/\wr.ownsRow w2.heap.size 86 3 X k (xn ((jE c c.marks[j] c.kin[j]).take k))/\Below w2.heap.size w2 wr) (λo s _=>c.rules.length-(intOf s).toNat)
 case atStart=>exact⟨0,_,RA _,rfl,rfl,World.ownsRow_nil _ _ _ _,Below.refl _ _⟩
 case round=>
  obtain⟨k,X,hk,rfl,rfl,hF,g⟩:=hrel;have a:ae w1 wr:=ae.trans t.out.1 (ae.below g);have HW:Hid _:=(⟨a,g⟩:ae w1 wr/\Below w2.heap.size w2 wr)
  have HF:Hid _:=hF;obtain E|hge:=Ry k c.rules.length
  ·obtain⟨b,o,rfl,y0,y1,y2,y3⟩:=gr k E
   have y0:=a.cell (ae.cell n.out y0);have y1:=a.cell (ae.cell n.out y1);have y2:=a.cell (ae.cell n.out y2);have y3:=a.cell (ae.cell n.out y3);have a8:(k:Int)<(c.rules.length:Int):=by omega
   have p0:=λob=>d (wr.alloc ob) (a.trans (ae.alloc _ _)) 0 _ rfl;have p1:=λob=>d (wr.alloc ob) (a.trans (ae.alloc _ _)) 1 _ rfl;have p2:=λob=>d (wr.alloc ob) (a.trans (ae.alloc _ _)) 2 _ rfl;have p3:=λob=>d (wr.alloc ob) (a.trans (ae.alloc _ _)) 3 _ rfl;have p4:=λob=>d (wr.alloc ob) (a.trans (ae.alloc _ _)) 4 _ rfl;have p5:=λob=>d (wr.alloc ob) (a.trans (ae.alloc _ _)) 5 _ rfl;have p6:=λob=>d (wr.alloc ob) (a.trans (ae.alloc _ _)) 6 _ rfl;have p7:=λob=>d (wr.alloc ob) (a.trans (ae.alloc _ _)) 7 _ rfl;have p8:=λob=>d (wr.alloc ob) (a.trans (ae.alloc _ _)) 8 _ rfl;have p9:=λob=>d (wr.alloc ob) (a.trans (ae.alloc _ _)) 9 _ rfl;have al:=λob=>d (wr.alloc ob) (a.trans (ae.alloc _ _)) 10 _ rfl;have V:=λob=>cL k E (wr.alloc ob) (ae.trans n.out (a.trans (ae.alloc _ _)));have HT:Hid _:=ym (lP c c.marks[j] c.kin[j]) c.rules k E;obtain⟨r,M⟩:=ex (lP c c.marks[j] c.kin[j] c.rules[k]);rw[<-M]at HT V;obtain⟨lv,W⟩:=ex (bD c.table c.rules[k].kind c.new c.marks[j]);rw[<-W]at V;obtain⟨u,z,A⟩:=r;unfold BG at V;have B:w2.heap.size<=wr.heap.size:=g.size;have HZ:Hid _:=B;clear M cL d a g gr B W hF D;go_upto_region 9 with(first|(go_at_call 84;refine(V _).mono ?_;rintro e w3 ⟨rfl,F⟩))
   have ba:=HW.out.2.alloc HZ.out (.cells #[.int .i64 c.rules[k].kind,.int .i64 c.rules[k].least,.int .i64 c.rules[k].plain,.int .i64 c.rules[k].known] 69);have b3:=ba.trans (F.mono ba.size);have Y:=b3.alloc b3.size (.cells #[.int .i64 u,.int .i64 z,.int .i64 A] 86);have s4:ae wr (w3.alloc (.cells #[.int .i64 u,.int .i64 z,.int .i64 A] 86)):=(ae.alloc wr _).trans ((ae.below F).trans (ae.alloc _ _));obtain⟨G,l⟩:=ex (w3.alloc (.cells #[.int .i64 u,.int .i64 z,.int .i64 A] 86));have z0:G.cell? ⟨w3.heap.size,0,none⟩=some (.int .i64 u):=by rw[l];exact aw w3 _ 86 0 _ rfl
   have z1:G.cell? ⟨w3.heap.size,1,none⟩=some (.int .i64 z):=by rw[l];exact aw w3 _ 86 1 _ rfl
   have z2:G.cell? ⟨w3.heap.size,2,none⟩=some (.int .i64 A):=by rw[l];exact aw w3 _ 86 2 _ rfl
   rw[<-l]at Y s4;rw[<-l];have b6:=Y.alloc Y.size (.cells #[.int .i64 u,.int .i64 z,.int .i64 A] 86);have s6:=s4.trans (ae.alloc G (.cells #[.int .i64 u,.int .i64 z,.int .i64 A] 86));have hO:=fN HF.out s6;have hS:Src (G.alloc (.cells #[.int .i64 u,.int .i64 z,.int .i64 A] 86)) 3 (some ⟨G.heap.size,0,none⟩) 1 [.int .i64 u,.int .i64 z,.int .i64 A]:=zY (e:=86) (f:=(0,0)) Sd;have H:Hid _:=(⟨hO,hS,b6,HW.out.1.trans s6⟩:_/\_/\_/\_)
   clear l Y s4 b6 s6 hO hS ba b3 F p0 p1 p2 p3 p4 p5 p6 p7 p8 p9 al y0 y1 y2 y3 V;go_wp2_with (first|(at_builtin;refine eU (P:=Qs fs) (.tmp 42) (.tmp 44) 76 (by rfl) w2.heap.size 86 i0 _ 3 24 Tryz.underlying76 hi S T U rfl (by decide) X k _ (by rfl) H.out.1 (some ⟨G.heap.size,0,none⟩) 1 1 _ (by rfl) H.out.2.1 qT (by simp only[maxLen];omega) (by omega) H.out.2.2.1.size (by rfl) ?_;intro v7 w7 an ao aM))
   have ax:=H.out.2.2.1.grown ao H.out.2.2.1.size (dP H.out.1);refine⟨⟨k+1,v7,by omega,by go_num,rfl,?_,ax⟩,by simp[intOf];omega⟩;unfold jE;rw[HT.out,A9];exact an
  ·clear gr d cL D
   have ay:k=c.rules.length:=by omega
   subst ay;clear a g hF;go_wp2
   go_ret2
   have h:=HF.out;refine⟨_,rfl,?_,t.out.2.trans (HW.out.2.mono t.out.2.size)⟩;rw[Uh (by unfold jE;rw[SJ];exact Rq _)]at h;have hl:(jE c c.marks[j] c.kin[j]).length=c.rules.length:=by unfold jE;rw[SJ]
   rw[hl];exact rO h t.out.2.size
def Bb(w:World):List Obj->World
 | []=>w
 |o::os=>Bb (w.alloc o) os
theorem mX:∀(os) (w) (B),B<=w.heap.size->Below B w (Bb w os)
 | [],w,B,_=>Below.refl _ _
 |o::os,w,B,h=>((Below.refl B w).alloc h o).trans (mX os (w.alloc o) B (by simp;omega))
theorem xo:∀(os) (w) (k),k<os.length->(Bb w os).heap[w.heap.size+k]? =os[k]?
 |o::os,w,0,_=>by show(Bb (w.alloc o) os).heap[w.heap.size+0]? =some o;rw[(mX os (w.alloc o) (w.heap.size+1) (by simp)).block _ (by omega)];exact Sd
 |o::os,w,k+1,h=>by have:=xo os (w.alloc o) k (by simpa using h);rw[show(w.alloc o).heap.size=w.heap.size+1 by simp]at this;rw[show w.heap.size+(k+1)=w.heap.size+1+k by omega];exact this
def O0(N:Nat):Array Value:=#[.slice (some ⟨N+1,0,none⟩) 5 5,.slice (some ⟨N+1+1+1,0,none⟩) 1 1,.slice (some ⟨N+1+1+1+1+1,0,none⟩) 1 1,.slice (some ⟨N+1+1+1+1+1+1,0,none⟩) 3 3,.string ⟨#[110,111,118,97]⟩,.string ⟨#[207,129,206,191,206,182,206,177]⟩,.slice none 0 0,.int .i64 9,.bool false,.slice (some ⟨N+1+1+1+1+1+1+1,0,none⟩) 4 4,.slice (some ⟨N+1+1+1+1+1+1+1+1,0,none⟩) 4 4]
def Gc(N:Nat):List Obj:=[.cells #[.slice (some ⟨N+1,0,none⟩) 5 5,.slice (some ⟨N+1+1+1,0,none⟩) 1 1,.slice (some ⟨N+1+1+1+1+1,0,none⟩) 1 1,.slice (some ⟨N+1+1+1+1+1+1,0,none⟩) 3 3,.string ⟨#[110,111,118,97]⟩,.string ⟨#[207,129,206,191,206,182,206,177]⟩,.slice none 0 0,.int .i64 9,.bool false,.slice (some ⟨N+1+1+1+1+1+1+1,0,none⟩) 4 4,.slice (some ⟨N+1+1+1+1+1+1+1+1,0,none⟩) 4 4] 60,
 .cells #[.string ⟨#[207,129]⟩,.string ⟨#[114]⟩,.string ⟨#[206,191]⟩,.string ⟨#[111]⟩,.string ⟨#[206,182]⟩,.string ⟨#[122]⟩,.string ⟨#[206,177]⟩,.string ⟨#[97]⟩,.string ⟨#[206,178]⟩,.string ⟨#[118]⟩] 46,
 .cells #[.string ⟨#[122]⟩,.string ⟨#[115]⟩,.string ⟨#[104]⟩,.string ⟨#[]⟩] 51,
 .cells #[.string ⟨#[105,116]⟩,.slice (some ⟨N+1+1,0,none⟩) 2 2] 50,
 .cells #[.string ⟨#[114,111,122,97]⟩,.string ⟨#[114,111,115,101]⟩] 9,
 .cells #[.slice (some ⟨N+1+1+1+1,0,none⟩) 2 2] 92,
 .cells #[.int .i64 1,.int .i64 90,.int .i64 3,.int .i64 1,.int .i64 2,.int .i64 100,.int .i64 5,.int .i64 2,.int .i64 3,.int .i64 70,.int .i64 6,.int .i64 6] 69,
 .cells #[.string ⟨#[97,108,98,97]⟩,.string ⟨#[114,111,115,97]⟩,.slice none 0 0,.int .i64 1,.bool false,.string ⟨#[98,101,108,97]⟩,.string ⟨#[114,111,115,101]⟩,.slice none 0 0,.int .i64 3,.bool false,.string ⟨#[99,111,114,97]⟩,.string ⟨#[97,115,111,114]⟩,.slice none 0 0,.int .i64 2,.bool false,.string ⟨#[100,111,114,97]⟩,.string ⟨#[114,104,111,115,97]⟩,.slice none 0 0,.int .i64 9,.bool false] 38,
 .cells #[.int .i64 4,.int .i64 5,.int .i64 3,.int .i64 9] 3]
def lK{c:Type}{d:Nat}{E:(Nat->Prop)->World->Nat->Nat->c->Prop}{W:World}{b:Nat}{cs:Array Value}{e:TypeId}{F:Nat×Nat}{l:List c}{n:Nat}(h:W.heap[b]? =some (.cells cs e F))(g:n=l.length)(m:n<=1000)(i:∀k (f:k<l.length),E (λ_=>True) W b (k*d) l[k]):
 aB (λ_=>True) d E W (.slice (some ⟨b,0,none⟩) n n) l:=by
 subst g;refine⟨some ⟨b,0,none⟩,l.length,rfl,Rq _,by omega,λa j=>?_,λk f=>⟨b,0,rfl,by rw[RB];exact i k f⟩⟩;cases j;exact⟨rfl,trivial,cs,e,F,h⟩
def rR{b c E W}:aB (λ_=>True) c E W (.slice none 0 0) ([]:List b):=⟨none,0,rfl,Rq _,by omega,λa d=>by(cases d),λk e=>by(cases e)⟩
def Jl{W:World}{N}(h:∀k,k<9->W.heap[N+k]? =(Gc N)[k]?):bl (λ_=>True) W (O0 N) exC:=by
 have d:W.heap[N+1]? =_:=h 1 (by decide);have e:W.heap[N+2]? =_:=h 2 (by decide);have g:W.heap[N+3]? =_:=h 3 (by decide);have i:W.heap[N+4]? =_:=h 4 (by decide);have j:W.heap[N+5]? =_:=h 5 (by decide);have c:W.heap[N+6]? =_:=h 6 (by decide);have b:W.heap[N+7]? =_:=h 7 (by decide);have f:W.heap[N+8]? =_:=h 8 (by decide);refine⟨_,_,_,_,_,_,_,rfl,⟨lK d rfl (by decide) ?_,lK g rfl (by decide) ?_,lK j rfl (by decide) ?_⟩,lK c rfl (by decide) ?_,rR,lK b rfl (by decide) ?_,lK f rfl (by decide) ?_⟩
 ·intro k a
  have a:k<5:=a
  match k,a with
  |0,_=>exact⟨cell_of_heap d _ _ rfl,cell_of_heap d _ _ rfl⟩
  |1,_=>exact⟨cell_of_heap d _ _ rfl,cell_of_heap d _ _ rfl⟩
  |2,_=>exact⟨cell_of_heap d _ _ rfl,cell_of_heap d _ _ rfl⟩
  |3,_=>exact⟨cell_of_heap d _ _ rfl,cell_of_heap d _ _ rfl⟩
  |4,_=>exact⟨cell_of_heap d _ _ rfl,cell_of_heap d _ _ rfl⟩
 ·intro k a
  have a:k<1:=a
  match k,a with
  |0,_=>
   refine⟨cell_of_heap g _ _ rfl,_,cell_of_heap g _ _ rfl,lK e rfl (by decide) ?_⟩;intro k a;have a:k<2:=a
   match k,a with
   |0,_=>exact⟨cell_of_heap e _ _ rfl,cell_of_heap e _ _ rfl⟩
   |1,_=>exact⟨cell_of_heap e _ _ rfl,cell_of_heap e _ _ rfl⟩
 ·intro k a
  have a:k<1:=a
  match k,a with
  |0,_=>
   refine⟨_,cell_of_heap j _ _ rfl,lK i rfl (by decide) ?_⟩;intro k a;have a:k<2:=a
   match k,a with
   |0,_=>exact cell_of_heap i _ _ rfl
   |1,_=>exact cell_of_heap i _ _ rfl
 ·intro k a
  have a:k<3:=a
  match k,a with
  |0,_=>exact⟨cell_of_heap c _ _ rfl,cell_of_heap c _ _ rfl,cell_of_heap c _ _ rfl,cell_of_heap c _ _ rfl⟩
  |1,_=>exact⟨cell_of_heap c _ _ rfl,cell_of_heap c _ _ rfl,cell_of_heap c _ _ rfl,cell_of_heap c _ _ rfl⟩
  |2,_=>exact⟨cell_of_heap c _ _ rfl,cell_of_heap c _ _ rfl,cell_of_heap c _ _ rfl,cell_of_heap c _ _ rfl⟩
 ·intro k a
  have a:k<4:=a
  match k,a with
  |0,_=>exact⟨cell_of_heap b _ _ rfl,cell_of_heap b _ _ rfl,⟨_,cell_of_heap b _ _ rfl,rR⟩,cell_of_heap b _ _ rfl,cell_of_heap b _ _ rfl⟩
  |1,_=>exact⟨cell_of_heap b _ _ rfl,cell_of_heap b _ _ rfl,⟨_,cell_of_heap b _ _ rfl,rR⟩,cell_of_heap b _ _ rfl,cell_of_heap b _ _ rfl⟩
  |2,_=>exact⟨cell_of_heap b _ _ rfl,cell_of_heap b _ _ rfl,⟨_,cell_of_heap b _ _ rfl,rR⟩,cell_of_heap b _ _ rfl,cell_of_heap b _ _ rfl⟩
  |3,_=>exact⟨cell_of_heap b _ _ rfl,cell_of_heap b _ _ rfl,⟨_,cell_of_heap b _ _ rfl,rR⟩,cell_of_heap b _ _ rfl,cell_of_heap b _ _ rfl⟩
 ·intro k a
  have a:k<4:=a
  match k,a with
  |0,_=>exact cell_of_heap f _ _ rfl
  |1,_=>exact cell_of_heap f _ _ rfl
  |2,_=>exact cell_of_heap f _ _ rfl
  |3,_=>exact cell_of_heap f _ _ rfl
def Jm(w:World):Calls (Qs fs) 50 #[] w λe w'=>∃sc,e=.returned (.agg sc)/\bl (λ_=>True) w' sc exC/\Below w.heap.size w w':=by go_enter (n50 L),Tryz.ntmps50;go_wp2;have a:=mX (Gc w.heap.size) w w.heap.size (Rq _);have b:=λk (c:k<9)=>xo (Gc w.heap.size) w k c;exact bodyPost_ret (v:=.agg (O0 w.heap.size)) (by simp[results,Tryz.results50,go_sem, *];rfl) rfl ⟨O0 w.heap.size,rfl,Jl b,a⟩
def Ge(fs:Array Func)(k:Nat)(one two:Mark):Prop:=∀(K:Nat->Prop) (v0 v1 v2:Value) (t:Table) (m1 m2:Array Value) (w:World),IsTable K w v0 v1 v2 t->OkT t->dg K w m1 one->dg K w m2 two->OkM one->OkM two->gZ w->Calls (Qs fs) (eC k) #[.agg #[v0,v1,v2],.agg m1,.agg m2] w λe w'=>e=.returned (.int .i64 (bD t k one two))/\Below w.heap.size w w'
def ic.at{fs k}(h:ic fs k)(one two):Ge fs k one two:=λK v0 v1 v2 t m1 m2 w=>h K v0 v1 v2 t m1 m2 one two w
def D6(w:World):Calls (Qs fs) 51 #[.slice (some ⟨w.heap.size,0,none⟩) 4 4] (w.alloc (.cells #[.int .i64 0,.int .i64 0,.int .i64 0,.int .i64 0] 29)) λe w'=>e=.returned (.int .i64 0)/\w'=w.alloc (.cells #[.int .i64 0,.int .i64 0,.int .i64 0,.int .i64 0] 29):=by
 have h:=uL L w.heap.size 0 4 [0,0,0,0] (w.alloc (.cells #[.int .i64 0,.int .i64 0,.int .i64 0,.int .i64 0] 29)) (by show 4<=_;decide) (λk a=>by
  rw[RB]
  match k,a with
  |0,_=>exact aw w _ 29 0 _ rfl
  |1,_=>exact aw w _ 29 1 _ rfl
  |2,_=>exact aw w _ 29 2 _ rfl
  |3,_=>exact aw w _ 29 3 _ rfl)
 exact h
def Bd{K:Nat->Prop}{v0 v1 v2:Value}{t:Table}{m1 m2:Array Value}{one two:Mark}(k:Nat)(w:World)(X:k<6)(s:Ge fs k one two)(J:IsTable K w v0 v1 v2 t)(Y:OkT t)(Z:kg t=0)
 (h1:dg K w m1 one) (h2:dg K w m2 two) (o1:OkM one) (o2:OkM two) (f1:eT one=0) (f2:eT two=0) (hm:gZ w) (u:ia w):
 Calls (Qs fs) 25 #[.agg #[v0,v1,v2],.int .i64 k,.agg m1,.agg m2] w λe w'=>e=.returned (.tuple #[.int .i64 (bD t k one two),.int .i64 0])/\Below w.heap.size w w':=by
 have e20:=e20 L;have e51:=e51 L;have e52:=e52 L;have e66:=e66 L;have e67:=e67 L;have ek:=Kk L k X;obtain⟨G,rfl,M⟩:=id h1;obtain⟨H,rfl,N⟩:=id h2;obtain⟨w1,m⟩:=ex (((w.alloc (.cells #[v0,v1,v2] 26)).alloc (.cells #[.string one.name,.string one.word,G,.int .i64 one.day,.bool one.known] 38)).alloc (.cells #[.string two.name,.string two.word,H,.int .i64 two.day,.bool two.known] 38));obtain⟨d,B1,O,P,Q⟩:=iK w _ _ _ _ _ _ w1 m;obtain⟨N0,n⟩:=ex (w.heap.size);obtain⟨N1,o⟩:=ex (w.heap.size+1);obtain⟨N2,p⟩:=ex (w.heap.size+1+1);rw[<-n]at O;rw[<-o]at P;rw[<-p]at Q;have la:=λg (z:ae w1 g) i v h=>z.cell (O i v h);have lb:=λg (z:ae w1 g) i v h=>z.cell (P i v h);have b:=λg (z:ae w1 g) i v h=>z.cell (Q i v h);have A:∀x:aj w w1,Calls (Qs fs) 20 #[.agg #[v0,v1,v2]] x.val λe w'=>e=.returned (.int .i64 0)/\∃y:aj w w1,w'=y.val:=λx=>by have h:=jN L x.val (J.stays (d.trans x.st));rw[Z]at h;exact aj.calls h
 have R:au (k:Int) 0 5=true:=by unfold au;rw[RE (by omega),RE (by omega)];rfl
 have B:∀x:aj w w1,Calls (Qs fs) 66 #[.int .i64 k] x.val λe w'=>e=.returned (.bool true)/\∃y:aj w w1,w'=y.val:=λx=>by have h:=Cr L k x.val;rw[R]at h;exact aj.same h
 have C:∀x:aj w w1,Calls (Qs fs) 52 #[.bool false,.int .i64 1] x.val λe w'=>e=.returned (.int .i64 0)/\∃y:aj w w1,w'=y.val:=λx=>aj.same (dm L false 1 x.val);have j:∀x:aj w w1,Calls (Qs fs) 67 #[.agg #[.string one.name,.string one.word,G,.int .i64 one.day,.bool one.known]] x.val λe w'=>e=.returned (.int .i64 0)/\∃y:aj w w1,w'=y.val:=λx=>by have h:=kN L x.val (⟨G,rfl,M.ints (d.trans x.st)⟩:dg K x.val _ one);rw[f1]at h;exact aj.calls h
 have l:∀x:aj w w1,Calls (Qs fs) 67 #[.agg #[.string two.name,.string two.word,H,.int .i64 two.day,.bool two.known]] x.val λe w'=>e=.returned (.int .i64 0)/\∃y:aj w w1,w'=y.val:=λx=>by have h:=kN L x.val (⟨H,rfl,N.ints (d.trans x.st)⟩:dg K x.val _ two);rw[f2]at h;exact aj.calls h
 have D:=λr=>D6 L r;have I:=λr (h:ae w1 r)=>s K v0 v1 v2 t _ _ r (J.stays (d.trans h)) Y ⟨G,rfl,M.ints (d.trans h)⟩ ⟨H,rfl,N.ints (d.trans h)⟩ o1 o2 (hm.stays (d.trans h));have c:=λr (h:ae w1 r)=>(u.stays (d.trans h)) k X;obtain⟨F,hF⟩:=ex (eC k);rw[<-hF]at I c ek;obtain⟨lv,E⟩:=ex (bD t k one two);rw[<-E]at I⊢;have HB:Hid _:=B1;have S:=λx:aj w w1=>la x.val x.st 0 _ rfl;have a1:=λx:aj w w1=>la x.val x.st 1 _ rfl;have T:=λx:aj w w1=>la x.val x.st 2 _ rfl;have b0:=λx:aj w w1=>lb x.val x.st 0 _ rfl;have b1:=λx:aj w w1=>lb x.val x.st 1 _ rfl;have b2:=λx:aj w w1=>lb x.val x.st 2 _ rfl;have U:=λx:aj w w1=>lb x.val x.st 3 _ rfl;have V:=λx:aj w w1=>lb x.val x.st 4 _ rfl;have d0:=λx:aj w w1=>b x.val x.st 0 _ rfl;have d1:=λx:aj w w1=>b x.val x.st 1 _ rfl;have d2:=λx:aj w w1=>b x.val x.st 2 _ rfl;have d3:=λx:aj w w1=>b x.val x.st 3 _ rfl;have d4:=λx:aj w w1=>b x.val x.st 4 _ rfl;have aa:(k:Int)<6:=by omega
 clear J Y Z h1 h2 o1 o2 f1 f2 hm u M N d B1 O P Q E hF s;go_enter (n25 L),Tryz.ntmps25;go_upto_region 1 with fail;rw[<-m,<-p,<-o,<-n];clear m n o p;refine aT (w0:=w) (w1:=w1) 10 (by kernel_rfl) (by kernel_rfl) (ae.refl _) HB.out ?_;simp only[R7,Si,Sk,Sj];haveI q:Nonempty (aj w w1):=⟨⟨w1,ae.refl _,HB.out⟩⟩
 repeat (go_big_quiet_step (first|(go_at_call 20;exact A _)|(go_at_call 66;exact B _)|(go_at_call 52;exact C _)|(go_at_call 67;first|exact j _|exact l _)))
 refine wpQuiet_nil ?_;rintro g ⟨⟨_,Sy,W⟩,rfl⟩;obtain⟨w2,f⟩:=ex (g.alloc (.cells #[.int .i64 0,.int .i64 0,.int .i64 0,.int .i64 0] 29));have S2:ae w1 w2:=by rw[f];exact Sy.trans (ae.alloc g _)
 have B2:Below w.heap.size w w2:=by rw[f];exact W.alloc W.size _
 have a:Hid _:=(⟨S2,B2⟩:_/\_)
 clear A B C j l S a1 T b0 b1 b2 U V d0 d1 d2 d3 d4 q Sy W S2 B2;go_upto_region 4 with(first|(go_at_call 51;refine(D _).mono ?_;rintro e w4 ⟨rfl,rfl⟩;rw[<-f];clear f))
 have S:=λx:aj w w2=>la x.val (ae.trans a.out.1 x.st) 0 _ rfl;have a1:=λx:aj w w2=>la x.val (ae.trans a.out.1 x.st) 1 _ rfl;have T:=λx:aj w w2=>la x.val (ae.trans a.out.1 x.st) 2 _ rfl;have b0:=λx:aj w w2=>lb x.val (ae.trans a.out.1 x.st) 0 _ rfl;have b1:=λx:aj w w2=>lb x.val (ae.trans a.out.1 x.st) 1 _ rfl;have b2:=λx:aj w w2=>lb x.val (ae.trans a.out.1 x.st) 2 _ rfl;have U:=λx:aj w w2=>lb x.val (ae.trans a.out.1 x.st) 3 _ rfl;have V:=λx:aj w w2=>lb x.val (ae.trans a.out.1 x.st) 4 _ rfl;have d0:=λx:aj w w2=>b x.val (ae.trans a.out.1 x.st) 0 _ rfl;have d1:=λx:aj w w2=>b x.val (ae.trans a.out.1 x.st) 1 _ rfl;have d2:=λx:aj w w2=>b x.val (ae.trans a.out.1 x.st) 2 _ rfl;have d3:=λx:aj w w2=>b x.val (ae.trans a.out.1 x.st) 3 _ rfl;have d4:=λx:aj w w2=>b x.val (ae.trans a.out.1 x.st) 4 _ rfl;have kk:=λx:aj w w2=>c x.val (ae.trans a.out.1 x.st);have qL:=λx:aj w w2=>aj.calls (I x.val (ae.trans a.out.1 x.st));clear la lb b c I D;refine bh (w0:=w) (w1:=w2) (by kernel_rfl) (by kernel_rfl) (ae.refl _) a.out.2 ?_;haveI q:Nonempty (aj w w2):=⟨⟨w2,ae.refl _,a.out.2⟩⟩
 repeat (go_big_quiet_step (first|(go_at_fn F;exact qL _)))
 refine wpQuiet_nil ?_;rintro wz ⟨⟨_,Sz,Bz⟩,rfl⟩;clear S a1 T b0 b1 b2 U V d0 d1 d2 d3 d4 kk qL q;go_wp2
 go_ret2
 exact⟨rfl,Bz⟩
def Bf(t one two):bD t 5 one two=bS one.aW two.aW:=rfl
def NI{K:Nat->Prop}{v0 v1 v2:Value}{m1 m2:Array Value}{one two:Mark}(w:World)(b:dg K w m1 one)(c:dg K w m2 two)(d:OkM one)(f:OkM two)(h:one.aW.Nodup)(i:two.aW.Nodup):
 Calls (Qs fs) 240 #[.agg #[v0,v1,v2],.agg m1,.agg m2] w λe w'=>e=.returned (.int .i64 (bS one.aW two.aW))/\Below w.heap.size w w':=by
 have P0:=P0 L;obtain⟨s,rfl,j⟩:=b;obtain⟨t,rfl,k⟩:=c;obtain⟨w1,a⟩:=ex (((w.alloc (.cells #[v0,v1,v2] 100)).alloc (.cells #[.string one.name,.string one.word,s,.int .i64 one.day,.bool one.known] 38)).alloc (.cells #[.string two.name,.string two.word,t,.int .i64 two.day,.bool two.known] 38));obtain⟨g,l,ct,m,n⟩:=iK w _ _ _ _ _ _ w1 a;have a1:=m 2 _ rfl;have b1:=n 2 _ rfl;obtain⟨N0,o⟩:=ex (w.heap.size);obtain⟨v,b⟩:=ex (w.heap.size+1);obtain⟨x,c⟩:=ex (w.heap.size+1+1);rw[<-c]at b1;rw[<-b]at a1;have q:=NH L w1 (j.ints g) (k.ints g) d.fig f.fig d.code f.code h i;have p:Hid (Below w.heap.size w w1):=l;obtain⟨z,r⟩:=ex (bS one.aW two.aW);rw[<-r]at q⊢;clear j k d f h i g l ct m n r;go_enter (n240 L),Tryz.ntmps240;go_upto_region 1 with fail;rw[<-a,<-c,<-b,<-o];clear a o b c;go_wp2_with (first|(go_at_call 241;refine q.mono ?_;rintro e w2 ⟨rfl,u⟩))
 go_ret;exact⟨rfl,p.out.trans (u.mono p.out.size)⟩
def O6{one two:Mark}(a:one.aW.Nodup)(b:two.aW.Nodup):Ge fs 5 one two:=λK v0 v1 v2 t m1 m2 w g i c d e f j=>by have h:=NI L (v0:=v0) (v1:=v1) (v2:=v2) w c d e f a b;rw[show eC 5=240 from rfl,show((5:Nat):Int)=5 from rfl,Bf];exact h
def rW(a b c d:Int)(w:World):Calls (Qs fs) 51 #[.slice (some ⟨w.heap.size,0,none⟩) 4 4] (w.alloc (.cells #[.int .i64 a,.int .i64 b,.int .i64 c,.int .i64 d] 29)) λe w'=>e=.returned (.int .i64 (dX [a,b,c,d]))/\w'=w.alloc (.cells #[.int .i64 a,.int .i64 b,.int .i64 c,.int .i64 d] 29):=
 uL L w.heap.size 0 4 [a,b,c,d] (w.alloc (.cells #[.int .i64 a,.int .i64 b,.int .i64 c,.int .i64 d] 29)) (by show 4<=_;decide) (λk f=>by
  rw[RB]
  match k,f with
  |0,_=>exact aw w _ 29 0 _ rfl
  |1,_=>exact aw w _ 29 1 _ rfl
  |2,_=>exact aw w _ 29 2 _ rfl
  |3,_=>exact aw w _ 29 3 _ rfl)
def oT(a b c d):dX [if(!a)=true then 1 else 0,if(!b)=true then 6 else 0,if c=true then 3 else 0,if d=true then 7 else 0]=if(!a)=true then 1 else if(!b)=true then 6 else if c=true then 3 else if d=true then 7 else 0:=by cases a<;>cases b<;>cases c<;>cases d<;>rfl
def oU(k c p n i):∃(D:Int) (o:Bool) (d:Int) (a:Bool),zE k=D/\kB k=o/\
 (if(!au k 0 2)=true then 1 else if(!au p 0 (kA n k))=true then 6 else if mW k c=true then 3 else if i=true then 7 else 0:Int)=(if(!o)=true then 1 else if(!au p 0 d)=true then 6 else if a=true then 3 else if i=true then 7 else 0)/\
 (D=0/\o=false/\d=n/\(a=true/\(c !=0)=true\/a=false/\(c !=0)=false)\/D=1/\o=true/\d=n/\a=(!(decide (97<=c)&&decide (c<=122)))\/
  D=2/\o=true/\d=(n)-1/\(a=true/\(c !=0)=true\/a=false/\(c !=0)=false)\/D=3/\o=true/\d=(n:Int)-1/\a=(!(decide (97<=c)&&decide (c<=122)))):=by
 have b:∀q,mW q c=if q=1 then(c !=0)else !(decide (97<=c)&&decide (c<=122)):=λq=>by
  unfold mW;show((q==1)&&(c !=0)||(q !=1)&& !(decide (97<=c)&&decide (c<=122)))=_;by_cases h:q=1
  ·subst h;cases(c !=0)<;>simp
  ·have j:(q==1)=false:=by simpa using h
   have l:(q !=1)=true:=by simpa using h
   rw[j,l,Ro h];simp
 have e:∀z:Bool,(z=true/\z=true\/z=false/\z=false):=λz=>by cases z<;>simp
 have e:=e (c !=0);cases f:kB k with
 |false=>have g:au k 0 2=false:=f;exact⟨0,false,n,c !=0,pI f,rfl,by rw[g];rfl,.inl ⟨rfl,rfl,rfl,e⟩⟩
 |true=>
  have m:k=0\/k=1\/k=2:=by unfold kB au at f;rw[RD,RJ,RJ]at f;omega
  obtain rfl|rfl|rfl:=m
  ·exact⟨1,true,_,_,rfl,rfl,by rw[b,Ro (by decide)];rfl,.inr (.inl ⟨rfl,rfl,rfl,rfl⟩)⟩
  ·exact⟨2,true,_,_,rfl,rfl,by rw[b,Rp rfl,show kA n 1=(n:Int)-1 by unfold kA;rw[Ro (by decide)]];rfl,.inr (.inr (.inl ⟨rfl,rfl,rfl,e⟩))⟩
  ·exact⟨3,true,_,_,rfl,rfl,by rw[b,Ro (by decide),show kA n 2=(n:Int)-1 by unfold kA;rw[Ro (by decide)]];rfl,.inr (.inr (.inr ⟨rfl,rfl,rfl,rfl⟩))⟩
end Go.Proofs

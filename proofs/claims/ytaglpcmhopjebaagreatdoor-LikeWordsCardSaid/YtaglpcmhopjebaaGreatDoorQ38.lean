import Derived.Test.YtaglpcmhopjebaaGreatDoorQ35
import Derived.Test.YtaglpcmhopjebaaGreatDoorQ37
set_option linter.all false
set_option maxRecDepth 100000
set_option maxHeartbeats 20000000
namespace Go.Proofs
open Go.Tm Go.RowKit
variable {fs:Array Func} (L:bU fs)
def jG(c:Case)(m:Mark)(kin:Int):List BR:=c.rules.map (lV c m kin)
def xq(l:List BR):List Go.Value:=l.flatMap λx=>[.int .i64 x.days,.int .i64 x.level,.int .i64 x.kin]
def Bv(a b):xq (a++b)=xq a++xq b:=by unfold xq;rw[Uy]
def Py:((Tryz.prog).info? 86).map (λi=>(i.zero,i.size,i.bytes))=some (some (.agg #[.int .i64 0,.int .i64 0,.int .i64 0]),3,24):=by kernel_rfl
def My(fs):((Qs fs).info? 86).map (λi=>(i.zero,i.size,i.bytes))=some (some (.agg #[.int .i64 0,.int .i64 0,.int .i64 0]),3,24):=Py
def yx{a b:Type}(f:a->b)(l:List a)(k)(c:k<l.length):(l.map f).take (k+1)=(l.map f).take k++[f l[k]]:=by rw[List.take_add_one,TK,SK c];rfl
def Hy{K:Nat->Prop}{sc:Array Value}{c:Case}(j:Nat)(w:World)(Z:bI K w sc c)(ok:OkC c)(h0:pd c=0)(hj:j<c.marks.length)(aa:j<c.kin.length)(I:uP fs c)(hm:gJ w)(J:hU w):
 Calls (Qs fs) 38 #[.agg sc,.int .i64 j] w λe w'=>∃v,e=.returned (.tuple #[v,.int .i64 0])/\w'.ownsRow w.heap.size 86 3 v (jG c c.marks[j] c.kin[j]).length (xq (jG c c.marks[j] c.kin[j]))/\Below w.heap.size w w':=by
 have e37:=e37 L;have e51:=e51 L;have e52:=e52 L;have e63:=e63 L;have e84:=e84 L;have a6:=ok.sq;have a7:=ok.EZ;have cC:=λp (C:ae w p)=>uc L p (Z.stays C);rw[h0]at cC;have cL:=λk (hk:k<c.rules.length) p (C:ae w p)=>Lf L j k p (Z.stays C) ok hj hk aa (I _ (Sg hk)) (hm.stays C) (J.stays C);obtain⟨v0,v1,v2,vr,vf,vm,vk,rfl,ht,M,hf,ab,ad⟩:=Z;obtain⟨ar,cr,rfl,_,_,_,gr⟩:=id M;obtain⟨am,cm,rfl,_⟩:=ab;obtain⟨w1,m⟩:=ex (w.alloc (.cells #[v0,v1,v2,.slice ar c.rules.length cr,.string c.new.name,.string c.new.word,vf,.int .i64 c.new.day,.bool c.new.known,.slice am c.marks.length cm,vk] 60));have S1:ae w w1:=by rw[m];exact ae.alloc _ _
 have B1:Below w.heap.size w w1:=by rw[m];exact aG _ _
 have ct:∀i v,(#[v0,v1,v2,.slice ar c.rules.length cr,.string c.new.name,.string c.new.word,vf,.int .i64 c.new.day,.bool c.new.known,.slice am c.marks.length cm,vk]:Array Value)[i]? =some v->w1.cell? ⟨w.heap.size,i,none⟩=some v:=λi v h=>by rw[m];exact aw w _ 60 i v h
 have af:(decide ((0:Int)<=(j:Int))&&decide ((j:Int)<=(c.marks.length:Int)-1))=true:=by rw[Sd (by omega),Sd (by omega)];rfl
 have a8:IntKind.i64.wrap ((c.marks.length:Int)-1)=(c.marks.length:Int)-1:=wrap_i64 _ (by omega);obtain⟨N,hN⟩:=ex (w.heap.size);have d:=λp (C:ae w1 p) i v h=>C.cell (ct i v h);rw[<-hN]at d;have O:∀x:aj w w1,Calls (Qs fs) 37 #[.agg #[v0,v1,v2,.slice ar c.rules.length cr,.string c.new.name,.string c.new.word,vf,.int .i64 c.new.day,.bool c.new.known,.slice am c.marks.length cm,vk]] x.val λe w'=>e=.returned (.int .i64 0)/\∃y:aj w w1,w'=y.val:=λx=>aj.calls (cC x.val (S1.trans x.st));have Q:∀x:aj w w1,Calls (Qs fs) 63 #[.int .i64 j,.int .i64 0,.int .i64 ((c.marks.length:Int)-1)] x.val λe w'=>e=.returned (.bool true)/\∃y:aj w w1,w'=y.val:=λx=>by have h:=dv fs (n63 L) j 0 ((c.marks.length:Int)-1) x.val;rw[af]at h;exact aj.same h
 have R:∀x:aj w w1,Calls (Qs fs) 52 #[.bool false,.int .i64 6] x.val λe w'=>e=.returned (.int .i64 0)/\∃y:aj w w1,w'=y.val:=λx=>aj.same (dz L false 6 x.val);have D:=λwx=>cJ L 0 0 wx;have l0:=λx:aj w w1=>d x.val x.st 0 _ rfl;have l1:=λx:aj w w1=>d x.val x.st 1 _ rfl;have l2:=λx:aj w w1=>d x.val x.st 2 _ rfl;have l3:=λx:aj w w1=>d x.val x.st 3 _ rfl;have l4:=λx:aj w w1=>d x.val x.st 4 _ rfl;have l5:=λx:aj w w1=>d x.val x.st 5 _ rfl;have l6:=λx:aj w w1=>d x.val x.st 6 _ rfl;have l7:=λx:aj w w1=>d x.val x.st 7 _ rfl;have l8:=λx:aj w w1=>d x.val x.st 8 _ rfl;have l9:=λx:aj w w1=>d x.val x.st 9 _ rfl;have ag:=λx:aj w w1=>d x.val x.st 10 _ rfl;have HB:Hid _:=B1;have n:Hid _:=S1;obtain⟨i0,hi,S,T,U⟩:=info_parts (My fs);clear ht hf ad M ct B1 S1 h0 I hm J cC;go_enter (n38 L),Tryz.ntmps38;go_upto_region 1 with fail;rw[<-m,<-hN];clear m hN;refine aU (w0:=w) (w1:=w1) 10 (by kernel_rfl) (by kernel_rfl) (ae.refl _) HB.out ?_;simp only[SN,SI,SZ,SP];haveI ak:Nonempty (aj w w1):=⟨⟨w1,ae.refl _,HB.out⟩⟩
 repeat (go_big_quiet_step (first|(go_at_call 37;exact O _)|(go_at_call 63;exact Q _)|(go_at_call 52;exact R _)))
 refine wpQuiet_nil ?_;rintro p ⟨⟨_,Sy,By⟩,rfl⟩;obtain⟨w2,q⟩:=ex (p.alloc (.cells #[.int .i64 0,.int .i64 0] 29));have S2:ae w1 w2:=by rw[q];exact Sy.trans (ae.alloc p _)
 have B2:Below w.heap.size w w2:=by rw[q];exact By.alloc By.size _
 have u1:=d w2 S2 3 _ rfl;have t:Hid _:=(⟨S2,B2⟩:_/\_)
 clear O Q R l0 l1 l2 l3 l4 l5 l6 l7 l8 l9 ag ak Sy By S2 B2;go_wp2_with (first|(go_at_call 51;refine(D _).mono ?_;rintro e w4 ⟨rfl,rfl⟩;rw[<-q];clear q))
 go_loopw [7,30] (λo s wr=>∃(k:Nat) (X:Value),k<=c.rules.length/\s=.int .i64 k/\X=o/\wr.ownsRow w2.heap.size 86 3 X k (xq ((jG c c.marks[j] c.kin[j]).take k))/\Below w2.heap.size w2 wr) (λo s _=>c.rules.length-(intOf s).toNat)
 case atStart=>exact⟨0,_,R9 _,rfl,rfl,World.ownsRow_nil _ _ _ _,Below.refl _ _⟩
 case round=>
  obtain⟨k,X,hk,rfl,rfl,hF,g⟩:=hrel;have a:ae w1 wr:=ae.trans t.out.1 (ae.below g);have HW:Hid _:=(⟨a,g⟩:ae w1 wr/\Below w2.heap.size w2 wr)
  have HF:Hid _:=hF;obtain E|hge:=R5 k c.rules.length
  ·obtain⟨b,o,rfl,y0,y1,y2,y3⟩:=gr k E
   have y0:=a.cell (ae.cell n.out y0);have y1:=a.cell (ae.cell n.out y1);have y2:=a.cell (ae.cell n.out y2);have y3:=a.cell (ae.cell n.out y3);have bb:(k:Int)<(c.rules.length:Int):=by omega
   have p0:=λob=>d (wr.alloc ob) (a.trans (ae.alloc _ _)) 0 _ rfl;have p1:=λob=>d (wr.alloc ob) (a.trans (ae.alloc _ _)) 1 _ rfl;have p2:=λob=>d (wr.alloc ob) (a.trans (ae.alloc _ _)) 2 _ rfl;have p3:=λob=>d (wr.alloc ob) (a.trans (ae.alloc _ _)) 3 _ rfl;have p4:=λob=>d (wr.alloc ob) (a.trans (ae.alloc _ _)) 4 _ rfl;have p5:=λob=>d (wr.alloc ob) (a.trans (ae.alloc _ _)) 5 _ rfl;have p6:=λob=>d (wr.alloc ob) (a.trans (ae.alloc _ _)) 6 _ rfl;have p7:=λob=>d (wr.alloc ob) (a.trans (ae.alloc _ _)) 7 _ rfl;have p8:=λob=>d (wr.alloc ob) (a.trans (ae.alloc _ _)) 8 _ rfl;have p9:=λob=>d (wr.alloc ob) (a.trans (ae.alloc _ _)) 9 _ rfl;have an:=λob=>d (wr.alloc ob) (a.trans (ae.alloc _ _)) 10 _ rfl;have V:=λob=>cL k E (wr.alloc ob) (ae.trans n.out (a.trans (ae.alloc _ _)));have HT:Hid _:=yx (lV c c.marks[j] c.kin[j]) c.rules k E;obtain⟨r,M⟩:=ex (lV c c.marks[j] c.kin[j] c.rules[k]);rw[<-M]at HT V;obtain⟨lv,W⟩:=ex (bF c.table c.rules[k].kind c.new c.marks[j]);rw[<-W]at V;obtain⟨u,z,A⟩:=r;unfold B9 at V;have B:w2.heap.size<=wr.heap.size:=g.size;have HZ:Hid _:=B;clear M cL d a g gr B W hF D;go_upto_region 9 with(first|(go_at_call 84;refine(V _).mono ?_;rintro e w3 ⟨rfl,F⟩))
   have ba:=HW.out.2.alloc HZ.out (.cells #[.int .i64 c.rules[k].kind,.int .i64 c.rules[k].least,.int .i64 c.rules[k].plain,.int .i64 c.rules[k].known] 69);have b3:=ba.trans (F.mono ba.size);have Y:=b3.alloc b3.size (.cells #[.int .i64 u,.int .i64 z,.int .i64 A] 86);have s4:ae wr (w3.alloc (.cells #[.int .i64 u,.int .i64 z,.int .i64 A] 86)):=(ae.alloc wr _).trans ((ae.below F).trans (ae.alloc _ _));obtain⟨G,l⟩:=ex (w3.alloc (.cells #[.int .i64 u,.int .i64 z,.int .i64 A] 86));have z0:G.cell? ⟨w3.heap.size,0,none⟩=some (.int .i64 u):=by rw[l];exact aw w3 _ 86 0 _ rfl
   have z1:G.cell? ⟨w3.heap.size,1,none⟩=some (.int .i64 z):=by rw[l];exact aw w3 _ 86 1 _ rfl
   have z2:G.cell? ⟨w3.heap.size,2,none⟩=some (.int .i64 A):=by rw[l];exact aw w3 _ 86 2 _ rfl
   rw[<-l]at Y s4;rw[<-l];have b6:=Y.alloc Y.size (.cells #[.int .i64 u,.int .i64 z,.int .i64 A] 86);have s6:=s4.trans (ae.alloc G (.cells #[.int .i64 u,.int .i64 z,.int .i64 A] 86));have hO:=fM HF.out s6;have hS:Src (G.alloc (.cells #[.int .i64 u,.int .i64 z,.int .i64 A] 86)) 3 (some ⟨G.heap.size,0,none⟩) 1 [.int .i64 u,.int .i64 z,.int .i64 A]:=Al (e:=86) (f:=(0,0)) SY;have H:Hid _:=(⟨hO,hS,b6,HW.out.1.trans s6⟩:_/\_/\_/\_)
   clear l Y s4 b6 s6 hO hS ba b3 F p0 p1 p2 p3 p4 p5 p6 p7 p8 p9 an y0 y1 y2 y3 V;go_wp2_with (first|(at_builtin;refine eV (P:=Qs fs) (.tmp 42) (.tmp 44) 76 (by rfl) w2.heap.size 86 i0 _ 3 24 Tryz.underlying76 hi S T U rfl (by decide) X k _ (by rfl) H.out.1 (some ⟨G.heap.size,0,none⟩) 1 1 _ (by rfl) H.out.2.1 qT (by simp only[maxLen];omega) (by omega) H.out.2.2.1.size (by rfl) ?_;intro v7 w7 ao ax a1))
   have ay:=H.out.2.2.1.grown ax H.out.2.2.1.size (eo H.out.1);refine⟨⟨k+1,v7,by omega,by go_num,rfl,?_,ay⟩,by simp[intOf];omega⟩;unfold jG;rw[HT.out,Bv];exact ao
  ·clear gr d cL D
   have aM:k=c.rules.length:=by omega
   subst aM;clear a g hF;go_wp2
   go_ret2
   have h:=HF.out;refine⟨_,rfl,?_,t.out.2.trans (HW.out.2.mono t.out.2.size)⟩;rw[UM (by unfold jG;rw[Th];exact R2 _)]at h;have hl:(jG c c.marks[j] c.kin[j]).length=c.rules.length:=by unfold jG;rw[Th]
   rw[hl];exact rM h t.out.2.size
def Bw(w:World):List Obj->World
 | []=>w
 |o::os=>Bw (w.alloc o) os
theorem m9:∀(os) (w) (B),B<=w.heap.size->Below B w (Bw w os)
 | [],w,B,_=>Below.refl _ _
 |o::os,w,B,h=>((Below.refl B w).alloc h o).trans (m9 os (w.alloc o) B (by simp;omega))
theorem xt:∀(os) (w) (k),k<os.length->(Bw w os).heap[w.heap.size+k]? =os[k]?
 |o::os,w,0,_=>by show(Bw (w.alloc o) os).heap[w.heap.size+0]? =some o;rw[(m9 os (w.alloc o) (w.heap.size+1) (by simp)).block _ (by omega)];exact SY
 |o::os,w,k+1,h=>by have:=xt os (w.alloc o) k (by simpa using h);rw[show(w.alloc o).heap.size=w.heap.size+1 by simp]at this;rw[show w.heap.size+(k+1)=w.heap.size+1+k by omega];exact this
def Mz(N:Nat):Array Value:=#[.slice (some ⟨N+1,0,none⟩) 5 5,.slice (some ⟨N+1+1+1,0,none⟩) 1 1,.slice (some ⟨N+1+1+1+1+1,0,none⟩) 1 1,.slice (some ⟨N+1+1+1+1+1+1,0,none⟩) 3 3,.string ⟨#[110,111,118,97]⟩,.string ⟨#[207,129,206,191,206,182,206,177]⟩,.slice none 0 0,.int .i64 9,.bool false,.slice (some ⟨N+1+1+1+1+1+1+1,0,none⟩) 4 4,.slice (some ⟨N+1+1+1+1+1+1+1+1,0,none⟩) 4 4]
def BD(N:Nat):List Obj:=[.cells #[.slice (some ⟨N+1,0,none⟩) 5 5,.slice (some ⟨N+1+1+1,0,none⟩) 1 1,.slice (some ⟨N+1+1+1+1+1,0,none⟩) 1 1,.slice (some ⟨N+1+1+1+1+1+1,0,none⟩) 3 3,.string ⟨#[110,111,118,97]⟩,.string ⟨#[207,129,206,191,206,182,206,177]⟩,.slice none 0 0,.int .i64 9,.bool false,.slice (some ⟨N+1+1+1+1+1+1+1,0,none⟩) 4 4,.slice (some ⟨N+1+1+1+1+1+1+1+1,0,none⟩) 4 4] 60,
 .cells #[.string ⟨#[207,129]⟩,.string ⟨#[114]⟩,.string ⟨#[206,191]⟩,.string ⟨#[111]⟩,.string ⟨#[206,182]⟩,.string ⟨#[122]⟩,.string ⟨#[206,177]⟩,.string ⟨#[97]⟩,.string ⟨#[206,178]⟩,.string ⟨#[118]⟩] 46,
 .cells #[.string ⟨#[122]⟩,.string ⟨#[115]⟩,.string ⟨#[104]⟩,.string ⟨#[]⟩] 51,
 .cells #[.string ⟨#[105,116]⟩,.slice (some ⟨N+1+1,0,none⟩) 2 2] 50,
 .cells #[.string ⟨#[114,111,122,97]⟩,.string ⟨#[114,111,115,101]⟩] 9,
 .cells #[.slice (some ⟨N+1+1+1+1,0,none⟩) 2 2] 92,
 .cells #[.int .i64 1,.int .i64 90,.int .i64 3,.int .i64 1,.int .i64 2,.int .i64 100,.int .i64 5,.int .i64 2,.int .i64 3,.int .i64 70,.int .i64 6,.int .i64 6] 69,
 .cells #[.string ⟨#[97,108,98,97]⟩,.string ⟨#[114,111,115,97]⟩,.slice none 0 0,.int .i64 1,.bool false,.string ⟨#[98,101,108,97]⟩,.string ⟨#[114,111,115,101]⟩,.slice none 0 0,.int .i64 3,.bool false,.string ⟨#[99,111,114,97]⟩,.string ⟨#[97,115,111,114]⟩,.slice none 0 0,.int .i64 2,.bool false,.string ⟨#[100,111,114,97]⟩,.string ⟨#[114,104,111,115,97]⟩,.slice none 0 0,.int .i64 9,.bool false] 38,
 .cells #[.int .i64 4,.int .i64 5,.int .i64 3,.int .i64 9] 3]
def lQ{c:Type}{d:Nat}{E:(Nat->Prop)->World->Nat->Nat->c->Prop}{W:World}{b:Nat}{cs:Array Value}{e:TypeId}{F:Nat×Nat}{l:List c}{n:Nat}(h:W.heap[b]? =some (.cells cs e F))(g:n=l.length)(m:n<=1000)(i:∀k (f:k<l.length),E (λ_=>True) W b (k*d) l[k]):
 aE (λ_=>True) d E W (.slice (some ⟨b,0,none⟩) n n) l:=by
 subst g;refine⟨some ⟨b,0,none⟩,l.length,rfl,R2 _,by omega,.inr λa j=>?_,λk f=>⟨b,0,rfl,by rw[Se];exact i k f⟩⟩;cases j;exact⟨rfl,trivial,cs,e,F,h⟩
def rN{a b E W}:aE (λ_=>True) b E W (.slice none 0 0) ([]:List a):=⟨none,0,rfl,R2 _,by omega,.inl rfl,λk c=>by(cases c)⟩
def J1{W:World}{N}(h:∀k,k<9->W.heap[N+k]? =(BD N)[k]?):bI (λ_=>True) W (Mz N) exC:=by
 have d:W.heap[N+1]? =_:=h 1 (by decide);have e:W.heap[N+2]? =_:=h 2 (by decide);have g:W.heap[N+3]? =_:=h 3 (by decide);have i:W.heap[N+4]? =_:=h 4 (by decide);have j:W.heap[N+5]? =_:=h 5 (by decide);have c:W.heap[N+6]? =_:=h 6 (by decide);have b:W.heap[N+7]? =_:=h 7 (by decide);have f:W.heap[N+8]? =_:=h 8 (by decide);refine⟨_,_,_,_,_,_,_,rfl,⟨lQ d rfl (by decide) ?_,lQ g rfl (by decide) ?_,lQ j rfl (by decide) ?_⟩,lQ c rfl (by decide) ?_,rN,lQ b rfl (by decide) ?_,lQ f rfl (by decide) ?_⟩
 ·intro k a
  have a:k<5:=a
  match k,a with
  |0,_=>exact⟨cell_of_heap d _ _ rfl,cell_of_heap d _ _ rfl⟩
  |1,_=>exact⟨cell_of_heap d _ _ rfl,cell_of_heap d _ _ rfl⟩
  |2,_=>exact⟨cell_of_heap d _ _ rfl,cell_of_heap d _ _ rfl⟩
  |3,_=>exact⟨cell_of_heap d _ _ rfl,cell_of_heap d _ _ rfl⟩
  |4,_=>exact⟨cell_of_heap d _ _ rfl,cell_of_heap d _ _ rfl⟩
 ·intro k a
  have a:k<1:=a
  match k,a with
  |0,_=>
   refine⟨cell_of_heap g _ _ rfl,_,cell_of_heap g _ _ rfl,lQ e rfl (by decide) ?_⟩;intro k a;have a:k<2:=a
   match k,a with
   |0,_=>exact⟨cell_of_heap e _ _ rfl,cell_of_heap e _ _ rfl⟩
   |1,_=>exact⟨cell_of_heap e _ _ rfl,cell_of_heap e _ _ rfl⟩
 ·intro k a
  have a:k<1:=a
  match k,a with
  |0,_=>
   refine⟨_,cell_of_heap j _ _ rfl,lQ i rfl (by decide) ?_⟩;intro k a;have a:k<2:=a
   match k,a with
   |0,_=>exact cell_of_heap i _ _ rfl
   |1,_=>exact cell_of_heap i _ _ rfl
 ·intro k a
  have a:k<3:=a
  match k,a with
  |0,_=>exact⟨cell_of_heap c _ _ rfl,cell_of_heap c _ _ rfl,cell_of_heap c _ _ rfl,cell_of_heap c _ _ rfl⟩
  |1,_=>exact⟨cell_of_heap c _ _ rfl,cell_of_heap c _ _ rfl,cell_of_heap c _ _ rfl,cell_of_heap c _ _ rfl⟩
  |2,_=>exact⟨cell_of_heap c _ _ rfl,cell_of_heap c _ _ rfl,cell_of_heap c _ _ rfl,cell_of_heap c _ _ rfl⟩
 ·intro k a
  have a:k<4:=a
  match k,a with
  |0,_=>exact⟨cell_of_heap b _ _ rfl,cell_of_heap b _ _ rfl,⟨_,cell_of_heap b _ _ rfl,rN⟩,cell_of_heap b _ _ rfl,cell_of_heap b _ _ rfl⟩
  |1,_=>exact⟨cell_of_heap b _ _ rfl,cell_of_heap b _ _ rfl,⟨_,cell_of_heap b _ _ rfl,rN⟩,cell_of_heap b _ _ rfl,cell_of_heap b _ _ rfl⟩
  |2,_=>exact⟨cell_of_heap b _ _ rfl,cell_of_heap b _ _ rfl,⟨_,cell_of_heap b _ _ rfl,rN⟩,cell_of_heap b _ _ rfl,cell_of_heap b _ _ rfl⟩
  |3,_=>exact⟨cell_of_heap b _ _ rfl,cell_of_heap b _ _ rfl,⟨_,cell_of_heap b _ _ rfl,rN⟩,cell_of_heap b _ _ rfl,cell_of_heap b _ _ rfl⟩
 ·intro k a
  have a:k<4:=a
  match k,a with
  |0,_=>exact cell_of_heap f _ _ rfl
  |1,_=>exact cell_of_heap f _ _ rfl
  |2,_=>exact cell_of_heap f _ _ rfl
  |3,_=>exact cell_of_heap f _ _ rfl
def MA{W:World}{N}(h:∀k,k<9->W.heap[N+k]? =(BD N)[k]?):gR (λ_=>True) W (Mz N):=by
 have b:∀k,0<k->k<9->∀q l c,CV (λ_=>True) W q (.slice (some ⟨N+k,0,none⟩) l c):=λk g e q l c=>.slice _ _ λa d=>by
  cases d;refine⟨rfl,trivial,?_⟩;rw[h k e]
  match k,g,e with
  |1,_,_|2,_,_|3,_,_|4,_,_|5,_,_|6,_,_|7,_,_|8,_,_=>exact⟨_,_,_,rfl⟩
 intro v f;simp only[Mz,To,SE,SS,SU]at f;obtain rfl|rfl|rfl|rfl|rfl|rfl|rfl|rfl|rfl|rfl|rfl:=f
 ·exact b 1 (by decide) (by decide) _ _ _
 ·exact b 3 (by decide) (by decide) _ _ _
 ·exact b 5 (by decide) (by decide) _ _ _
 ·exact b 6 (by decide) (by decide) _ _ _
 ·exact .string _
 ·exact .string _
 ·exact .slice _ _ λa d=>by cases d
 ·exact .int _ _
 ·exact .bool _
 ·exact b 7 (by decide) (by decide) _ _ _
 ·exact b 8 (by decide) (by decide) _ _ _
def J2(w:World):Calls (Qs fs) 50 #[] w λe w'=>∃sc,e=.returned (.agg sc)/\bI (λ_=>True) w' sc exC/\gR (λ_=>True) w' sc/\Below w.heap.size w w':=by go_enter (n50 L),Tryz.ntmps50;go_wp2;have b:=m9 (BD w.heap.size) w w.heap.size (R2 _);have a:=λk (c:k<9)=>xt (BD w.heap.size) w k c;exact bodyPost_ret (v:=.agg (Mz w.heap.size)) (by simp[results,Tryz.results50,go_sem, *];rfl) rfl ⟨Mz w.heap.size,rfl,J1 a,MA a,b⟩
def GL(fs:Array Func)(k:Nat)(one two:Mark):Prop:=∀(K:Nat->Prop) (v0 v1 v2:Value) (t:Table) (m1 m2:Array Value) (w:World),IsTable K w v0 v1 v2 t->OkT t->de K w m1 one->de K w m2 two->OkM one->OkM two->gJ w->Calls (Qs fs) (eE k) #[.agg #[v0,v1,v2],.agg m1,.agg m2] w λe w'=>e=.returned (.int .i64 (bF t k one two))/\Below w.heap.size w w'
def hZ.at{fs k}(h:hZ fs k)(one two):GL fs k one two:=λK v0 v1 v2 t m1 m2 w=>h K v0 v1 v2 t m1 m2 one two w
def Er(w:World):Calls (Qs fs) 51 #[.slice (some ⟨w.heap.size,0,none⟩) 4 4] (w.alloc (.cells #[.int .i64 0,.int .i64 0,.int .i64 0,.int .i64 0] 29)) λe w'=>e=.returned (.int .i64 0)/\w'=w.alloc (.cells #[.int .i64 0,.int .i64 0,.int .i64 0,.int .i64 0] 29):=by
 have h:=Ap L w.heap.size 0 4 [0,0,0,0] (w.alloc (.cells #[.int .i64 0,.int .i64 0,.int .i64 0,.int .i64 0] 29)) (by show 4<=_;decide) (λk a=>by
  rw[Se]
  match k,a with
  |0,_=>exact aw w _ 29 0 _ rfl
  |1,_=>exact aw w _ 29 1 _ rfl
  |2,_=>exact aw w _ 29 2 _ rfl
  |3,_=>exact aw w _ 29 3 _ rfl)
 exact h
def BF{K:Nat->Prop}{v0 v1 v2:Value}{t:Table}{m1 m2:Array Value}{one two:Mark}(k:Nat)(w:World)(hk:k<6)(s:GL fs k one two)(J:IsTable K w v0 v1 v2 t)(ok:OkT t)(h0:bH t=0)
 (h1:de K w m1 one) (h2:de K w m2 two) (o1:OkM one) (o2:OkM two) (f1:eU one=0) (f2:eU two=0) (hm:gJ w) (u:hU w):
 Calls (Qs fs) 25 #[.agg #[v0,v1,v2],.int .i64 k,.agg m1,.agg m2] w λe w'=>e=.returned (.tuple #[.int .i64 (bF t k one two),.int .i64 0])/\Below w.heap.size w w':=by
 have e20:=e20 L;have e51:=e51 L;have e52:=e52 L;have e66:=e66 L;have e67:=e67 L;have ek:=Le L k hk;obtain⟨G,rfl,M⟩:=id h1;obtain⟨H,rfl,N⟩:=id h2;obtain⟨w1,m⟩:=ex (((w.alloc (.cells #[v0,v1,v2] 26)).alloc (.cells #[.string one.name,.string one.word,G,.int .i64 one.day,.bool one.known] 38)).alloc (.cells #[.string two.name,.string two.word,H,.int .i64 two.day,.bool two.known] 38));obtain⟨d,B1,O,P,Q⟩:=iI w _ _ _ _ _ _ w1 m;obtain⟨N0,n⟩:=ex (w.heap.size);obtain⟨N1,o⟩:=ex (w.heap.size+1);obtain⟨N2,p⟩:=ex (w.heap.size+1+1);rw[<-n]at O;rw[<-o]at P;rw[<-p]at Q;have la:=λg (z:ae w1 g) i v h=>z.cell (O i v h);have lb:=λg (z:ae w1 g) i v h=>z.cell (P i v h);have b:=λg (z:ae w1 g) i v h=>z.cell (Q i v h);have A:∀x:aj w w1,Calls (Qs fs) 20 #[.agg #[v0,v1,v2]] x.val λe w'=>e=.returned (.int .i64 0)/\∃y:aj w w1,w'=y.val:=λx=>by have h:=eD L x.val (J.stays (d.trans x.st));rw[h0]at h;exact aj.calls h
 have R:aD (k:Int) 0 5=true:=by unfold aD;rw[Sd (by omega),Sd (by omega)];rfl
 have B:∀x:aj w w1,Calls (Qs fs) 66 #[.int .i64 k] x.val λe w'=>e=.returned (.bool true)/\∃y:aj w w1,w'=y.val:=λx=>by have h:=CL L k x.val;rw[R]at h;exact aj.same h
 have C:∀x:aj w w1,Calls (Qs fs) 52 #[.bool false,.int .i64 1] x.val λe w'=>e=.returned (.int .i64 0)/\∃y:aj w w1,w'=y.val:=λx=>aj.same (dz L false 1 x.val);have j:∀x:aj w w1,Calls (Qs fs) 67 #[.agg #[.string one.name,.string one.word,G,.int .i64 one.day,.bool one.known]] x.val λe w'=>e=.returned (.int .i64 0)/\∃y:aj w w1,w'=y.val:=λx=>by have h:=kW L x.val (⟨G,rfl,M.ints (d.trans x.st)⟩:de K x.val _ one);rw[f1]at h;exact aj.calls h
 have l:∀x:aj w w1,Calls (Qs fs) 67 #[.agg #[.string two.name,.string two.word,H,.int .i64 two.day,.bool two.known]] x.val λe w'=>e=.returned (.int .i64 0)/\∃y:aj w w1,w'=y.val:=λx=>by have h:=kW L x.val (⟨H,rfl,N.ints (d.trans x.st)⟩:de K x.val _ two);rw[f2]at h;exact aj.calls h
 have D:=λr=>Er L r;have I:=λr (h:ae w1 r)=>s K v0 v1 v2 t _ _ r (J.stays (d.trans h)) ok ⟨G,rfl,M.ints (d.trans h)⟩ ⟨H,rfl,N.ints (d.trans h)⟩ o1 o2 (hm.stays (d.trans h));have c:=λr (h:ae w1 r)=>(u.stays (d.trans h)) k hk;obtain⟨F,hF⟩:=ex (eE k);rw[<-hF]at I c ek;obtain⟨lv,E⟩:=ex (bF t k one two);rw[<-E]at I⊢;have HB:Hid _:=B1;have S:=λx:aj w w1=>la x.val x.st 0 _ rfl;have a1:=λx:aj w w1=>la x.val x.st 1 _ rfl;have T:=λx:aj w w1=>la x.val x.st 2 _ rfl;have U:=λx:aj w w1=>lb x.val x.st 0 _ rfl;have V:=λx:aj w w1=>lb x.val x.st 1 _ rfl;have W:=λx:aj w w1=>lb x.val x.st 2 _ rfl;have X:=λx:aj w w1=>lb x.val x.st 3 _ rfl;have Y:=λx:aj w w1=>lb x.val x.st 4 _ rfl;have d0:=λx:aj w w1=>b x.val x.st 0 _ rfl;have d1:=λx:aj w w1=>b x.val x.st 1 _ rfl;have d2:=λx:aj w w1=>b x.val x.st 2 _ rfl;have d3:=λx:aj w w1=>b x.val x.st 3 _ rfl;have d4:=λx:aj w w1=>b x.val x.st 4 _ rfl;have aa:(k:Int)<6:=by omega
 clear J ok h0 h1 h2 o1 o2 f1 f2 hm u M N d B1 O P Q E hF s;go_enter (n25 L),Tryz.ntmps25;go_upto_region 1 with fail;rw[<-m,<-p,<-o,<-n];clear m n o p;refine aU (w0:=w) (w1:=w1) 10 (by kernel_rfl) (by kernel_rfl) (ae.refl _) HB.out ?_;simp only[SN,SI,SZ,SP];haveI q:Nonempty (aj w w1):=⟨⟨w1,ae.refl _,HB.out⟩⟩
 repeat (go_big_quiet_step (first|(go_at_call 20;exact A _)|(go_at_call 66;exact B _)|(go_at_call 52;exact C _)|(go_at_call 67;first|exact j _|exact l _)))
 refine wpQuiet_nil ?_;rintro g ⟨⟨_,Sy,Z⟩,rfl⟩;obtain⟨w2,f⟩:=ex (g.alloc (.cells #[.int .i64 0,.int .i64 0,.int .i64 0,.int .i64 0] 29));have S2:ae w1 w2:=by rw[f];exact Sy.trans (ae.alloc g _)
 have B2:Below w.heap.size w w2:=by rw[f];exact Z.alloc Z.size _
 have a:Hid _:=(⟨S2,B2⟩:_/\_)
 clear A B C j l S a1 T U V W X Y d0 d1 d2 d3 d4 q Sy Z S2 B2;go_upto_region 4 with(first|(go_at_call 51;refine(D _).mono ?_;rintro e w4 ⟨rfl,rfl⟩;rw[<-f];clear f))
 have S:=λx:aj w w2=>la x.val (ae.trans a.out.1 x.st) 0 _ rfl;have a1:=λx:aj w w2=>la x.val (ae.trans a.out.1 x.st) 1 _ rfl;have T:=λx:aj w w2=>la x.val (ae.trans a.out.1 x.st) 2 _ rfl;have U:=λx:aj w w2=>lb x.val (ae.trans a.out.1 x.st) 0 _ rfl;have V:=λx:aj w w2=>lb x.val (ae.trans a.out.1 x.st) 1 _ rfl;have W:=λx:aj w w2=>lb x.val (ae.trans a.out.1 x.st) 2 _ rfl;have X:=λx:aj w w2=>lb x.val (ae.trans a.out.1 x.st) 3 _ rfl;have Y:=λx:aj w w2=>lb x.val (ae.trans a.out.1 x.st) 4 _ rfl;have d0:=λx:aj w w2=>b x.val (ae.trans a.out.1 x.st) 0 _ rfl;have d1:=λx:aj w w2=>b x.val (ae.trans a.out.1 x.st) 1 _ rfl;have d2:=λx:aj w w2=>b x.val (ae.trans a.out.1 x.st) 2 _ rfl;have d3:=λx:aj w w2=>b x.val (ae.trans a.out.1 x.st) 3 _ rfl;have d4:=λx:aj w w2=>b x.val (ae.trans a.out.1 x.st) 4 _ rfl;have kk:=λx:aj w w2=>c x.val (ae.trans a.out.1 x.st);have qL:=λx:aj w w2=>aj.calls (I x.val (ae.trans a.out.1 x.st));clear la lb b c I D;refine aY (w0:=w) (w1:=w2) (by kernel_rfl) (by kernel_rfl) (ae.refl _) a.out.2 ?_;haveI q:Nonempty (aj w w2):=⟨⟨w2,ae.refl _,a.out.2⟩⟩
 repeat (go_big_quiet_step (first|(go_at_fn F;exact qL _)))
 refine wpQuiet_nil ?_;rintro wz ⟨⟨_,Sz,Bz⟩,rfl⟩;clear S a1 T U V W X Y d0 d1 d2 d3 d4 kk qL q;go_wp2
 go_ret2
 exact⟨rfl,Bz⟩
def BH(t one two):bF t 5 one two=bQ one.aW two.aW:=rfl
def Ow{K:Nat->Prop}{v0 v1 v2:Value}{m1 m2:Array Value}{one two:Mark}(w:World)(b:de K w m1 one)(c:de K w m2 two)(d:OkM one)(f:OkM two)(h:one.aW.Nodup)(i:two.aW.Nodup):
 Calls (Qs fs) 240 #[.agg #[v0,v1,v2],.agg m1,.agg m2] w λe w'=>e=.returned (.int .i64 (bQ one.aW two.aW))/\Below w.heap.size w w':=by
 have QB:=QB L;obtain⟨s,rfl,j⟩:=b;obtain⟨t,rfl,k⟩:=c;obtain⟨w1,a⟩:=ex (((w.alloc (.cells #[v0,v1,v2] 100)).alloc (.cells #[.string one.name,.string one.word,s,.int .i64 one.day,.bool one.known] 38)).alloc (.cells #[.string two.name,.string two.word,t,.int .i64 two.day,.bool two.known] 38));obtain⟨g,l,ct,m,n⟩:=iI w _ _ _ _ _ _ w1 a;have a1:=m 2 _ rfl;have u:=n 2 _ rfl;obtain⟨N0,o⟩:=ex (w.heap.size);obtain⟨x,b⟩:=ex (w.heap.size+1);obtain⟨y,c⟩:=ex (w.heap.size+1+1);rw[<-c]at u;rw[<-b]at a1;have q:=Ov L w1 (j.ints g) (k.ints g) d.fig f.fig d.code f.code h i;have p:Hid (Below w.heap.size w w1):=l;obtain⟨z,r⟩:=ex (bQ one.aW two.aW);rw[<-r]at q⊢;clear j k d f h i g l ct m n r;go_enter (n240 L),Tryz.ntmps240;go_upto_region 1 with fail;rw[<-a,<-c,<-b,<-o];clear a o b c;go_wp2_with (first|(go_at_call 241;refine q.mono ?_;rintro e w2 ⟨rfl,v⟩))
 go_ret;exact⟨rfl,p.out.trans (v.mono p.out.size)⟩
def PF{one two:Mark}(a:one.aW.Nodup)(b:two.aW.Nodup):GL fs 5 one two:=λK v0 v1 v2 t m1 m2 w g i c d e f j=>by have h:=Ow L (v0:=v0) (v1:=v1) (v2:=v2) w c d e f a b;rw[show eE 5=240 from rfl,show((5:Nat):Int)=5 from rfl,BH];exact h
end Go.Proofs
namespace Go.Proofs
open Go.Tm Go.RowKit
section
variable {G:Nat} {S:Kn}
def m7{w:World}{b o v}(h:w.cell? ⟨b,o,none⟩=some v):∃c e F,w.heap[b]? =some (.cells c e F)/\c[o]? =some v:=by
 unfold World.cell? at h;simp only[]at h;cases a:w.heap[b]? with
 |none=>rw[a]at h;cases h
 |some x=>
  rw[a]at h;cases x with
  |cells c e F=>exact⟨c,e,F,rfl,h⟩
  |_=>cases h
def ja{w:World}{b o c e F v}(h:w.heap[b]? =some (.cells c e F))(a:c[o]? =some v):w.cell? ⟨b,o,none⟩=some v:=by unfold World.cell?;simp only[h];exact a
def CV.self{K B:Nat->Prop}{w:World}(d:∀b,K b->(∃c e F,w.heap[b]? =some (.cells c e F))->B b){v}(h:CV K w true v):av (idR G B) v v:=by
 cases h with
 |bool=>exact .bool _
 |int=>exact .int _ _
 |string=>exact .string _
 | @slice _ f l c g=>
  cases f with
  |none=>exact .im _ _
  |some a=>obtain⟨b,o,p⟩:=a;obtain⟨k,i,j⟩:=g _ rfl;exact .slice _ _ (.mk ⟨rfl,d _ i j⟩)
def ju{B fz w}{b:Nat}{c e F}(h:w.heap[b]? =some (.cells c e F)):∃a,(cP (idR G B) fz w).heap[b]? =some (.cells (c.map (mask (idR G B))) e a):=by rw[fG,h];exact⟨_,rfl⟩
def Carry.mask{K B fz:Nat->Prop}{w:World}(i:∀b,K b->(∃c e F,w.heap[b]? =some (.cells c e F))->B b):Carry (λa b=>a=b) K K w (cP (idR G B) fz w) where
 fn _ _ _ h1 h2:=h1.symm.trans h2
 cell b b' o v hs hc hv:=by
  subst hs;obtain⟨c,e,F,h1,h2⟩:=m7 hc;obtain⟨j,f⟩:=ju (G:=G) (B:=B) (fz:=fz) h1;have d:∀v',Go.Tm.mask (idR G B) v=v'->(cP (idR G B) fz w).cell? ⟨b,o,none⟩=some v':=λv' e=>ja f (by rw[SG,h2,SQ,e]);cases hv with
  |bool=>exact⟨_,d _ (iL (.bool _)),.bool _⟩
  |int=>exact⟨_,d _ (iL (.int _ _)),.int _ _⟩
  |string=>exact⟨_,d _ (iL (.string _)),.string _⟩
  |empty g=>obtain⟨k,e⟩:=Gi (idR G B) g;exact⟨_,d _ e,.empty _ _⟩
  | @slice _ g l c h=>
   refine⟨_,d _ (iL (CV.self i (.slice _ _ h))),?_⟩;cases g with
   |none=>exact .im _ _
   |some a=>obtain⟨b,o,p⟩:=a;obtain⟨h1,h2,n,e,F,f⟩:=h _ rfl;simp only[]at h1;subst h1;obtain⟨j,m⟩:=ju (G:=G) (B:=B) (fz:=fz) f;exact .slice _ _ rfl h2 ⟨_,_,_,m⟩
def TV.mask{K B fz w q v}(f:CV K w q v):TV (λa b=>a=b) K (cP (idR G B) fz w) q v v:=by
 cases f with
 |bool=>exact .bool _
 |int=>exact .int _ _
 |string=>exact .string _
 |empty=>exact .empty _ _
 | @slice _ g l c h=>
  cases g with
  |none=>exact .im _ _
  |some a=>obtain⟨b,o,p⟩:=a;obtain⟨d,i,m,e,F,j⟩:=h _ rfl;simp only[]at d;subst d;obtain⟨n,k⟩:=ju (G:=G) (B:=B) (fz:=fz) j;exact .slice _ _ rfl i ⟨_,_,_,k⟩
def bI.mask{K B fz:Nat->Prop}{w:World}(d:∀b,K b->(∃c e F,w.heap[b]? =some (.cells c e F))->B b){sc c}(h:bI K w sc c):bI K (cP (idR G B) fz w) sc c:=h.carry (Carry.mask d) rfl λi v V f a g=>by rw[f]at a;cases a;exact TV.mask g
def gR.mask{K B fz:Nat->Prop}{w:World}{sc}(h:gR K w sc):gR K (cP (idR G B) fz w) sc:=λv a=>(TV.mask (h v a)).cv
def gR.stays{K w w' sc}(a:ae w w')(h:gR K w sc):gR K w' sc:=λv b=>(TV.self a (h v b)).cv
def gR.self{K B:Nat->Prop}{w:World}(a:∀b,K b->(∃c e F,w.heap[b]? =some (.cells c e F))->B b){sc}(h:gR K w sc):av (idR G B) (.agg sc) (.agg sc):=.EH (aV.refl λv d=>(h v d).self a)
def named(π:Ren G)(R:Nat):Prop:=∃r,π r R
def TV.Gu{π:Ren G}{K w W Pr}(i:bj S Pr π w W){q v V}(j:CV K w q v)(h:av π v V):TV π.rel (named π) W q v V:=by
 cases j with
 |bool=>cases h;exact .bool _
 |int=>cases h;exact .int _ _
 |string=>cases h;exact .string _
 |empty k=>cases h<;>exact .empty _ _
 | @slice _ k l c d=>
  cases h with
  |im=>exact .im _ _
  |pM A=>exact absurd (d _ rfl).1 (by simp)
  | @slice a A _ _ m=>
   cases m with
   | @mk r s o p b=>obtain⟨f,x,y,e,F,n⟩:=d _ rfl;simp only[]at f;subst f;obtain⟨z,B,g,t,u⟩:=i.obj r s b;rw[n]at g;cases g;cases u;exact .slice _ _ b ⟨_,b⟩ ⟨_,_,_,t⟩
def Carry.rel{π:Ren G}{K:Nat->Prop}{w W:World}{Pr:Nat->Prop}(g:bj S Pr π w W):Carry π.rel K (named π) w W where
 fn:=π.fn
 cell b b' o v hs hc hv:=by
  obtain⟨c,e,F,i,j⟩:=m7 hc;obtain⟨m,n,h,k,l⟩:=g.obj b b' hs;rw[i]at h;cases h;cases l with
  | @cells _ C _ _ _ d _=>
   have a:=d.get o;rw[j]at a;cases f:C[o]? with
   |none=>rw[f]at a;cases a
   |some V=>
    rw[f]at a;cases a with
    |some r=>exact⟨V,ja k f,TV.Gu g hv r⟩
def gR.rel{π:Ren G}{K w W Pr}(d:bj S Pr π w W){sc SC}(e:av π (.agg sc) (.agg SC))(h:gR K w sc):gR (named π) W SC:=by
 cases e with
 | @agg _ _ f g=>intro V j;obtain⟨i,b⟩:=UF.1 j;have a:i<sc.size:=f▸(R7.1 b).1;have c:=Sv a;exact(TV.Gu d (h _ (Td c)) (g i _ V c b)).cv
def tX(w:World)(sc:Array Value)(c:Case):Prop:=bI (λ_=>True) w sc c/\gR (λ_=>True) w sc
def tX.stays{w w' sc c}(a:ae w w')(h:tX w sc c):tX w' sc c:=⟨h.1.stays a,h.2.stays a⟩
def bI.rel{π:Ren G}{K w W Pr}(a:bj S Pr π w W){sc A c}(d:av π (.agg sc) A)(h:bI K w sc c):∃b,A=.agg b/\bI (named π) W b c:=by
 cases d with
 | @agg _ C e f=>exact⟨C,rfl,h.carry (Carry.rel a) e.symm λi v V g j k=>TV.Gu a k (f i v V g j)⟩
end
structure iO(w:World):Prop where
 kinds:hU w
 len:gJ w
 cells:∀g,g<5->∃c e F,w.heap[g]? =some (.cells c e F)
 size:Tryz.prog.globals.size<=w.heap.size
def iO.stays{w w'}(h:iO w)(a:ae w w')(b:w.heap.size<=w'.heap.size):iO w':=⟨h.kinds.stays a,h.len.stays a,λg d=>by obtain⟨c,e,F,f⟩:=h.cells g d;exact⟨c,e,F,a _ _ _ _ f⟩,R3 h.size b⟩
def zH(k):eE k≠74:=by
 unfold eE;repeat' split
 all_goals decide
section
variable {G:Nat} {S:Kn}
def zI(π:Ren G)(f:Nat)(a:f≠74):av π (.func (.func f) #[] #[]) (.func (.func f) #[] #[]):=.func (.func f a) rfl (λi x X h=>by simp at h) rfl (λi x X h=>by simp at h)
def oW{B fz w b o v}(h:w.cell? ⟨b,o,none⟩=some v)(a:av (idR G B) v v):(cP (idR G B) fz w).cell? ⟨b,o,none⟩=some v:=by obtain⟨c,e,F,d,f⟩:=m7 h;obtain⟨i,g⟩:=ju (G:=G) (B:=B) (fz:=fz) d;exact ja g (by rw[SG,f,SQ,iL a])
def iO.mask{B fz:Nat->Prop}{w:World}(h:iO w):iO (cP (idR G B) fz w) where
 kinds k hk:=oW (h.kinds k hk) (zI _ _ (zH k))
 len:=h.len.elim λm a=>⟨m,oW a (.int _ _)⟩
 cells g hg:=by obtain⟨c,e,F,b⟩:=h.cells g hg;obtain⟨f,d⟩:=ju (G:=G) (B:=B) (fz:=fz) b;exact⟨_,_,_,d⟩
 size:=by
  have:(cP (idR G B) fz w).heap.size=w.heap.size:=by unfold cP;simp
  rw[this];exact h.size
def El{π:Ren G}{Pr w W}(j:bj S Pr π w W){b d o v}(k:π b d)(h:w.cell? ⟨b,o,none⟩=some v):∃V,W.cell? ⟨d,o,none⟩=some V/\av π v V:=by
 obtain⟨c,e,F,l,m⟩:=m7 h;obtain⟨q,s,i,n,p⟩:=j.obj b d k;rw[l]at i;cases i;cases p with
 | @cells _ C _ _ _ f _=>
  have a:=f.get o;rw[m]at a;cases g:C[o]? with
  |none=>rw[g]at a;cases a
  |some V=>
   rw[g]at a;cases a with
   |some r=>exact⟨V,ja n g,r⟩
def Mj{π:Ren G}{f:Nat}{V}(h:av π (.func (.func f) #[] #[]) V):V=.func (.func f) #[] #[]:=by
 cases h with
 | @func fn i a A c C b d j e k=>
  cases b with
  |func=>have e1:A=#[]:=VX d.symm;have g:C=#[]:=VX e.symm;rw[e1,g]
def iO.rel{π:Ren Tryz.prog.globals.size}{Pr:Nat->Prop}{w W:World}(d:bj S Pr π w W)(f:∀g,g<5->π g g)(h:iO w):iO W where
 kinds k hk:=by obtain⟨V,a,b⟩:=El d (f 0 (by decide)) (h.kinds k hk);rw[Mj b]at a;exact a
 len:=by obtain⟨m,i⟩:=h.len;obtain⟨V,a,b⟩:=El d (f 2 (by decide)) i;cases b;exact⟨m,a⟩
 cells g hlt:=by obtain⟨c,e,F,j⟩:=h.cells g hlt;obtain⟨o,O,a,b,l⟩:=d.obj g g (f g hlt);rw[j]at a;cases a;cases l;exact⟨_,_,_,b⟩
 size:=d.gW
end
def dJ(w:World)(v:Value)(L:List Value):Prop:=∃sc c,v=.agg sc/\(bI (λ_=>True) w sc c/\gR (λ_=>True) w sc)/\OkC c/\(∀r∈c.rules,r.kind<=3)/\iO w/\L=gL (bT c)
def qo:oT dJ:=λw w' v L ⟨sc,c,h,f,i,j,b,k⟩ a=>by
 refine⟨sc,c,h,⟨f.1.stays a,f.2.stays a⟩,i,j,?_,k⟩;refine⟨b.kinds.stays a,b.len.stays a,λg l=>?_,?_⟩
 ·obtain⟨c,e,F,d⟩:=b.cells g l
  exact⟨c,e,F,a _ _ _ _ d⟩
 ·rw[jY]
  obtain⟨c,e,F,d⟩:=b.cells 4 (by decide);exact(R7.1 (a _ _ _ _ d)).1
theorem pL{c}(b:OkC c)(m)(d:OkM m)(kin):∀(a) (i) (k) (v),eA c m kin i a=some (k,v)->k<i+a.length/\0<=v/\v<=100000
 | [],i,k,v,h=>by cases h
 |r::a,i,k,v,h=>by
  unfold eA at h;split at h
  ·cases h
   have:=lA c.table r.kind c.new m b.new.fig d.fig;exact⟨by simp,this.1,this.2⟩
  ·have:=pL b m d kin a (i+1) k v h
   simp only[R4];exact⟨by omega,this.2⟩
def Mo{c}(a:OkC c){i x}(h:gS c i=some x):fX c x:=by
 unfold gS at h;split at h
 ·rename_i m k e g
  have f:i<c.marks.length:=(TC.1 e).1;have b:=a.marks m (Ts e);cases d:eA c m k 0 c.rules with
  |none=>rw[d]at h;cases h
  |some p=>obtain⟨q,v⟩:=p;rw[d]at h;cases h;obtain⟨j,l,n⟩:=pL a m b k c.rules 0 q v d;have:=a.EZ;exact⟨⟨i,f,rfl⟩,by show(-1000:Int)<=(q:Int)/\(q:Int)<=1000;omega,by show(-1000000:Int)<=v/\v<=1000000;omega⟩
 ·cases h
def En{c}(a:OkC c):∀x∈bT c,fX c x:=λx b=>by have:=(jT c).mem_iff.1 b;obtain⟨i,_,d⟩:=List.mem_filterMap.1 this;exact Mo a d
section
variable {K:Nat->Prop} {W W':World}
def Bm{b}(a:W'.heap[b]? =W.heap[b]?){o v}(h:W.cell? ⟨b,o,none⟩=some v):W'.cell? ⟨b,o,none⟩=some v:=(df a).trans h
def TV.on(g:∀b,K b->W'.heap[b]? =W.heap[b]?){q v}(h:CV K W q v):TV (λa b=>a=b/\K a) K W' q v v:=by
 cases h with
 |bool=>exact .bool _
 |int=>exact .int _ _
 |string=>exact .string _
 |empty=>exact .empty _ _
 | @slice _ i l c j=>
  cases i with
  |none=>exact .im _ _
  |some a=>obtain⟨b,o,p⟩:=a;obtain⟨f,d,m,e,F,k⟩:=j _ rfl;simp only[]at f;subst f;exact .slice _ _ ⟨rfl,d⟩ d ⟨_,_,_,(g b d).trans k⟩
def bI.on(e:∀b,K b->W'.heap[b]? =W.heap[b]?){sc c}(h:bI K W sc c):bI K W' sc c:=bI.carry (σ:=λa b=>a=b/\K a) ⟨λ_ _ _ f d=>f.1.symm.trans d.1,λb m o v j k g=>by obtain⟨rfl,l⟩:=j;exact⟨v,Bm (e b l) k,TV.on e g⟩⟩ rfl (λi v V f d g=>by rw[f]at d;cases d;exact TV.on e g) h
end
def Eo{fs}(L:bU fs){c}(d:OkC c)(e:∀r∈c.rules,r.kind<=3):uP fs c:=λr b=>by
 have g:=(d.rules r b).1;have h:=e r b;obtain⟨k,f⟩:=ex (r.kind.toNat);rw[<-f];have a:k<4:=by omega
 match k,a with
 |0,_=>exact Lc L
 |1,_=>exact O6 L
 |2,_=>exact O7 L
 |3,_=>exact Ld L
def masked{π:Ren Tryz.prog.globals.size}{W W' w B fz sc c}(i:∀g,g<5->π g g)(d:iO W)(n:bI (named π) W sc c)
 (a:∀b,named π b->W'.heap[b]? =W.heap[b]?) (o:∀b,named π b->(∃c e F,W.heap[b]? =some (.cells c e F))->B b) (j:w.heap=(cP (idR Tryz.prog.globals.size B) fz W').heap):
 bI (named π) w sc c/\gJ w/\hU w:=by
 have e:∀(p:Addr),w.cell? p=(cP (idR Tryz.prog.globals.size B) fz W').cell? p:=λp=>by unfold World.cell?;rw[j]
 refine⟨?_,?_,?_⟩
 ·have q:=n.on a
  have r:bI (named π) (cP (idR Tryz.prog.globals.size B) fz W') sc c:=q.mask λb l s=>o b l (by rw[<-a b l];exact s);exact r.stays λb c e f h=>by rw[j];exact h
 ·obtain⟨m,t⟩:=d.len
  exact⟨m,(e _).trans (oW (Bm (a 2 ⟨2,i 2 (by decide)⟩) t) (.int _ _))⟩
 ·intro k u
  exact(e _).trans (oW (Bm (a 0 ⟨0,i 0 (by decide)⟩) (d.kinds k u)) (zI _ _ (zH k)))
def JM{π:Ren Tryz.prog.globals.size}{xs:List Value}(h:∀x∈xs,∃k n,x=.int k n):xs.toArray.map (mask π)=xs.toArray:=by refine Ur (by simp) λi b a=>?_;simp only[Array.getElem_map];obtain⟨k,n,e⟩:=h (xs.toArray[i]) (To.1 (Us a));rw[e];exact iL (.int k n)
def GJ(k):∀x∈cu jW k,∃kd n,x=.int kd n:=λx b=>by obtain⟨l,c,a⟩:=VB.1 b;have:=VC c;subst this;simp[jW]at a;subst a;exact⟨_,_,rfl⟩
def mz:bU (fH nu):=oV nu
def xo:ti gn dJ:=by
 rintro Pr π w W v A L Y F ⟨ab,c,rfl,⟨hc,G⟩,t,h3,H,rfl⟩ I;obtain⟨sc,rfl,J⟩:=hc.rel F Y;have Z:gR (named π) W sc:=G.rel F Y;have p:∀g,g<5->π g g:=λg M=>I g (Sd M);have a:iO W:=H.rel F p;obtain⟨N,O,h9,P⟩:∃N O,sc[9]? =some (.slice N c.marks.length O)/\sc.size=11:=by obtain⟨v0,v1,v2,vr,vf,vm,vk,rfl,_,_,_,hm,_⟩:=J;obtain⟨ao,cm,rfl,_⟩:=hm;exact⟨ao,cm,rfl,rfl⟩
 have Q:=t.sq;refine⟨sc,c.marks.length,uH c,λ_=>gL (bT c),named π,N,O,rfl,h9,by rw[P];kernel_rfl,by omega,λb m=>m,?_,?_,λ_ _=>rfl,tj _⟩
 ·refine Jq (S:=lP) (fs:=fH nu) zF (λ_=>rfl) tt (by kernel_rfl) (λg d=>⟨⟨g,I g d⟩,a.cells g (SO d)⟩) a.size (λB r=>Z.self r) λi hi w' W' B fz f r k=>?_
  obtain⟨m1,m2,m3⟩:=masked p a J f r k;exact(Re mz i w' m1 t hi (Eo mz t h3) m2 m3).mono λe w2 ⟨u,s⟩=>⟨u,λb m=>s.block b m⟩
 ·refine Gp (S:=lP) (fs:=fH nu) zF (λ_=>rfl) tt (by kernel_rfl) (λg d=>⟨⟨g,I g d⟩,a.cells g (SO d)⟩) a.size (λB r=>Z.self r) (λhs R=>?_) λhs R w' W' B fz v6 N0 f r o y k=>?_
  ·obtain⟨l,rfl,z⟩:=zB R
   exact⟨by unfold gL;rw[Th,Th,z.length_eq],tj _⟩
  ·obtain⟨m1,m2,m3⟩:=masked p a J f r k
   obtain⟨l,rfl,z⟩:=zB R;have C:(gL l).length=l.length:=by unfold gL;rw[Th]
   rw[C,gM]at o;rw[C];obtain⟨rfl,h0⟩|⟨g,cap,rfl,D,T,ad,af,ag⟩:=o.2
   ·refine(Jw mz w').mono λe w2 ⟨u,s⟩=>⟨u,λg cap e=>by(cases e),λb m _=>by rw[s]⟩
   ·obtain⟨ak,U,V⟩:=y g rfl
    obtain⟨rest,h⟩:=ex (cu jW (cap-l.length));have j:w'.heap[g]? =some (.cells (bp l++rest).toArray 66 (0,0)):=by
     rw[k,fG,T,SQ];show some (Obj.cells ((bp l++cu jW (cap-l.length)).toArray.map (mask _)) 66 _)=_;rw[JM λx hx=>?_,h]
     ·congr 2
      exact RY U
     ·obtain hx|hx:=TS.1 hx
      ·obtain⟨n,hn⟩:=sI l x hx
       exact⟨_,n,hn⟩
      ·exact GJ _ x hx
    have X:g<w'.heap.size:=(R7.1 j).1;have an:l.length<=8:=by rw[z.length_eq,(jT c).length_eq];exact R3 (VY _ _) (by rw[Vw];exact Q)
    have q:=L6 mz (cap:=cap) (d0:=l.toArray) (rest:=rest) w' m1.days t (λb m D=>V (by rw[<-D];exact m)) (λx hx=>En t x (z.mem_iff.1 (by simpa using hx))) (by simp;omega) X ⟨R2 _,λ_ _ _=>rfl,by simpa using j⟩;have E:=Eg z;have hz:l.toArray.size=l.length:=by simp
    rw[hz]at q E;refine q.mono λe w2 ⟨u,s⟩=>⟨u,λg' aa e'=>?_,λb m ho=>s.other b m λe=>ho (by rw[e];rfl)⟩
    cases e';rw[gM,s.row,E,h]
def iQ:bU (fH g74):=oV g74
def zK{w w' v c}(h:fV w.heap.size w' v (bT c))(k:Below w.heap.size w w'):R77 (gL (bT c)) w v w':=by
 refine⟨k.size,λb i=>k.block b i,?_⟩;have a:(gL (bT c)).length=(bT c).length:=by unfold gL;rw[Th]
 rw[a,gM];obtain⟨⟨r,m⟩,n⟩:=h;by_cases f:bT c=[]
 ·exact .inl ⟨by rw[f];rfl,n f⟩
 ·refine .inr ⟨λe=>f (by unfold gL at e;simpa using e),?_⟩
  have l:0<(bT c).length:=Tv.2 f;obtain⟨_,s⟩|⟨g,cap,o,e,t,p,x,y,z,q⟩:=m
  ·omega
  ·refine⟨⟨g,0,none⟩,cap,e,λj u d=>?_⟩
   rw[show(Addr.add ⟨g,0,none⟩ j)=⟨g,0+j,none⟩ by simp[Addr.add];omega];refine cell_of_heap p _ _ ?_;rw[Se,<-Tg];rw[<-q]at d;rw[VE]at d;split at d
   ·exact d
   ·cases d
def JV(P a f2):ah (ah P a) f2=ah P f2:=rfl
def oD{c}(a:OkC c):(bT c).length<=8:=by rw[(jT c).length_eq];exact R3 (VY _ _) (by rw[Vw];exact a.sq)
def Ep{Post}:m6 gn (fH g74) Post dJ:=by
 have j:(fH g74)[77]? =some Tryz.f77:=(tk _ _).symm.trans (n77 iQ);refine Ee (S₁:=lP) (fs₁:=fH nu) (rL g74) j (by kernel_rfl) (by kernel_rfl) JF GA (λ_=>rfl) tt (by kernel_rfl) qo ?_ ?_ ?_ ?_ ?_ ?_
 ·rintro w v L ⟨sc,c,rfl,d,f,i,a,rfl⟩
  exact a.size
 ·rintro w v L ⟨sc,c,rfl,d,f,i,a,rfl⟩
  refine⟨?_,tj _⟩;have:=oD f;unfold gL;rw[Th];omega
 ·rintro w v L ⟨sc,c,rfl,d,f,i,a,rfl⟩ g m
  exact a.cells g (SO m)
 ·rintro w v L ⟨sc,c,rfl,d,f,i,a,rfl⟩
  exact⟨⟨sc,c,rfl,⟨d.1.mask λb _ h=>h,d.2.mask⟩,f,i,a.mask,rfl⟩,d.2.self λb _ h=>h⟩
 ·rintro w v L ⟨sc,c,rfl,d,f,i,a,rfl⟩
  exact(vC iQ w d.1 f).mono λe w' ⟨v,k,l,i⟩=>⟨v,k,zK l i⟩
 ·rintro w v L ⟨sc,c,rfl,d,f,i,a,rfl⟩
  rw[JV];exact(vC mz w d.1 f).mono λe w' ⟨v,k,l,i⟩=>⟨v,k⟩
end Go.Proofs

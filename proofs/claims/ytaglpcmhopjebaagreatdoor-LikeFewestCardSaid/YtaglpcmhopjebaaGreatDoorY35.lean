import Derived.Test.YtaglpcmhopjebaaGreatDoorY34
set_option linter.all false
set_option maxRecDepth 100000
set_option maxHeartbeats 20000000
namespace Go.Proofs
open Go.Tm Go.RowKit
variable {fs:Array Func} (L:bQ fs)
def Oj(a b c):dX [a,b,c]=if a≠0 then a else if b≠0 then b else c:=by simp only[dX];by_cases d:a=0<;>by_cases e:b=0<;>by_cases f:c=0<;>simp[d,e,f]
def Ok(a b):dX [a,b]=if a≠0 then a else b:=by simp only[dX];by_cases c:a=0<;>by_cases d:b=0<;>simp[c,d]
def Cm(a b c:Int)(w:World):Calls (Qs fs) 51 #[.slice (some ⟨w.heap.size,0,none⟩) 3 3] (w.alloc (.cells #[.int .i64 a,.int .i64 b,.int .i64 c] 29)) λe w'=>e=.returned (.int .i64 (if a≠0 then a else if b≠0 then b else c))/\w'=w.alloc (.cells #[.int .i64 a,.int .i64 b,.int .i64 c] 29):=by
 have h:=uL L w.heap.size 0 3 [a,b,c] (w.alloc (.cells #[.int .i64 a,.int .i64 b,.int .i64 c] 29)) (by show 3<=_;decide) (λk d=>by
  rw[RB]
  match k,d with
  |0,_=>exact aw w _ 29 0 _ rfl
  |1,_=>exact aw w _ 29 1 _ rfl
  |2,_=>exact aw w _ 29 2 _ rfl)
 rw[Oj]at h;exact h
def de(a b:Int)(w:World):Calls (Qs fs) 51 #[.slice (some ⟨w.heap.size,0,none⟩) 2 2] (w.alloc (.cells #[.int .i64 a,.int .i64 b] 29)) λe w'=>e=.returned (.int .i64 (if a≠0 then a else b))/\w'=w.alloc (.cells #[.int .i64 a,.int .i64 b] 29):=by
 have h:=uL L w.heap.size 0 2 [a,b] (w.alloc (.cells #[.int .i64 a,.int .i64 b] 29)) (by show 2<=_;decide) (λk c=>by
  rw[RB]
  match k,c with
  |0,_=>exact aw w _ 29 0 _ rfl
  |1,_=>exact aw w _ 29 1 _ rfl)
 rw[Ok]at h;exact h
def kj{w w2 w3 a p}(d:∀B,B<=a->Below B w w2)(e:ae w w2)(b:bL w2 a p)(c:Below w2.heap.size w2 w3):bL w3 a p/\(∀B,B<=a->Below B w w3)/\ae w w3:=⟨b.keep (c.block a b.lt),λB f=>(d B f).trans (c.mono (by have:=b.lt;omega)),e.trans (ae.below c)⟩
def Ae(a:Bool)(p:Pr2):Int:=if !dq p.1 4 then 3 else if a then 5 else if !bR p.2 1 3 then 3 else 0
def EU(a b c):(if(if(!a)=true then(3:Int)else 0)≠0 then(if(!a)=true then(3:Int)else 0)else if(if b=true then(5:Int)else 0)≠0 then(if b=true then(5:Int)else 0)else(if(!c)=true then(3:Int)else 0))=if(!a)=true then 3 else if b=true then 5 else if(!c)=true then 3 else 0:=by cases a<;>cases b<;>cases c<;>rfl
def Af(j:Int)(q:Pr2)(Y k:Nat)(p:ByteArray->Bool)(w:World)(s:w.cell? ⟨Y,0,none⟩=some (.map (some k)))(F:bL w k p):
 Calls (Qs fs) 98 #[.int .i64 j,.agg #[.string q.1,.string q.2],.pointer (some ⟨Y,0,none⟩)] w λe w'=>e=.returned (.int .i64 (Ae (p q.1) q))/\bL w' k (λt=>p t||decide (t=q.1))/\(∀B,B<=k->Below B w w')/\ae w w':=by
 have e99:=e99 L;have e52:=e52 L;have e72:=e72 L;have e51:=e51 L;obtain⟨w1,d⟩:=ex (w.alloc (.cells #[.string q.1,.string q.2] 46));have G:ae w w1:=by rw[d];exact ae.alloc _ _
 have H:Below w.heap.size w w1:=by rw[d];exact aF _ _
 have ct:∀i v,(#[.string q.1,.string q.2]:Array Value)[i]? =some v->w1.cell? ⟨w.heap.size,i,none⟩=some v:=λi v h=>by rw[d];exact aw w _ 46 i v h
 obtain⟨N,I⟩:=ex (w.heap.size);have l:=F.keep (H.block k F.lt);have u:=sN fs l q.1;obtain⟨w2,J,y,z,a⟩:=ki fs l q.1;have b1:=G.cell s;have K:=ct 0 _ rfl;have M:=ct 1 _ rfl;rw[<-I]at K M;obtain⟨c,g⟩:=ex (p q.1);rw[<-g]at u;have HH:Hid _:=g;have O:Hid ((∀B,B<=k->Below B w w2)/\ae w w2/\bL w2 k (λt=>p t||decide (t=q.1))):=⟨λB hB=>(H.mono (by have:=F.lt;omega)).trans (z B hB),G.trans a,y⟩
 have A:=a.cell K;have C:=a.cell M;have x0:=λx:aj w2 w2=>x.cell A;have x1:=λx:aj w2 w2=>x.cell C;have m:=λx:aj w2 w2=>aj.calls (vG L q.1 4 x.val (by decide));have n:=λx:aj w2 w2=>aj.calls (iJ L q.2 1 3 x.val (by decide));have b:Hid (Ae c q=if(!dq q.1 4)=true then 3 else if c=true then 5 else if(!bR q.2 1 3)=true then 3 else 0):=rfl;obtain⟨P,D⟩:=ex (dq q.1 4);obtain⟨Q,E⟩:=ex (bR q.2 1 3);rw[<-D]at m b;rw[<-E]at n b;have R:=λx:aj w2 w2=>aj.same (dm L (!P) 3 x.val);have S:=λx:aj w2 w2=>aj.same (dm L c 5 x.val);have T:=λx:aj w2 w2=>aj.same (dm L (!Q) 3 x.val);obtain⟨U,o⟩:∃f:Int,f=if(!P)=true then 3 else 0:=⟨_,rfl⟩
 obtain⟨fb,hfb⟩:∃f:Int,f=if c=true then 5 else 0:=⟨_,rfl⟩
 obtain⟨Z,r⟩:∃f:Int,f=if(!Q)=true then 3 else 0:=⟨_,rfl⟩
 rw[<-o]at R;rw[<-hfb]at S;rw[<-r]at T;have HF:Hid ((if U≠0 then U else if fb≠0 then fb else Z)=Ae c q):=by rw[Hid,b.out,o,hfb,r];exact EU P c Q
 clear D E o hfb r b g;go_enter (n98 L),Tryz.ntmps98;go_upto_region 1 with fail;rw[<-d,<-I];clear d I ct G H l y z a F s;go_upto_region 3 with fail;clear u J b1 K M A C;refine aT (w0:=w2) (w1:=w2) 12 (by kernel_rfl) (by kernel_rfl) (ae.refl _) (Below.refl _ _) ?_;simp only[R7,Si,Sk,Sj];haveI V:Nonempty (aj w2 w2):=⟨⟨w2,ae.refl _,Below.refl _ _⟩⟩
 repeat (go_big_quiet_step (first|(go_at_call 99;exact m _)|(go_at_call 72;exact n _)|(go_at_call 52;exact R _)|(go_at_call 52;exact S _)|(go_at_call 52;exact T _)))
 refine wpQuiet_nil ?_;rintro W ⟨⟨_,Sz,Bz⟩,rfl⟩;have X:=Cm L U fb Z W;rw[HF.out]at X;have SB:Hid _:=(⟨Sz,Bz⟩:ae w2 W/\Below w2.heap.size w2 W)
 clear m n R S T x0 x1 V Sz Bz;go_wp2_with (first|(go_at_call 51;refine X.mono ?_;clear X;rintro e w3 ⟨rfl,rfl⟩))
 go_ret;refine⟨by rw[HH.out];rfl,?_⟩;exact O.out.1|>λh=>kj h O.out.2.1 O.out.2.2 (SB.out.2.alloc SB.out.2.size _)
theorem pg{c:Type}(a:List c->c->Int)(l:List c)(d:Nat->Int)(h:∀j (e:j<l.length),d j=a (l.take j) l[j]):∀n j,j+n=l.length->eM d n j=kH a (l.take j) (l.drop j)
 |0,j,e=>by rw[RY (by omega)];rfl
 |n+1,j,e=>by
  have b:j<l.length:=by omega
  rw[SE b];unfold eM kH;rw[h j b,pg a l d h n (j+1) (by omega),Tn b]
def J8{b:Type}{a:List b->b->Int}{l:List b}{c:Nat->Int}(d e:Int)(h:∀j (f:j<l.length),c j=a (l.take j) l[j]):vC d e c l.length=bp d e a l:=by
 unfold vC bp;split
 ·rw[pg a l c h l.length 0 (by omega)]
  rfl
 ·rfl
def uq{a:Type}(b:List a->a->Int)(l:List a)(j:Nat):Int:=if h:j<l.length then b (l.take j) l[j]else 0
def hZ{b}(a)(l:List b)(j)(h:j<l.length):uq a l j=a (l.take j) l[j]:=Tx h
def nc.p{i fs f a c d g n v w b}{l:List i}(h:nc fs f a (uq b l) c d g n v l.length w):Calls (Qs fs) n #[v,.int .i64 d,.int .i64 g,.func (.func f) #[] a] w λe w'=>e=.returned (.int .i64 (bp d g b l))/\∃j,c j w':=by rw[<-J8 d g λj k=>hZ b l j k];exact h
def lA{a:Type}(l:List a)(f j)(h:j<l.length):(l.take (j+1)).any f=((l.take j).any f||f l[j]):=by rw[Tn h,List.any_append];simp
def kM(a b:ByteArray):decide (a=b)=decide (b=a):=by
 by_cases h:a=b
 ·subst h;rfl
 ·rw[Rz h,Rz (RN h)]
def Cn{K:Nat->Prop}{v0 v1 v2:Value}{l:List Pr2}(w:World)(d:aB K 2 dC w v0 l):
 Calls (Qs fs) 55 #[.agg #[v0,v1,v2]] w λe w'=>e=.returned (.int .i64 (bp 0 12 letterF l))/\Below w.heap.size w w':=by
 have e97:=e97 L;obtain⟨g,a⟩:=ex (w.alloc (.cells #[v0,v1,v2] 100));obtain⟨i,b⟩:=ex (g.alloc (.map #[] 0));obtain⟨w1,c⟩:=ex (i.alloc (.cells #[.map (some (w.heap.size+1))] 133));have f:g.heap.size=w.heap.size+1:=by rw[a];simp
 have hsb:i.heap.size=w.heap.size+1+1:=by rw[b,<-f];simp
 have x:ae i w1:=by rw[c];exact ae.alloc _ _
 have v:ae g w1:=(by rw[b];exact ae.alloc _ _:ae g i).trans x;have y:ae w w1:=(by rw[a];exact ae.alloc _ _:ae w g).trans v;have z:Below w.heap.size w w1:=by rw[c,b,a];exact(((Below.refl _ w).alloc (Rq _) _).alloc (by simp) _).alloc (by simp;omega) _
 have ct:w1.cell? ⟨w.heap.size,0,none⟩=some v0:=v.cell (by rw[a];exact aw w _ 100 0 _ rfl);have A:w1.cell? ⟨w.heap.size+1+1,0,none⟩=some (.map (some (w.heap.size+1))):=by rw[c,<-hsb];exact aw i _ 133 0 _ rfl
 have k:bL w1 (w.heap.size+1) (λ_=>false):=by have h:=bL.new g;rw[f,<-b]at h;exact h.keep (by rw[c];exact Below.heap_alloc i _ _ (by omega))
 have m:=d.yJ y;have n:=(iS L 98 #[.pointer (some ⟨w.heap.size+1+1,0,none⟩)] 0 12 w1 (λj wr=>ae w1 wr/\Below w.heap.size w wr/\bL wr (w.heap.size+1) (λt=>(l.take j).any (λq=>decide (q.1=t)))) (uq letterF l) (e98 L)
  ⟨ae.refl _,z,k⟩ (λj wr h=>h.1) (λj wr o h=>⟨h.1.trans (ae.alloc _ _),h.2.1.alloc h.2.1.size _,h.2.2.keep (Below.heap_alloc wr o _ h.2.2.lt)⟩)).1 _ m
  (λj B wr h=>(Af L j l[j] (w.heap.size+1+1) (w.heap.size+1) _ wr (h.1.cell A) h.2.2).mono λe w' s=>⟨by rw[hZ _ _ _ B];exact s.1,h.1.trans s.2.2.2,h.2.1.trans (s.2.2.1 _ (by omega)),s.2.1.iff λt=>by rw[lA l _ j B,kM t]⟩)
 have n:=n.p;obtain⟨N,u⟩:=ex (w.heap.size);rw[<-u]at ct n;have r:Calls (Qs fs) 97 #[v0,.int .i64 0,.int .i64 12,.func (.func 98) #[] #[.pointer (some ⟨N+1+1,0,none⟩)]] w1 λe w'=>e=.returned (.int .i64 (bp 0 12 letterF l))/\Below w.heap.size w w':=n.mono λe w' h=>by obtain⟨D,j,C,E,_⟩:=h;exact⟨D,by rw[<-u];exact E⟩
 have F:∀(fn:Fn) (first cap:Array Value) (w:World),(Instr.makeFunc fn first cap).run (Qs fs) w=.ok (.func fn first cap) w:=λ_ _ _ _=>rfl;have G:∀(t:TypeId) (w:World),(Instr.makeMap t none).run (Qs fs) w=.ok (.map (some w.heap.size)) (w.alloc (.map #[] 0)):=λ_ _=>rfl;clear n k A m y z d;go_enter (n55 L),Tryz.ntmps55;go_upto_region 2 with fail;rw[<-a,<-b,<-c,<-u];clear a b c f hsb v x u;go_wp2_with (first|(go_at_call 97;refine r.mono ?_;clear r;rintro e w2 ⟨rfl,C⟩))
 go_ret;exact⟨rfl,C⟩
def Co(j:Int)(q:Pr2)(w:World):
 Calls (Qs fs) 104 #[.int .i64 j,.agg #[.string q.1,.string q.2]] w λe w'=>e=.returned (.int .i64 (ju [] q))/\Below w.heap.size w w':=by
 have e52:=e52 L;have e72:=e72 L;have s:Hid (ju [] q=if(!bR q.1 1 3|| !bR q.2 0 q.1.size)=true then 3 else 0):=rfl;obtain⟨w1,a⟩:=ex (w.alloc (.cells #[.string q.1,.string q.2] 51));have o:Below w.heap.size w w1:=by rw[a];exact aF _ _
 have ct:∀i v,(#[.string q.1,.string q.2]:Array Value)[i]? =some v->w1.cell? ⟨w.heap.size,i,none⟩=some v:=λi v h=>by rw[a];exact aw w _ 51 i v h
 obtain⟨N,l⟩:=ex (w.heap.size);have t:=ct 0 _ rfl;have u:=ct 1 _ rfl;rw[<-l]at t u;have g:=λf=>iJ L q.1 1 3 f (by decide);have k:Hid _:=o;cases d:bR q.1 1 3 with
 |false=>
  rw[d]at g;have n:Hid (ju [] q=3):=by rw[Hid,s.out,d];rfl
  have c:=λf=>dm L true 3 f;simp only[RG]at c;clear d;go_enter (n104 L),Tryz.ntmps104;go_upto_region 1 with fail;rw[<-a,<-l];clear a l ct o;go_wp2_with (first|(go_at_call 72;refine(g _).mono ?_;clear g;rintro e w2 ⟨rfl,b⟩)|(go_at_call 52;refine(c _).mono ?_;rintro e w3 ⟨rfl,rfl⟩))
  go_ret;exact⟨by rw[n.out];rfl,k.out.trans (b.mono k.out.size)⟩
 |true=>
  rw[d]at g;have x:q.1.size<=1000:=by unfold bR au at d;simp only[RD,RJ]at d;omega
  have n:Hid (ju [] q=if(!bR q.2 0 q.1.size)=true then 3 else 0):=by rw[Hid,s.out,d];rfl
  have p:=λf=>iJ L q.2 0 q.1.size f (by omega);obtain⟨z,m⟩:=ex (bR q.2 0 q.1.size);rw[<-m]at p n;have c:=λf=>dm L (!z) 3 f;rw[<-n.out]at c;clear d m;go_enter (n104 L),Tryz.ntmps104;go_upto_region 1 with fail;rw[<-a,<-l];clear a l ct o;go_wp2_with (first|(go_at_call 72;refine(g _).mono ?_;clear g;rintro e w2 ⟨rfl,b⟩;have y:=(ae.below b).cell t;have A:=(ae.below b).cell u)|(go_at_call 72;refine(p _).mono ?_;clear p;rintro e w3 ⟨rfl,r⟩)|(go_at_call 52;refine(c _).mono ?_;rintro e w4 ⟨rfl,rfl⟩))
  go_ret;exact⟨rfl,(k.out.trans (b.mono k.out.size)).trans (r.mono (k.out.trans (b.mono k.out.size)).size)⟩
def J9{K:Nat->Prop}{v:Value}{l:List Pr2}(w:World)(a:aB K 2 dC w v l):Calls (Qs fs) 103 #[v,.int .i64 0,.int .i64 5,.func (.func 104) #[] #[]] w λe w'=>e=.returned (.int .i64 (bp 0 5 ju l))/\Below w.heap.size w w':=by
 have b:=(iS L 104 #[] 0 5 w (λ_ wr=>Below w.heap.size w wr) (uq ju l) (QT L) (Below.refl _ _) (λj wr h=>ae.below h) (λj wr o h=>h.alloc h.size _)).2.1 _ a
  (λj d wr h=>(Co L j l[j] wr).mono λe w' c=>⟨by rw[hZ _ _ _ d];exact c.1,h.trans (c.2.mono h.size)⟩)
 have b:=b.p;exact b.mono λe w' h=>⟨h.1,h.2.choose_spec⟩
def qY(a:Bool)(x:kY):Int:=if !gS x.name then 4 else if a then 5 else bp 0 5 ju x.aY
def EV{K:Nat->Prop}(j:Int)(x:kY)(Z:Value)(bv u:Nat)(p:ByteArray->Bool)(w:World)(D:w.cell? ⟨bv,0,none⟩=some (.map (some u)))(O:bL w u p)(l:aB K 2 dC w Z x.aY):
 Calls (Qs fs) 101 #[.int .i64 j,.agg #[.string x.name,Z],.pointer (some ⟨bv,0,none⟩)] w λe w'=>e=.returned (.int .i64 (qY (p x.name) x))/\bL w' u (λt=>p t||decide (t=x.name))/\(∀B,B<=u->Below B w w')/\ae w w':=by
 have Mj:=Mj L;have e52:=e52 L;have Pk:=Pk L;have e51:=e51 L;obtain⟨ao,cp,rfl,aa,ab,_⟩:=id l;obtain⟨w1,m⟩:=ex (w.alloc (.cells #[.string x.name,.slice ao x.aY.length cp] 50));have P:ae w w1:=by rw[m];exact ae.alloc _ _
 have Q:Below w.heap.size w w1:=by rw[m];exact aF _ _
 have ct:∀i v,(#[.string x.name,.slice ao x.aY.length cp]:Array Value)[i]? =some v->w1.cell? ⟨w.heap.size,i,none⟩=some v:=λi v h=>by rw[m];exact aw w _ 50 i v h
 obtain⟨N,R⟩:=ex (w.heap.size);have y:=O.keep (Q.block u O.lt);have F:=sN fs y x.name;obtain⟨w2,S,G,H,d⟩:=ki fs y x.name;have b1:=P.cell D;have T:=ct 0 _ rfl;have U:=ct 1 _ rfl;rw[<-R]at T U;obtain⟨b,n⟩:=ex (p x.name);rw[<-n]at F;have V:Hid _:=n;have q:Hid ((∀B,B<=u->Below B w w2)/\ae w w2/\bL w2 u (λt=>p t||decide (t=x.name))):=⟨λB hB=>(Q.mono (by have:=O.lt;omega)).trans (H B hB),P.trans d,G⟩
 have ad:=d.cell T;have I:=d.cell U;have HR:Hid (∀c,ae w c->Calls (Qs fs) 103 #[.slice ao x.aY.length cp,.int .i64 0,.int .i64 5,.func (.func 104) #[] #[]] c λe w'=>e=.returned (.int .i64 (bp 0 5 ju x.aY))/\Below c.heap.size c w'):=λc hx=>J9 L c (l.yJ hx);have g:Hid (qY b x=if(!gS x.name)=true then 4 else if b=true then 5 else bp 0 5 ju x.aY):=rfl;have z:=Gz L x.name w2;obtain⟨z1,J⟩:=ex (gS x.name);rw[<-J]at z g;have s:=λc=>dm L (!z1) 4 c;have r:=λc=>dm L b 5 c;have M:Hid (w2.cell? ⟨N,1,none⟩=some (.slice ao x.aY.length cp)):=I;clear J n;go_enter (n101 L),Tryz.ntmps101;go_upto_region 1 with fail;rw[<-m,<-R];clear m R ct P Q y G H d O D l;go_upto_region 3 with fail;clear F S b1 T U I;cases z1 with
 |false=>
  have k:=λc:World=>de L 4 (if b=true then 5 else 0) c;have C:Hid (qY b x=4):=by rw[Hid,g.out];rfl
  simp only[TW,RG]at s;rw[show(if(4:Int)≠0 then(4:Int)else if b=true then 5 else 0)=4 from rfl]at k;obtain⟨fb,hfb⟩:∃f:Int,f=if b=true then 5 else 0:=⟨_,rfl⟩
  simp only[<-hfb]at r k;clear hfb;go_wp2_with (first|(go_at_call 102;refine z.mono ?_;clear z;rintro e w3 ⟨rfl,a⟩)|(go_at_call 52;refine(s _).mono ?_;clear s;rintro e w4 ⟨rfl,rfl⟩)|(go_at_call 52;refine(r _).mono ?_;clear r;rintro e w4 ⟨rfl,rfl⟩)|(go_at_call 51;refine(k _).mono ?_;clear k;rintro e w4 ⟨rfl,rfl⟩))
  go_ret;exact⟨by rw[<-V.out,C.out];rfl,kj q.out.1 q.out.2.1 q.out.2.2 (a.alloc a.size _)⟩
 |true=>
  simp only[Tj,RQ,RP]at s;cases b with
  |true=>
   have k:=λc:World=>de L 0 5 c;have C:Hid (qY true x=5):=by rw[Hid,g.out];rfl
   simp only[RG]at r;rw[show(if(0:Int)≠0 then(0:Int)else 5)=5 from rfl]at k;go_wp2_with (first|(go_at_call 102;refine z.mono ?_;clear z;rintro e w3 ⟨rfl,a⟩;have A:=(ae.below a).cell M.out;have W:=λo:Obj=>(ae.alloc w3 o).cell A)|(go_at_call 52;refine(s _).mono ?_;clear s;rintro e w4 ⟨rfl,rfl⟩)|(go_at_call 52;refine(r _).mono ?_;clear r;rintro e w4 ⟨rfl,rfl⟩)|(go_at_call 51;refine(k _).mono ?_;clear k;rintro e w4 ⟨rfl,rfl⟩))
   go_ret;exact⟨by rw[<-V.out,C.out];rfl,kj q.out.1 q.out.2.1 q.out.2.2 (a.alloc a.size _)⟩
  |false=>
   have k:=λc:World=>de L 0 0 c;have C:Hid (qY false x=bp 0 5 ju x.aY):=by rw[Hid,g.out];rfl
   simp only[RQ,RP]at r;rw[show(if(0:Int)≠0 then(0:Int)else 0)=0 from rfl]at k;obtain⟨E,hE⟩:=ex (bp 0 5 ju x.aY);rw[<-hE]at HR C;clear hE;go_wp2_with (first|(go_at_call 102;refine z.mono ?_;clear z;rintro e w3 ⟨rfl,a⟩;have A:=(ae.below a).cell M.out;have W:=λo:Obj=>(ae.alloc w3 o).cell A)|(go_at_call 52;refine(s _).mono ?_;clear s;rintro e w4 ⟨rfl,rfl⟩)|(go_at_call 52;refine(r _).mono ?_;clear r;rintro e w4 ⟨rfl,rfl⟩)|(go_at_call 51;refine(k _).mono ?_;clear k;rintro e w4 ⟨rfl,rfl⟩)|(go_at_call 103;refine(HR.out _ (q.out.2.1.trans ((ae.below a).trans (ae.alloc _ _)))).mono ?_;rintro e w5 ⟨rfl,X⟩))
   go_ret;have Y:=(a.alloc a.size (.cells #[.int .i64 0,.int .i64 0] 29)).trans (X.mono (a.alloc a.size (.cells #[.int .i64 0,.int .i64 0] 29)).size);exact⟨by rw[<-V.out,C.out];rfl,kj q.out.1 q.out.2.1 q.out.2.2 Y⟩
def Hw{K:Nat->Prop}{v0 v1 v2:Value}{l:List kY}(w:World)(f:aB K 2 fW w v1 l):
 Calls (Qs fs) 56 #[.agg #[v0,v1,v2]] w λe w'=>e=.returned (.int .i64 (bp 0 3 mr l))/\Below w.heap.size w w':=by
 have Pj:=Pj L;obtain⟨i,a⟩:=ex (w.alloc (.cells #[v0,v1,v2] 100));obtain⟨k,c⟩:=ex (i.alloc (.map #[] 0));obtain⟨w1,d⟩:=ex (k.alloc (.cells #[.map (some (w.heap.size+1))] 133));have g:i.heap.size=w.heap.size+1:=by rw[a];simp
 have hsb:k.heap.size=w.heap.size+1+1:=by rw[c,<-g];simp
 have A:ae k w1:=by rw[d];exact ae.alloc _ _
 have y:ae i w1:=(by rw[c];exact ae.alloc _ _:ae i k).trans A;have z:ae w w1:=(by rw[a];exact ae.alloc _ _:ae w i).trans y;have B:Below w.heap.size w w1:=by rw[d,c,a];exact(((Below.refl _ w).alloc (Rq _) _).alloc (by simp) _).alloc (by simp;omega) _
 have ct:w1.cell? ⟨w.heap.size,1,none⟩=some v1:=y.cell (by rw[a];exact aw w _ 100 1 _ rfl);have C:w1.cell? ⟨w.heap.size+1+1,0,none⟩=some (.map (some (w.heap.size+1))):=by rw[d,<-hsb];exact aw k _ 133 0 _ rfl
 have m:bL w1 (w.heap.size+1) (λ_=>false):=by have h:=bL.new i;rw[g,<-c]at h;exact h.keep (by rw[d];exact Below.heap_alloc k _ _ (by omega))
 have n:aB K 2 fW w1 v1 l:=f.stays z λb O o x e h=>by subst e;exact fW.carry (Carry.keep z) b b o x rfl h
 have r:=(iS L 101 #[.pointer (some ⟨w.heap.size+1+1,0,none⟩)] 0 3 w1 (λj wr=>ae w1 wr/\Below w.heap.size w wr/\bL wr (w.heap.size+1) (λt=>(l.take j).any (λq=>decide (q.name=t)))) (uq mr l) (QS L)
  ⟨ae.refl _,B,m⟩ (λj wr h=>h.1) (λj wr o h=>⟨h.1.trans (ae.alloc _ _),h.2.1.alloc h.2.1.size _,h.2.2.keep (Below.heap_alloc wr o _ h.2.2.lt)⟩)).2.2.2.2.2.2.2.1 _ n
  (λj D wr h F G=>(EV L j l[j] F (w.heap.size+1+1) (w.heap.size+1) _ wr (h.1.cell C) h.2.2 G).mono λe w' u=>⟨by rw[hZ _ _ _ D];exact u.1,h.1.trans u.2.2.2,h.2.1.trans (u.2.2.1 _ (by omega)),u.2.1.iff λt=>by rw[lA l _ j D,kM t]⟩)
 have r:=r.p;obtain⟨N,v⟩:=ex (w.heap.size);rw[<-v]at ct r;have s:Calls (Qs fs) 100 #[v1,.int .i64 0,.int .i64 3,.func (.func 101) #[] #[.pointer (some ⟨N+1+1,0,none⟩)]] w1 λe w'=>e=.returned (.int .i64 (bp 0 3 mr l))/\Below w.heap.size w w':=r.mono λe w' h=>by obtain⟨H,j,E,I,_⟩:=h;exact⟨H,by rw[<-v];exact I⟩
 have J:∀(fn:Fn) (first cap:Array Value) (w:World),(Instr.makeFunc fn first cap).run (Qs fs) w=.ok (.func fn first cap) w:=λ_ _ _ _=>rfl;have M:∀(t:TypeId) (w:World),(Instr.makeMap t none).run (Qs fs) w=.ok (.map (some w.heap.size)) (w.alloc (.map #[] 0)):=λ_ _=>rfl;clear r m C n z B f;go_enter (n56 L),Tryz.ntmps56;go_upto_region 2 with fail;rw[<-a,<-c,<-d,<-v];clear a c d g hsb y A v;go_wp2_with (first|(go_at_call 100;refine s.mono ?_;clear s;rintro e w2 ⟨rfl,E⟩))
 go_ret;exact⟨rfl,E⟩
def MH{K:Nat->Prop}{v:Value}{l:List ByteArray}(s:ByteArray)(w:World)(k:aB K 1 kF w v l):
 Calls (Qs fs) 137 #[v,.string s] w λe w'=>(∃z:Int,e=.returned (.int .i64 z)/\decide (0<=z)=l.any (λt=>decide (t=s)))/\w'=w:=by
 obtain⟨ao,c,rfl,A,G,B,d⟩:=k;have C:Hid _:=d;clear d;go_enter (n137 L),Tryz.ntmps137;go_wp2;go_loopw [8] (λz wr=>∃j:Nat,j<=l.length/\z=.int .i64 j/\wr=w/\∀i (m:i<l.length),i<j->l[i]≠s) (λz _=>l.length-(intOf z).toNat)
 case atStart=>exact⟨0,RA _,rfl,rfl,λi m h=>by omega⟩
 case round=>
  obtain⟨j,H,rfl,rfl,n⟩:=hrel;have u:Hid _:=n;clear n;obtain o|hge:=Ry j l.length
  ·obtain⟨b,q,rfl,p⟩:=C.out j o
   rw[SG]at p;have r:wr.cell? ⟨b,q+j,none⟩=some (.string l[j]):=p;have D:(j:Int)<(l.length:Int):=by omega
   obtain⟨x,f⟩:=ex (l[j]);rw[<-f]at r;have y:Hid _:=f;clear p f;by_cases a:s=x
   ·have E:(s.toList==x.toList)=true:=by rw[qu];exact RE a
    have g:Hid _:=a;clear a;go_wp2;go_ret;refine⟨⟨(j:Int),rfl,?_⟩,rfl⟩;rw[RE (by omega),Tw,Ta];exact⟨l[j],RR o,RE (by rw[g.out,y.out])⟩
   ·have E:(s.toList==x.toList)=false:=by rw[qu];exact Rz a
    have g:Hid _:=a;clear a;go_wp2;refine⟨⟨j+1,by omega,by go_num,trivial,λi m F=>?_⟩,by simp[intOf];omega⟩;by_cases h:i<j
    ·exact u.out i m h
    ·obtain rfl:i=j:=by omega
     rw[<-y.out];exactλh=>g.out h.symm
  ·go_wp2
   go_ret;refine⟨⟨-1,rfl,?_⟩,rfl⟩;rw[Rz (by decide),Tw,T2];intro x p;obtain⟨i,m,rfl⟩:=TK.1 p;simpa using u.out i m (by omega)
def pU{K:Nat->Prop}{v:Value}{l:List ByteArray}(s:ByteArray)(w:World)(a:aB K 1 kF w v l):
 Calls (Qs fs) 109 #[v,.string s] w λe w'=>e=.returned (.bool (l.any (λt=>decide (t=s))))/\w'=w:=by
 have PD:=PD L;have b:=MH L s w a;clear a;go_enter (n109 L),Tryz.ntmps109;go_wp2_with (first|(go_at_call 137;refine b.mono ?_;clear b;rintro e w2 ⟨⟨z,rfl,c⟩,rfl⟩;have d:Hid _:=c;clear c))
 go_ret;exact⟨by rw[<-d.out];rfl,rfl⟩
def Ka(a b):(if(if(!a)=true then(3:Int)else 0)≠0 then(if(!a)=true then(3:Int)else 0)else(if b=true then(5:Int)else 0))=if(!a)=true then 3 else if b=true then 5 else 0:=by cases a<;>cases b<;>rfl
def aB.take{g K f E w ao c}{l:List g}(h:aB K f E w (.slice ao l.length c) l)(j)(i:j<=l.length):aB K f E w (.slice ao j c) (l.take j):=by obtain⟨a,c',e,r,m,n,o⟩:=h;cases e;refine⟨ao,c,by rw[R9,Up i],by rw[R9];omega,m,n,λk p=>?_⟩;rw[R9]at p;obtain⟨b,d,e,q⟩:=o k (by omega);exact⟨b,d,e,by rw[List.getElem_take];exact q⟩
def EW{K:Nat->Prop}{ao:Option Addr}{c:Nat}{l:List ByteArray}(j:Nat)(F:j<l.length)(B:Nat)(w:World)(n:w.cell? ⟨B,0,none⟩=some (.slice ao l.length c))(d:aB K 1 kF w (.slice ao l.length c) l):
 Calls (Qs fs) 108 #[.int .i64 j,.string l[j],.pointer (some ⟨B,0,none⟩)] w λe w'=>e=.returned (.int .i64 (uU (l.take j) l[j]))/\Below w.heap.size w w':=by
 have e52:=e52 L;have e72:=e72 L;have e51:=e51 L;have Mk:=Mk L;obtain⟨R,c',G,H,I,p,g⟩:=id d;cases G;obtain⟨b,J,rfl,_⟩:=g j F;clear g;have o:Hid (uU (l.take j) l[j]=if(!bR l[j] 1 48)=true then 3 else if((l.take j).any λt=>decide (t=l[j]))=true then 5 else 0):=rfl;have h:=λx:aj w w=>aj.calls (iJ L l[j] 1 48 x.val (by decide));have a:=λx:aj w w=>aj.same (pU L l[j] x.val ((d.strs x.st).take j (by omega)));obtain⟨s,C⟩:=ex (l[j]);rw[<-C]at o h a⊢;obtain⟨q,i⟩:=ex (bR s 1 48);obtain⟨r,k⟩:=ex ((l.take j).any (λt=>decide (t=s)));rw[<-i,<-k]at o;rw[<-i]at h;rw[<-k]at a;have u:=λx:aj w w=>aj.same (dm L (!q) 3 x.val);have v:=λx:aj w w=>aj.same (dm L r 5 x.val);obtain⟨y,m⟩:∃f:Int,f=if(!q)=true then 3 else 0:=⟨_,rfl⟩
 obtain⟨fb,hfb⟩:∃f:Int,f=if r=true then 5 else 0:=⟨_,rfl⟩
 rw[<-m]at u;rw[<-hfb]at v;have M:Hid ((if y≠0 then y else fb)=uU (l.take j) s):=by rw[Hid,o.out,m,hfb];exact Ka q r
 have N:=λx:aj w w=>x.cell n;have O:(j:Int)<=(c:Int):=by omega
 clear C i k m hfb o d n p;go_enter (n108 L),Tryz.ntmps108;go_upto_region 1 with fail;refine aT (w0:=w) (w1:=w) 10 (by kernel_rfl) (by kernel_rfl) (ae.refl _) (Below.refl _ _) ?_;simp only[R7,Si,Sk,Sj];haveI z:Nonempty (aj w w):=⟨⟨w,ae.refl _,Below.refl _ _⟩⟩
 repeat (go_big_quiet_step (first|(go_at_call 72;exact h _)|(go_at_call 109;exact a _)|(go_at_call 52;exact u _)|(go_at_call 52;exact v _)))
 refine wpQuiet_nil ?_;rintro P ⟨⟨_,Q,D⟩,rfl⟩;have A:=de L y fb P;rw[M.out]at A;have E:Hid _:=D;clear h a u v N z Q D;go_wp2_with (first|(go_at_call 51;refine A.mono ?_;clear A;rintro e w3 ⟨rfl,rfl⟩))
 go_ret;exact⟨rfl,E.out.alloc E.out.size _⟩
def Hy{K:Nat->Prop}{v:Value}{l:List ByteArray}(j:Int)(w:World)(a:aB K 1 kF w v l):
 Calls (Qs fs) 106 #[.int .i64 j,v] w λe w'=>e=.returned (.int .i64 (bp 2 4 uU l))/\Below w.heap.size w w':=by
 have Pm:=Pm L;obtain⟨ao,c,rfl,s,t,_⟩:=id a;obtain⟨w1,b⟩:=ex (w.alloc (.cells #[.slice ao l.length c] 92));have m:ae w w1:=by rw[b];exact ae.alloc _ _
 have n:Below w.heap.size w w1:=by rw[b];exact aF _ _
 have ct:w1.cell? ⟨w.heap.size,0,none⟩=some (.slice ao l.length c):=by rw[b];exact aw w _ 92 0 _ rfl
 obtain⟨N,i⟩:=ex (w.heap.size);rw[<-i]at ct;have d:=a.strs m;have g:=(iS L 108 #[.pointer (some ⟨N,0,none⟩)] 2 4 w1 (λj wr=>ae w1 wr/\Below w.heap.size w wr) (uq uU l) (QV L)
  ⟨ae.refl _,n⟩ (λj wr h=>h.1) (λj wr o h=>⟨h.1.trans (ae.alloc _ _),h.2.alloc h.2.size _⟩)).2.2.2.2.2.1 _ d
  (λj q wr h=>(EW L j q N wr (h.1.cell ct) (d.strs h.1)).mono λe w' k=>⟨by rw[hZ _ _ _ q];exact k.1,h.1.trans (ae.below k.2),h.2.trans (k.2.mono h.2.size)⟩)
 have g:=g.p;have f:Calls (Qs fs) 107 #[.slice ao l.length c,.int .i64 2,.int .i64 4,.func (.func 108) #[] #[.pointer (some ⟨N,0,none⟩)]] w1 λe w'=>e=.returned (.int .i64 (bp 2 4 uU l))/\Below w.heap.size w w':=g.mono λe w' h=>by obtain⟨u,j,r,x⟩:=h;exact⟨u,x⟩
 have y:∀(fn:Fn) (first cap:Array Value) (w:World),(Instr.makeFunc fn first cap).run (Qs fs) w=.ok (.func fn first cap) w:=λ_ _ _ _=>rfl;clear g d m n a;go_enter (n106 L),Tryz.ntmps106;go_upto_region 1 with fail;rw[<-b,<-i];clear b i;go_wp2_with (first|(go_at_call 107;refine f.mono ?_;clear f;rintro e w2 ⟨rfl,r⟩))
 go_ret;exact⟨rfl,r⟩
def Kb{K:Nat->Prop}{v0 v1 v2:Value}{l:List (List ByteArray)}(w:World)(c:aB K 1 j9 w v2 l):
 Calls (Qs fs) 57 #[.agg #[v0,v1,v2]] w λe w'=>e=.returned (.int .i64 (bp 0 4 sj l))/\Below w.heap.size w w':=by
 have Pl:=Pl L;obtain⟨w1,a⟩:=ex (w.alloc (.cells #[v0,v1,v2] 100));have i:ae w w1:=by rw[a];exact ae.alloc _ _
 have n:Below w.heap.size w w1:=by rw[a];exact aF _ _
 have ct:w1.cell? ⟨w.heap.size,2,none⟩=some v2:=by rw[a];exact aw w _ 100 2 _ rfl
 obtain⟨N,k⟩:=ex (w.heap.size);rw[<-k]at ct;have d:aB K 1 j9 w1 v2 l:=c.stays i λb v o x e h=>by subst e;exact j9.carry (Carry.keep i) b b o x rfl h
 have g:=(iS L 106 #[] 0 4 w1 (λj wr=>ae w1 wr/\Below w.heap.size w wr) (uq sj l) (QU L)
  ⟨ae.refl _,n⟩ (λj wr h=>h.1) (λj wr o h=>⟨h.1.trans (ae.alloc _ _),h.2.alloc h.2.size _⟩)).2.2.2.2.2.2.2.2 _ d
  (λj r wr h y s=>(Hy L j wr s).mono λe w' m=>⟨by rw[hZ _ _ _ r];exact m.1,h.1.trans (ae.below m.2),h.2.trans (m.2.mono h.2.size)⟩)
 have g:=g.p;have f:Calls (Qs fs) 105 #[v2,.int .i64 0,.int .i64 4,.func (.func 106) #[] #[]] w1 λe w'=>e=.returned (.int .i64 (bp 0 4 sj l))/\Below w.heap.size w w':=g.mono λe w' h=>by obtain⟨t,j,q,u⟩:=h;exact⟨t,u⟩
 clear g d i n c;go_enter (n57 L),Tryz.ntmps57;go_upto_region 1 with fail;rw[<-a,<-k];clear a k;go_wp2_with (first|(go_at_call 105;refine f.mono ?_;clear f;rintro e w2 ⟨rfl,q⟩))
 go_ret;exact⟨rfl,q⟩
def Hz:(Tryz.prog.info? 103).map (·.size)=some 1:=by kernel_rfl
def Kd:(Tryz.prog.types[103]?).map (·.size)=some 1:=by kernel_rfl
def EX(fs)(h:103<(Qs fs).types.size):((Qs fs).types[103]'h).size=1:=by have e:=Kd;have a:103<Tryz.prog.types.size:=h;rw[RV a]at e;exact RU e
def Cq(w):(Go.sizeOf 103).run (Qs fs) w=.ok 1 w:=by
 rw[uT];have h:=Hz;cases a:Tryz.prog.info? 103 with
 |none=>rw[a]at h;cases h
 |some i=>rw[a]at h;simp only[Sl,Sg]at h;simp[Go.sizeOf,typeInfo,a,h]
def Ag(w):(isAgg 103).run (Qs fs) w=.ok false w:=by rw[zM];simp[isAgg,run_underlying Tryz.underlying103]
def fD(A B C w):(Instr.index 104 (.agg #[A,B,C]) (.int .i64 0)).run (Qs fs) w=.ok A w/\(Instr.index 104 (.agg #[A,B,C]) (.int .i64 1)).run (Qs fs) w=.ok B w/\(Instr.index 104 (.agg #[A,B,C]) (.int .i64 2)).run (Qs fs) w=.ok C w:=by
 have a:(Qs fs).underlying 104=some (.array 3 103):=by rw[aH];exact Tryz.underlying104
 refine⟨?_,?_,?_⟩<;>simp[Instr.index,asIntOf,run_underlying a,Cq,part,Ag]
def Ia(t):kg t=if bp 0 12 letterF t.aC≠0 then bp 0 12 letterF t.aC else if bp 0 3 mr t.aO≠0 then bp 0 3 mr t.aO else bp 0 4 sj t.iy:=rfl
def jN{K:Nat->Prop}{v0 v1 v2:Value}{t:Table}(w:World)(p:IsTable K w v0 v1 v2 t):
 Calls (Qs fs) 20 #[.agg #[v0,v1,v2]] w λe w'=>e=.returned (.int .i64 (kg t))/\Below w.heap.size w w':=by
 have e55:=e55 L;have e56:=e56 L;have e57:=e57 L;have Z:∀(fn:Fn) (first cap:Array Value) (w:World),(Instr.makeFunc fn first cap).run (Qs fs) w=.ok (.func fn first cap) w:=λ_ _ _ _=>rfl;obtain⟨G,H,rfl,_⟩:=id p.1;obtain⟨a1,I,rfl,_⟩:=id p.2.1;obtain⟨J,M,rfl,_⟩:=id p.2.2;have f:=λk (D:ae w k)=>Cn L (v1:=.slice a1 t.aO.length I) (v2:=.slice J t.iy.length M) k (p.1.yJ D);have g:=λk (D:ae w k)=>Hw L (v0:=.slice G t.aC.length H) (v2:=.slice J t.iy.length M) k (p.stays D).2.1;have i:=λk (D:ae w k)=>Kb L (v0:=.slice G t.aC.length H) (v1:=.slice a1 t.aO.length I) k (p.stays D).2.2;have aa:=EX fs;have E:Hid _:=Ia t;obtain⟨N,r⟩:=ex (bp 0 12 letterF t.aC);obtain⟨fb,hfb⟩:=ex (bp 0 3 mr t.aO);obtain⟨O,s⟩:=ex (bp 0 4 sj t.iy);rw[<-r,<-hfb,<-s]at E;rw[<-r]at f;rw[<-hfb]at g;rw[<-s]at i;clear r hfb s p;obtain⟨T,u⟩:=ex (t.aC.length);obtain⟨U,v⟩:=ex (t.aO.length);obtain⟨V,x⟩:=ex (t.iy.length);rw[<-u,<-v,<-x];rw[<-u,<-v,<-x]at f g i;obtain⟨w1,y⟩:=ex ((w.alloc (.cells #[.slice G T H,.slice a1 U I,.slice J V M] 26)).alloc (.cells #[.slice G T H,.slice a1 U I,.slice J V M] 100));have W:Hid (ae w w1/\Below w.heap.size w w1):=by rw[Hid,y];exact⟨(ae.alloc _ _).trans (ae.alloc _ _),((Below.refl _ w).alloc (Rq _) _).alloc (by simp) _⟩
 clear u v x;go_enter (n20 L),Tryz.ntmps20;go_upto_region 3 with fail;rw[<-y];clear y;go_loopw [16] (λz wr=>∃j:Nat,j<=3/\z=.int .i64 j/\ae w wr/\Below w.heap.size w wr/\(0<j->N=0)/\(1<j->fb=0)/\(2<j->O=0)) (λz _=>3-(intOf z).toNat)
 case atStart=>exact⟨0,by omega,rfl,W.out.1,W.out.2,by omega,by omega,by omega⟩
 case round=>
  obtain⟨j,hj,rfl,c,o,P,X,h2⟩:=hrel;have l:Hid _:=o;clear o
  match j,hj with
  |0,_=>
   have q:=f wr c;have F:Hid _:=c;by_cases a:N=0
   ·rw[a]at q
    clear f g i c;have m:=λA B C k=>fD (fs:=fs) A B C k;rw[show((0:Nat):Int)=0 from rfl];go_wp2_with (first|(go_at_call 55;refine q.mono ?_;clear q;rintro e w2 ⟨rfl,b⟩))
    exact⟨⟨1,by omega,by go_num,ae.trans F.out (ae.below b),l.out.trans (b.mono l.out.size),λ_=>a,by omega,by omega⟩,by simp[intOf]⟩
   ·have Y:(N !=0)=true:=by simpa using a
    clear f g i c;have m:=λA B C k=>fD (fs:=fs) A B C k;rw[show((0:Nat):Int)=0 from rfl];go_wp2_with (first|(go_at_call 55;refine q.mono ?_;clear q;rintro e w2 ⟨rfl,b⟩))
    go_ret;exact⟨by rw[E.out,Rp a];rfl,l.out.trans (b.mono l.out.size)⟩
  |1,_=>
   have q:=g wr c;have a:=P (by omega);have F:Hid _:=c;by_cases d:fb=0
   ·rw[d]at q
    clear f g i c;have m:=λA B C k=>fD (fs:=fs) A B C k;rw[show((1:Nat):Int)=1 from rfl];go_wp2_with (first|(go_at_call 56;refine q.mono ?_;clear q;rintro e w2 ⟨rfl,b⟩))
    exact⟨⟨2,by omega,by go_num,ae.trans F.out (ae.below b),l.out.trans (b.mono l.out.size),λ_=>a,λ_=>d,by omega⟩,by simp[intOf]⟩
   ·have Y:(fb !=0)=true:=by simpa using d
    clear f g i c;have m:=λA B C k=>fD (fs:=fs) A B C k;rw[show((1:Nat):Int)=1 from rfl];go_wp2_with (first|(go_at_call 56;refine q.mono ?_;clear q;rintro e w2 ⟨rfl,b⟩))
    go_ret;exact⟨by rw[E.out,Ro (λh=>h a),Rp d];rfl,l.out.trans (b.mono l.out.size)⟩
  |2,_=>
   have q:=i wr c;have a:=P (by omega);have d:=X (by omega);have F:Hid _:=c;by_cases n:O=0
   ·rw[n]at q
    clear f g i c;have m:=λA B C k=>fD (fs:=fs) A B C k;rw[show((2:Nat):Int)=2 from rfl];go_wp2_with (first|(go_at_call 57;refine q.mono ?_;clear q;rintro e w2 ⟨rfl,b⟩))
    exact⟨⟨3,by omega,by go_num,ae.trans F.out (ae.below b),l.out.trans (b.mono l.out.size),λ_=>a,λ_=>d,λ_=>n⟩,by simp[intOf]⟩
   ·have Y:(O !=0)=true:=by simpa using n
    clear f g i c;have m:=λA B C k=>fD (fs:=fs) A B C k;rw[show((2:Nat):Int)=2 from rfl];go_wp2_with (first|(go_at_call 57;refine q.mono ?_;clear q;rintro e w2 ⟨rfl,b⟩))
    go_ret;exact⟨by rw[E.out,Ro (λh=>h a),Ro (λh=>h d)];rfl,l.out.trans (b.mono l.out.size)⟩
  |3,_=>have Q:=P (by omega);have R:=X (by omega);have S:=h2 (by omega);clear f g i c;go_wp2;go_ret;exact⟨by rw[E.out,Ro (λh=>h Q),Ro (λh=>h R),S];rfl,l.out⟩
end Go.Proofs

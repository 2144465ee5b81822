import Derived.Maps.RangeWalk
import Derived.Test.YtaglpcmhopjebaaGreatDoorY38
set_option linter.all false
set_option maxRecDepth 100000
set_option maxHeartbeats 20000000
namespace Go.Proofs
open Go.Tm Go.RowKit
variable {fs:Array Func} (L:bQ fs)
def Ji{K:Nat->Prop}{v:Value}{l:List ug}(w:World)(a:aB K 4 o6 w v l):Calls (Qs fs) 78 #[v,.int .i64 0,.int .i64 6,.func (.func 79) #[] #[]] w λe w'=>e=.returned (.int .i64 (bp 0 6 jF l))/\Below w.heap.size w w':=by
 have b:=(iS L 79 #[] 0 6 w (λ_ wr=>Below w.heap.size w wr) (uq jF l) (e79 L) (Below.refl _ _) (λj wr h=>ae.below h) (λj wr o h=>h.alloc h.size _)).2.2.1 _ a
  (λj d wr h=>(LG L j l[j] wr).mono λe w' c=>⟨by rw[hZ _ _ _ d];exact c.1,h.trans (c.2.mono h.size)⟩)
 have b:=b.p;exact b.mono λe w' h=>by obtain⟨f,j,g⟩:=h;exact⟨f,g⟩
def NA{K:Nat->Prop}{v:Value}{l:List Int}(n:Int)(w:World)(a:aB K 1 dn w v l):Calls (Qs fs) 82 #[v,.int .i64 n,.int .i64 n,.func (.func 83) #[] #[]] w λe w'=>e=.returned (.int .i64 (bp n n Eo l))/\Below w.heap.size w w':=by
 have b:=(iS L 83 #[] n n w (λ_ wr=>Below w.heap.size w wr) (uq Eo l) (e83 L) (Below.refl _ _) (λj wr h=>ae.below h) (λj wr o h=>h.alloc h.size _)).2.2.2.2.1 _ a
  (λj d wr h=>(Nz L j l[j] wr).mono λe w' c=>⟨by rw[hZ _ _ _ d];exact c.1,by rw[c.2];exact h⟩)
 have b:=b.p;exact b.mono λe w' h=>by obtain⟨f,j,g⟩:=h;exact⟨f,g⟩
def Jj(new)(l:List Mark)(j)(a:j<l.length):Gb (decide (new=l[j].name)||(l.take j).any (λq=>decide (q.name=l[j].name))) l[j]=pK new (l.take j) l[j]:=rfl
def Jk{K:Nat->Prop}{v:Value}{l:List Mark}(new:ByteArray)(c a:Nat)(w:World)(b:aB K 5 o0 w v l)(f:w.cell? ⟨c,0,none⟩=some (.map (some a)))(m:bL w a (λt=>decide (t=new))):
 Calls (Qs fs) 80 #[v,.int .i64 0,.int .i64 8,.func (.func 81) #[] #[.pointer (some ⟨c,0,none⟩)]] w λe w'=>e=.returned (.int .i64 (bp 0 8 (pK new) l))/\Below a w w'/\ae w w':=by
 have g:=(iS L 81 #[.pointer (some ⟨c,0,none⟩)] 0 8 w (λj wr=>ae w wr/\Below a w wr/\bL wr a (λt=>decide (new=t)||(l.take j).any (λq=>decide (q.name=t)))) (uq (pK new) l) (e81 L)
  ⟨ae.refl _,Below.refl _ _,m.iff λt=>by rw[kM];simp⟩ (λj wr h=>h.1) (λj wr o h=>⟨h.1.trans (ae.alloc _ _),h.2.1.alloc (by have:=h.2.2.lt;omega) _,h.2.2.keep (Below.heap_alloc wr o _ h.2.2.lt)⟩)).2.2.2.2.2.2.1 _ b
  (λj i wr h n r=>(LH L j l[j] n c a _ wr r (h.1.cell f) h.2.2).mono λe w' d=>⟨by rw[hZ _ _ _ i,<-Jj];exact d.1,h.1.trans d.2.2.2,h.2.1.trans (d.2.2.1 a (Rq _)),d.2.1.iff λt=>by rw[lA l _ j i,kM t,Bool.or_assoc]⟩)
 have g:=g.p;exact g.mono λe w' h=>by obtain⟨s,j,k⟩:=h;exact⟨s,k.2.1,k.1⟩
def LI(c):o7 c=if kg c.table≠0 then kg c.table else
 if(if bp 0 6 jF c.rules≠0 then bp 0 6 jF c.rules else eT c.new)≠0 then(if bp 0 6 jF c.rules≠0 then bp 0 6 jF c.rules else eT c.new)else
 if bp 0 8 (pK c.new.name) c.marks≠0 then bp 0 8 (pK c.new.name) c.marks else bp c.marks.length c.marks.length Eo c.kin:=by
 unfold o7;by_cases a:kg c.table=0
 ·by_cases b:bp 0 6 jF c.rules=0
  ·simp[a,b]
  ·simp[a,b]
 ·simp[a]
def uc{K:Nat->Prop}{sc:Array Value}{c:Case}(w:World)(hc:bl K w sc c):Calls (Qs fs) 37 #[.agg sc] w λe w'=>e=.returned (.int .i64 (o7 c))/\Below w.heap.size w w':=by
 have e20:=e20 L;have e78:=e78 L;have e67:=e67 L;have e51:=e51 L;have e80:=e80 L;have e82:=e82 L;have a8:∀(fn:Fn) (first cap:Array Value) (w:World),(Instr.makeFunc fn first cap).run (Qs fs) w=.ok (.func fn first cap) w:=λ_ _ _ _=>rfl;have ba:∀(t:TypeId) (w:World),(Instr.makeMap t none).run (Qs fs) w=.ok (.map (some w.heap.size)) (w.alloc (.map #[] 0)):=λ_ _=>rfl;obtain⟨v0,v1,v2,vr,vf,vm,vk,rfl,ht,hr,hf,hm,hk⟩:=hc;obtain⟨am,cm,rfl,_⟩:=id hm;obtain⟨w1,u⟩:=ex (w.alloc (.cells #[v0,v1,v2,vr,.string c.new.name,.string c.new.word,vf,.int .i64 c.new.day,.bool c.new.known,.slice am c.marks.length cm,vk] 60));have S1:ae w w1:=by rw[u];exact ae.alloc _ _
 have B1:Below w.heap.size w w1:=by rw[u];exact aF _ _
 have ct:∀i v,(#[v0,v1,v2,vr,.string c.new.name,.string c.new.word,vf,.int .i64 c.new.day,.bool c.new.known,.slice am c.marks.length cm,vk]:Array Value)[i]? =some v->w1.cell? ⟨w.heap.size,i,none⟩=some v:=λi v h=>by rw[u];exact aw w _ 60 i v h
 obtain⟨N,hN⟩:=ex (w.heap.size);have f0:=ct 0 _ rfl;have f1:=ct 1 _ rfl;have f2:=ct 2 _ rfl;have P:=ct 3 _ rfl;have Q:=ct 4 _ rfl;have R:=ct 5 _ rfl;have S:=ct 6 _ rfl;have T:=ct 7 _ rfl;have U:=ct 8 _ rfl;have M:=ct 9 _ rfl;have q:=ct 10 _ rfl;rw[<-hN]at f0 f1 f2 P Q R S T U M q;have af:w.heap.size<=w1.heap.size:=B1.size;have G:=jN L w1 (ht.stays S1);have H:=λW (h:ae w1 W)=>Ji L W (hr.stays (S1.trans h) λb b' o x e h'=>by subst e;exact o6.carry (Carry.keep (S1.trans h)) b b o x rfl h');have I:=λW (h:ae w1 W)=>kN L (mc:=#[.string c.new.name,.string c.new.word,vf,.int .i64 c.new.day,.bool c.new.known]) (m:=c.new) W ⟨vf,rfl,hf.ints (S1.trans h)⟩;have X:=λbv bm W (h:ae w1 W)=>Jk L c.new.name bv bm W (hm.stays (S1.trans h) λb b' o x e h'=>by subst e;exact o0.carry (Carry.keep (S1.trans h)) b b o x rfl h');have Y:=λW (h:ae w1 W)=>NA L (c.marks.length:Int) W (hk.ints (S1.trans h));have HC:Hid _:=LI c;obtain⟨x1,h1⟩:=ex (kg c.table);obtain⟨r,h2⟩:=ex (bp 0 6 jF c.rules);obtain⟨D,h3⟩:=ex (eT c.new);obtain⟨x4,h4⟩:=ex (bp 0 8 (pK c.new.name) c.marks);obtain⟨x5,h5⟩:=ex (bp c.marks.length c.marks.length Eo c.kin);rw[<-h1]at G;rw[<-h2]at H;rw[<-h3]at I;rw[<-h4]at X;rw[<-h5]at Y;rw[<-h1,<-h2,<-h3,<-h4,<-h5]at HC;have HB:Hid _:=B1;have HZ:Hid _:=af;clear h1 h2 h3 h4 h5 ht hr hf hm hk S1 B1 ct af;have BB:∀w2 w3 w4:World,Below w1.heap.size w1 w2->Below w2.heap.size w2 w3->Below w3.heap.size w3 w4->Below w.heap.size w (w4.alloc (.cells #[.int .i64 r,.int .i64 D] 29)):=λw2 w3 w4 a b d=>by have s2:=a.size;have s3:=b.size;have s4:=d.size;have s1:=HZ.out;exact(((HB.out.trans (a.mono s1)).trans (b.mono (by omega))).trans (d.mono (by omega))).alloc (by omega) _
 have ax:∀k E w7 w8:World,Below w.heap.size w k->(∀B,B<=k.heap.size->Below B (k.alloc (.map #[] 0)) E)->Below k.heap.size (E.alloc (.cells #[.map (some k.heap.size)] 133)) w7->Below w7.heap.size w7 w8->Below w.heap.size w w8:=λk E w7 w8 a b d e=>by have s5:=a.size;have b6:=b w.heap.size s5;have s6:=b6.size;have s7:=d.size;simp at s6 s7;exact((((a.alloc s5 (.map #[] 0)).trans b6).alloc (by omega) _).trans (d.mono s5)).trans (e.mono (by omega))
 by_cases F:x1=0
 ·have aM:(x1 !=0)=false:=by rw[F];rfl
  obtain⟨y,hy⟩:=ex (if r≠0 then r else D);rw[<-hy]at HC;by_cases J:y=0
  ·have a1:((if r≠0 then r else D)!=0)=false:=by rw[<-hy,J];rfl
   by_cases V:x4=0
   ·have ay:(x4 !=0)=false:=by rw[V];rfl
    have HV:Hid (o7 c=x5):=by rw[Hid,HC.out,Ro (λh=>h F),Ro (λh=>h J),Ro (λh=>h V)]
    clear HC F hy J V;go_enter (n37 L),Tryz.ntmps37;go_upto_region 1 with fail;rw[<-u,<-hN];clear u hN;go_wp2_with (first|(go_at_call 20;refine G.mono ?_;clear G;rintro e w2 ⟨rfl,s⟩;have f:ae w1 w2:=ae.below s;have g0:=f.cell f0;have g1:=f.cell f1;have g2:=f.cell f2;have g3:=f.cell P;have g4:=f.cell Q;have g5:=f.cell R;have g6:=f.cell S;have g7:=f.cell T;have g8:=f.cell U;have g9:=f.cell M;have ag:=f.cell q;have l:=H w2 f;clear H)|(go_at_call 78;refine l.mono ?_;clear l;rintro e w3 ⟨rfl,z⟩;have g:ae w1 w3:=f.trans (ae.below z);have k3:=g.cell P;have k4:=g.cell Q;have k5:=g.cell R;have k6:=g.cell S;have k7:=g.cell T;have k8:=g.cell U;have k9:=g.cell M;have ak:=g.cell q;have n:=I w3 g;clear I)|(go_at_call 67;refine n.mono ?_;clear n;rintro e w4 ⟨rfl,A⟩;have S4:ae w1 w4:=g.trans (ae.below A);have Z:=de L r D w4)|(go_at_call 51;refine Z.mono ?_;clear Z;rintro e k ⟨rfl,rfl⟩;have j:ae w1 (w4.alloc (.cells #[.int .i64 r,.int .i64 D] 29)):=S4.trans (ae.alloc _ _);have B5:Below w.heap.size w (w4.alloc (.cells #[.int .i64 r,.int .i64 D] 29)):=BB w2 w3 w4 s z A;obtain⟨k,C⟩:=ex (w4.alloc (.cells #[.int .i64 r,.int .i64 D] 29));rw[<-C]at j B5⊢;clear C;have p3:=j.cell P;have p4:=j.cell Q;have p5:=j.cell R;have p6:=j.cell S;have p7:=j.cell T;have p8:=j.cell U;have p9:=j.cell M;have al:=j.cell q;have an:=(ae.alloc k (.map #[] 0)).cell p4;obtain⟨E,ao,O,aa,p⟩:=ki fs (bL.new k) c.new.name;have z9:=(ae.alloc E (.cells #[.map (some k.heap.size)] 133)).cell (p.cell ((ae.alloc k (.map #[] 0)).cell p9)))|(go_at_call 80;refine(X _ _ _ (j.trans ((ae.alloc k (.map #[] 0)).trans (p.trans (ae.alloc E (.cells #[.map (some k.heap.size)] 133))))) (aw E _ 133 0 _ rfl) ((O.keep (Below.heap_alloc E _ _ O.lt)).iff λt=>by simp)).mono ?_;clear X;rintro e w7 ⟨rfl,ar,ab⟩;have S7:ae w1 w7:=(j.trans ((ae.alloc k (.map #[] 0)).trans (p.trans (ae.alloc E (.cells #[.map (some k.heap.size)] 133))))).trans ab;have r9:=S7.cell M;have a6:=S7.cell q;have ad:=Y w7 S7;clear Y)|(go_at_call 82;refine ad.mono ?_;clear ad;rintro e w8 ⟨rfl,a7⟩))
    all_goals (go_ret;exact⟨by rw[HV.out];rfl,ax k E w7 w8 B5 aa ar a7⟩)
   ·have ay:(x4 !=0)=true:=by simpa using V
    have HV:Hid (o7 c=x4):=by rw[Hid,HC.out,Ro (λh=>h F),Ro (λh=>h J),Rp V]
    clear HC F hy J V;go_enter (n37 L),Tryz.ntmps37;go_upto_region 1 with fail;rw[<-u,<-hN];clear u hN;go_wp2_with (first|(go_at_call 20;refine G.mono ?_;clear G;rintro e w2 ⟨rfl,s⟩;have f:ae w1 w2:=ae.below s;have g0:=f.cell f0;have g1:=f.cell f1;have g2:=f.cell f2;have g3:=f.cell P;have g4:=f.cell Q;have g5:=f.cell R;have g6:=f.cell S;have g7:=f.cell T;have g8:=f.cell U;have g9:=f.cell M;have ag:=f.cell q;have l:=H w2 f;clear H)|(go_at_call 78;refine l.mono ?_;clear l;rintro e w3 ⟨rfl,z⟩;have g:ae w1 w3:=f.trans (ae.below z);have k3:=g.cell P;have k4:=g.cell Q;have k5:=g.cell R;have k6:=g.cell S;have k7:=g.cell T;have k8:=g.cell U;have k9:=g.cell M;have ak:=g.cell q;have n:=I w3 g;clear I)|(go_at_call 67;refine n.mono ?_;clear n;rintro e w4 ⟨rfl,A⟩;have S4:ae w1 w4:=g.trans (ae.below A);have Z:=de L r D w4)|(go_at_call 51;refine Z.mono ?_;clear Z;rintro e k ⟨rfl,rfl⟩;have j:ae w1 (w4.alloc (.cells #[.int .i64 r,.int .i64 D] 29)):=S4.trans (ae.alloc _ _);have B5:Below w.heap.size w (w4.alloc (.cells #[.int .i64 r,.int .i64 D] 29)):=BB w2 w3 w4 s z A;obtain⟨k,C⟩:=ex (w4.alloc (.cells #[.int .i64 r,.int .i64 D] 29));rw[<-C]at j B5⊢;clear C;have p3:=j.cell P;have p4:=j.cell Q;have p5:=j.cell R;have p6:=j.cell S;have p7:=j.cell T;have p8:=j.cell U;have p9:=j.cell M;have al:=j.cell q;have an:=(ae.alloc k (.map #[] 0)).cell p4;obtain⟨E,ao,O,aa,p⟩:=ki fs (bL.new k) c.new.name;have z9:=(ae.alloc E (.cells #[.map (some k.heap.size)] 133)).cell (p.cell ((ae.alloc k (.map #[] 0)).cell p9)))|(go_at_call 80;refine(X _ _ _ (j.trans ((ae.alloc k (.map #[] 0)).trans (p.trans (ae.alloc E (.cells #[.map (some k.heap.size)] 133))))) (aw E _ 133 0 _ rfl) ((O.keep (Below.heap_alloc E _ _ O.lt)).iff λt=>by simp)).mono ?_;clear X;rintro e w7 ⟨rfl,ar,ab⟩;have S7:ae w1 w7:=(j.trans ((ae.alloc k (.map #[] 0)).trans (p.trans (ae.alloc E (.cells #[.map (some k.heap.size)] 133))))).trans ab;have r9:=S7.cell M;have a6:=S7.cell q;have ad:=Y w7 S7;clear Y))
    all_goals (go_ret;exact⟨by rw[HV.out];rfl,ax k E w7 w7 B5 aa ar (Below.refl _ _)⟩)
  ·have a1:((if r≠0 then r else D)!=0)=true:=by rw[<-hy];simpa using J
   have HV:Hid (o7 c=if r≠0 then r else D):=by rw[Hid,HC.out,Ro (λh=>h F),Rp J,hy]
   clear HC F hy J;go_enter (n37 L),Tryz.ntmps37;go_upto_region 1 with fail;rw[<-u,<-hN];clear u hN;go_wp2_with (first|(go_at_call 20;refine G.mono ?_;clear G;rintro e w2 ⟨rfl,s⟩;have f:ae w1 w2:=ae.below s;have g0:=f.cell f0;have g1:=f.cell f1;have g2:=f.cell f2;have g3:=f.cell P;have g4:=f.cell Q;have g5:=f.cell R;have g6:=f.cell S;have g7:=f.cell T;have g8:=f.cell U;have g9:=f.cell M;have ag:=f.cell q;have l:=H w2 f;clear H)|(go_at_call 78;refine l.mono ?_;clear l;rintro e w3 ⟨rfl,z⟩;have g:ae w1 w3:=f.trans (ae.below z);have k3:=g.cell P;have k4:=g.cell Q;have k5:=g.cell R;have k6:=g.cell S;have k7:=g.cell T;have k8:=g.cell U;have k9:=g.cell M;have ak:=g.cell q;have n:=I w3 g;clear I)|(go_at_call 67;refine n.mono ?_;clear n;rintro e w4 ⟨rfl,A⟩;have S4:ae w1 w4:=g.trans (ae.below A);have Z:=de L r D w4)|(go_at_call 51;refine Z.mono ?_;clear Z;rintro e k ⟨rfl,rfl⟩;have j:ae w1 (w4.alloc (.cells #[.int .i64 r,.int .i64 D] 29)):=S4.trans (ae.alloc _ _);have B5:Below w.heap.size w (w4.alloc (.cells #[.int .i64 r,.int .i64 D] 29)):=BB w2 w3 w4 s z A;obtain⟨k,C⟩:=ex (w4.alloc (.cells #[.int .i64 r,.int .i64 D] 29));rw[<-C]at j B5⊢;clear C;have p3:=j.cell P;have p4:=j.cell Q;have p5:=j.cell R;have p6:=j.cell S;have p7:=j.cell T;have p8:=j.cell U;have p9:=j.cell M;have al:=j.cell q;have an:=(ae.alloc k (.map #[] 0)).cell p4;obtain⟨E,ao,O,aa,p⟩:=ki fs (bL.new k) c.new.name;have z9:=(ae.alloc E (.cells #[.map (some k.heap.size)] 133)).cell (p.cell ((ae.alloc k (.map #[] 0)).cell p9))))
   all_goals (go_ret;exact⟨by rw[HV.out];first|rfl|simp[*],B5⟩)
 ·have aM:(x1 !=0)=true:=by simpa using F
  have HV:Hid (o7 c=x1):=by rw[Hid,HC.out,Rp F]
  clear HC F;go_enter (n37 L),Tryz.ntmps37;go_upto_region 1 with fail;rw[<-u,<-hN];clear u hN;go_wp2_with (first|(go_at_call 20;refine G.mono ?_;clear G;rintro e w2 ⟨rfl,s⟩;have f:ae w1 w2:=ae.below s;have g0:=f.cell f0;have g1:=f.cell f1;have g2:=f.cell f2;have g3:=f.cell P;have g4:=f.cell Q;have g5:=f.cell R;have g6:=f.cell S;have g7:=f.cell T;have g8:=f.cell U;have g9:=f.cell M;have ag:=f.cell q;have l:=H w2 f;clear H)|(go_at_call 78;refine l.mono ?_;clear l;rintro e w3 ⟨rfl,z⟩;have g:ae w1 w3:=f.trans (ae.below z);have k3:=g.cell P;have k4:=g.cell Q;have k5:=g.cell R;have k6:=g.cell S;have k7:=g.cell T;have k8:=g.cell U;have k9:=g.cell M;have ak:=g.cell q;have n:=I w3 g;clear I)|(go_at_call 67;refine n.mono ?_;clear n;rintro e w4 ⟨rfl,A⟩;have S4:ae w1 w4:=g.trans (ae.below A);have Z:=de L r D w4)|(go_at_call 51;refine Z.mono ?_;clear Z;rintro e k ⟨rfl,rfl⟩;have j:ae w1 (w4.alloc (.cells #[.int .i64 r,.int .i64 D] 29)):=S4.trans (ae.alloc _ _);have B5:Below w.heap.size w (w4.alloc (.cells #[.int .i64 r,.int .i64 D] 29)):=BB w2 w3 w4 s z A;obtain⟨k,C⟩:=ex (w4.alloc (.cells #[.int .i64 r,.int .i64 D] 29));rw[<-C]at j B5⊢;clear C;have p3:=j.cell P;have p4:=j.cell Q;have p5:=j.cell R;have p6:=j.cell S;have p7:=j.cell T;have p8:=j.cell U;have p9:=j.cell M;have al:=j.cell q;have an:=(ae.alloc k (.map #[] 0)).cell p4;obtain⟨E,ao,O,aa,p⟩:=ki fs (bL.new k) c.new.name;have z9:=(ae.alloc E (.cells #[.map (some k.heap.size)] 133)).cell (p.cell ((ae.alloc k (.map #[] 0)).cell p9))))
  go_ret;exact⟨by rw[HV.out];rfl,HB.out.trans (s.mono HZ.out)⟩
def OY{K:Nat->Prop}{v0 v1 v2:Value}{t:Table}(s:ByteArray)(w:World)(l:IsTable K w v0 v1 v2 t)(r:∀p∈t.aC,1<=p.1.size/\p.1.size<=4/\p.2.size<=3)(u:kg t=0)(G:s.size<=16):
 Calls (Qs fs) 18 #[.agg #[v0,v1,v2],.string s] w λe w'=>e=.returned (.tuple #[.string (bs (aR t.aC s.data.toList)),.int .i64 0])/\Below w.heap.size w w':=by
 have e20:=e20 L;have e51:=e51 L;have e52:=e52 L;have e53:=e53 L;obtain⟨w1,a⟩:=ex (w.alloc (.cells #[v0,v1,v2] 26));have m:ae w w1:=by rw[a];exact ae.alloc _ _
 have x:Below w.heap.size w w1:=by rw[a];exact aF _ _
 have ct:∀i v,(#[v0,v1,v2]:Array Value)[i]? =some v->w1.cell? ⟨w.heap.size,i,none⟩=some v:=λi v h=>by rw[a];exact aw w _ 26 i v h
 have b:=jN L w1 (l.stays m);rw[u]at b;have f:=λd=>dm L false 2 d;have g:=λd=>de L 0 0 d;have j:=λd (h:ae w1 d)=>sJ L (v0:=v0) (v1:=v1) (v2:=v2) s d ((l.stays (m.trans h)).1) r (by omega);obtain⟨N,n⟩:=ex (w.heap.size);rw[<-n]at ct;have y:=ct 0 _ rfl;have z:=ct 1 _ rfl;have A:=ct 2 _ rfl;have B:Hid _:=x;have D:¬((s.size:Int)>16):=by omega
 have E:¬(16<s.size):=by omega
 have F:decide ((16:Int)<(s.size:Int))=false:=Rz (by omega);clear l r u m x ct;go_enter (n18 L),Tryz.ntmps18;go_upto_region 1 with fail;rw[<-a,<-n];clear a n;go_upto_region 4 with(first|(go_at_call 20;refine b.mono ?_;rintro e w2 ⟨rfl,c⟩)|(go_at_call 52;refine(f _).mono ?_;rintro e w3 ⟨rfl,rfl⟩)|(go_at_call 51;refine(g _).mono ?_;rintro e w4 ⟨rfl,rfl⟩))
 have k:=(ae.below c).trans (ae.alloc w3 (.cells #[.int .i64 0,.int .i64 0] 29));have y:=k.cell y;have z:=k.cell z;have A:=k.cell A;have q:=j _ k;have b2:=B.out.trans (c.mono B.out.size);have C:Hid _:=b2.alloc b2.size (.cells #[.int .i64 0,.int .i64 0] 29);clear b f g j k c b2;go_wp2_with (first|(go_at_call 53;refine q.mono ?_;rintro e H ⟨rfl,o⟩))
 go_ret2
 exact⟨rfl,C.out.trans (o.mono C.out.size)⟩
def NC{K:Nat->Prop}{v0 v1 v2:Value}{t:Table}(k:Nat)(s:ByteArray)(w:World)(l:IsTable K w v0 v1 v2 t)(E:OkT t)(F:kg t=0)(hs:s.size<=16)(O:k<t.aO.length)(G:gZ w):
 Calls (Qs fs) 22 #[.agg #[v0,v1,v2],.int .i64 k,.string s] w λe w'=>e=.returned (.tuple #[.string (bs (bH t k s.data.toList)),.int .i64 0])/\Below w.heap.size w w':=by
 have e20:=e20 L;have e51:=e51 L;have e52:=e52 L;have e63:=e63 L;have e64:=e64 L;obtain⟨ao,cp,rfl,P,Q,_⟩:=id l.2.1;obtain⟨w1,a⟩:=ex (w.alloc (.cells #[v0,.slice ao t.aO.length cp,v2] 26));have m:ae w w1:=by rw[a];exact ae.alloc _ _
 have H:Below w.heap.size w w1:=by rw[a];exact aF _ _
 have ct:∀i v,(#[v0,.slice ao t.aO.length cp,v2]:Array Value)[i]? =some v->w1.cell? ⟨w.heap.size,i,none⟩=some v:=λi v h=>by rw[a];exact aw w _ 26 i v h
 have u:(decide ((0:Int)<=(k:Int))&&decide ((k:Int)<=(t.aO.length:Int)-1))=true:=by rw[RE (by omega),RE (by omega)];rfl
 have R:IntKind.i64.wrap ((t.aO.length:Int)-1)=(t.aO.length:Int)-1:=wrap_i64 _ (by omega);have d:∀x:aj w w1,Calls (Qs fs) 20 #[.agg #[v0,.slice ao t.aO.length cp,v2]] x.val λe w'=>e=.returned (.int .i64 0)/\∃y:aj w w1,w'=y.val:=λx=>by have h:=jN L x.val (l.stays (m.trans x.st));rw[F]at h;exact aj.calls h
 have f:∀x:aj w w1,Calls (Qs fs) 63 #[.int .i64 k,.int .i64 0,.int .i64 ((t.aO.length:Int)-1)] x.val λe w'=>e=.returned (.bool true)/\∃y:aj w w1,w'=y.val:=λx=>by have h:=cj fs (n63 L) k 0 ((t.aO.length:Int)-1) x.val;rw[u]at h;exact aj.same h
 have b:∀x:aj w w1,Calls (Qs fs) 52 #[.bool false,.int .i64 6] x.val λe w'=>e=.returned (.int .i64 0)/\∃y:aj w w1,w'=y.val:=λx=>aj.same (dm L false 6 x.val);have c:∀x:aj w w1,Calls (Qs fs) 52 #[.bool false,.int .i64 2] x.val λe w'=>e=.returned (.int .i64 0)/\∃y:aj w w1,w'=y.val:=λx=>aj.same (dm L false 2 x.val);have z:=λn=>Cm L 0 0 0 n;have g:=λn (h:ae w1 n)=>Gy L k s n (l.stays (m.trans h)) E (by omega) O (G.stays (m.trans h));obtain⟨N,A⟩:=ex (w.heap.size);rw[<-A]at ct;have o:=ct 0 _ rfl;have p:=ct 1 _ rfl;have r:=ct 2 _ rfl;have S:=λx:aj w w1=>x.cell o;have T:=λx:aj w w1=>x.cell p;have U:=λx:aj w w1=>x.cell r;have I:Hid _:=H;have V:¬((s.size:Int)>16):=by omega
 have W:¬(16<s.size):=by omega
 have X:decide ((16:Int)<(s.size:Int))=false:=Rz (by omega);clear l E F m H ct G;go_enter (n22 L),Tryz.ntmps22;go_upto_region 1 with fail;rw[<-a,<-A];clear a A;have Y:Hid _:=o;have Z:Hid _:=p;have U2:Hid _:=r;clear o p r;refine aT (w0:=w) (w1:=w1) 14 (by kernel_rfl) (by kernel_rfl) (ae.refl _) I.out ?_;simp only[R7,Si,Sk,Sj];haveI B:Nonempty (aj w w1):=⟨⟨w1,ae.refl _,I.out⟩⟩
 repeat (go_big_quiet_step (first|(go_at_call 20;exact d _)|(go_at_call 63;exact f _)|(go_at_call 52;first|exact b _|exact c _)))
 refine wpQuiet_nil ?_;rintro wy ⟨⟨_,J,C⟩,rfl⟩;have j:=J.trans (ae.alloc wy (.cells #[.int .i64 0,.int .i64 0,.int .i64 0] 29));have o:=j.cell Y.out;have p:=j.cell Z.out;have r:=j.cell U2.out;have q:=g _ j;have M:Hid _:=C.alloc C.size (.cells #[.int .i64 0,.int .i64 0,.int .i64 0] 29);clear d f b c g j J C S T U B;go_wp2_with (first|(go_at_call 51;refine(z _).mono ?_;rintro e w4 ⟨rfl,rfl⟩)|(go_at_call 64;refine q.mono ?_;rintro e w5 ⟨rfl,D⟩))
 go_ret2
 exact⟨rfl,M.out.trans (D.mono M.out.size)⟩
def LQ{K:Nat->Prop}{v:Value}{l:List Int}(s:Int)(w:World)(k:aB K 1 dn w v l):
 Calls (Qs fs) 245 #[v,.int .i64 s] w λe w'=>(∃z:Int,e=.returned (.int .i64 z)/\decide (0<=z)=l.any (λt=>decide (t=s)))/\w'=w:=by
 obtain⟨ao,c,rfl,A,G,B,d⟩:=k;have C:Hid _:=d;clear d;go_enter (n245 L),Tryz.ntmps245;go_wp2;go_loopw [8] (λz wr=>∃j:Nat,j<=l.length/\z=.int .i64 j/\wr=w/\∀i (m:i<l.length),i<j->l[i]≠s) (λz _=>l.length-(intOf z).toNat)
 case atStart=>exact⟨0,RA _,rfl,rfl,λi m h=>by omega⟩
 case round=>
  obtain⟨j,H,rfl,rfl,n⟩:=hrel;have u:Hid _:=n;clear n;obtain o|hge:=Ry j l.length
  ·obtain⟨b,q,rfl,p⟩:=C.out j o
   rw[SG]at p;have r:wr.cell? ⟨b,q+j,none⟩=some (.int .i64 l[j]):=p;have D:(j:Int)<(l.length:Int):=by omega
   obtain⟨x,f⟩:=ex (l[j]);rw[<-f]at r;have y:Hid _:=f;clear p f;by_cases a:s=x
   ·have E:(s==x)=true:=by simpa using a
    have g:Hid _:=a;clear a;go_wp2;go_ret;refine⟨⟨(j:Int),rfl,?_⟩,rfl⟩;rw[RE (by omega),Tw,Ta];exact⟨l[j],RR o,RE (by rw[g.out,y.out])⟩
   ·have E:(s==x)=false:=by simpa using a
    have g:Hid _:=a;clear a;go_wp2;refine⟨⟨j+1,by omega,by go_num,trivial,λi m F=>?_⟩,by simp[intOf];omega⟩;by_cases h:i<j
    ·exact u.out i m h
    ·obtain rfl:i=j:=by omega
     rw[<-y.out];exactλh=>g.out h.symm
  ·go_wp2
   go_ret;refine⟨⟨-1,rfl,?_⟩,rfl⟩;rw[Rz (by decide),Tw,T2];intro x p;obtain⟨i,m,rfl⟩:=TK.1 p;simpa using u.out i m (by omega)
def D9{K:Nat->Prop}{v:Value}{l:List Int}(s:Int)(w:World)(a:aB K 1 dn w v l):
 Calls (Qs fs) 244 #[v,.int .i64 s] w λe w'=>e=.returned (.bool (l.any (λt=>decide (t=s))))/\w'=w:=by
 have P3:=P3 L;have b:=LQ L s w a;clear a;go_enter (n244 L),Tryz.ntmps244;go_wp2_with (first|(go_at_call 245;refine b.mono ?_;clear b;rintro e w2 ⟨⟨z,rfl,c⟩,rfl⟩;have d:Hid _:=c;clear c))
 go_ret;exact⟨by rw[<-d.out];rfl,rfl⟩
end Go.Proofs
namespace Go.Proofs
open Go.Tm Go.RowKit Go.MapKept
def zE(k:Int):Int:=if k=0 then 1 else if k=1 then 2 else if k=2 then 3 else 0
def kB(k:Int):Bool:=au k 0 2
def pI{k}(h:kB k=false):zE k=0:=by unfold kB au at h;unfold zE;rw[Vb,TM,TM]at h;rw[Ro (by omega),Ro (by omega),Ro (by omega)]
def dz(w:World)(b:Nat):Prop:=∃es a,w.heap[b]? =some (.map es a)/\(∀e∈es.toList,∃k:Int,e.key=.int .i64 k/\e.val=.int .i64 (zE k)/\kB k=true)/\∀k,kB k=true->∃e∈es.toList,e.key=.int .i64 k
def gi(w:World):Prop:=∃b,w.cell? ⟨1,0,none⟩=some (.map (some b))/\dz w b
def dz.lt{w b}(h:dz w b):b<w.heap.size:=by obtain⟨es,a,c,_⟩:=h;exact(Rx.1 c).1
def dz.keep{w w' b}(h:dz w b)(c:w'.heap[b]? =w.heap[b]?):dz w' b:=by obtain⟨es,a,d,e⟩:=h;exact⟨es,a,c.trans d,e⟩
def dz.below{w w' b}(h:dz w b)(a:Below w.heap.size w w'):dz w' b:=h.keep (a.block b h.lt)
def gi.below{w w'}(h:gi w)(a:Below w.heap.size w w'):gi w':=by obtain⟨b,c,d⟩:=h;exact⟨b,(ae.below a).cell c,d.below a⟩
section
variable (fs:Array Func)
def Lr:(Qs fs).underlying 146=some (.map 94 3):=by kernel_rfl
def Ls:(Qs fs).underlying 94=some (.int .i64):=by kernel_rfl
def OR(w):(zeroValue 3).run (Qs fs) w=.ok (.int .i64 0) w:=by
 rw[gD];have h:((Tryz.prog.info? 3).bind (·.zero))=some (.int .i64 0):=by kernel_rfl
 cases a:Tryz.prog.info? 3 with
 |none=>rw[a]at h;cases h
 |some i=>rw[a]at h;simp only[TF]at h;simp[zeroValue,typeInfo,a,h]
def gz{w b}(h:dz w b)(k f):(Instr.lookup 146 (.map (some b)) (.int .i64 k) f).run (Qs fs) w=.ok (if f=true then .tuple #[.int .i64 (zE k),.bool (kB k)]else .int .i64 (zE k)) w:=by
 obtain⟨es,i,m,n,o⟩:=h;have c:=λe=>MapKept.run_checkKey (P:=Qs fs) (w:=w) (kt:=94) (k:=.int .i64 k) (Ls fs) (by simp[IsKey]) e 9999;rcases findNow_spec (d:=.int .i64) (k:=.int .i64 k) (by simp[IsKey]) es.toList 0 (λx p=>by obtain⟨q,g,_⟩:=n x p;rw[g];simp[IsKey])with⟨hf,hk⟩|⟨j,e,hf,hj,hk⟩
 ·have a:kB k=false:=by
   cases r:kB k with
   |false=>rfl
   |true=>obtain⟨e,s,l⟩:=o k r;exact absurd l (hk e s)
  rw[pI a,a];cases f<;>simp[Instr.lookup,run_underlying (Lr fs),MapKept.run_getObj_map (P:=Qs fs) m,c,MapKept.run_findKey (P:=Qs fs) (w:=w) (Ls fs) hf,Result.andThen,OR]
 ·obtain⟨q,g,t,a⟩:=n e (SN hj)
  rw[hk]at g;cases g;rw[a];rw[t]at hf;cases f<;>simp[Instr.lookup,run_underlying (Lr fs),MapKept.run_getObj_map (P:=Qs fs) m,c,MapKept.run_findKey (P:=Qs fs) (w:=w) (Ls fs) hf,Result.andThen]
end
end Go.Proofs
namespace Go.Proofs
open Go.Tm Go.RowKit Go.MapKept
open Go.ChangeMaps (setBlock)
def Rng(w:World)(b r:Nat)(f:EK->Nat)(left:EK->Bool)(cnt:Nat):Prop:=∃es d c seen e,w.heap[b]? =some (.map es d)/\Cnt es.toList d f/\w.heap[r]? =some (.mapIter (some b) c seen e)/\(∀x∈es.toList,x.born<c)/\c<=e/\c<=d/\(leftOf es seen).size=cnt/\(∀x∈es.toList,∀p,x.key=ej p->left p= !seen.contains x.born)/\∀p,left p=true->∃x∈es.toList,x.key=ej p
variable {w:World} {b r cnt:Nat} {f:EK->Nat} {left:EK->Bool}
def Rng.Ec(h:Rng w b r f left cnt):eN w b f:=by obtain⟨es,c,d,seen,i,e,g,_⟩:=h;exact⟨es,c,e,g⟩
def Rng.ne(h:Rng w b r f left cnt):r≠b:=by obtain⟨es,c,d,seen,i,g,j,e,_⟩:=h;rintro rfl;rw[g]at e;cases e
def Rng.lt(h:Rng w b r f left cnt):r<w.heap.size:=by obtain⟨es,c,d,seen,g,i,j,e,_⟩:=h;exact(Rx.1 e).1
def Rng.keep{w'}(h:Rng w b r f left cnt)(e:w'.heap[b]? =w.heap[b]?)(g:w'.heap[r]? =w.heap[r]?):Rng w' b r f left cnt:=by obtain⟨es,c,d,seen,i,j,k,l,m⟩:=h;exact⟨es,c,d,seen,i,e.trans j,k,g.trans l,m⟩
def Rng.left_eq(h:Rng w b r f left cnt):w.rangeLeft b r=cnt:=by obtain⟨es,c,d,seen,j,e,k,g,_,_,_,i,_⟩:=h;simp only[World.rangeLeft,e,g];exact i
def Gj{es c}(h:Cnt es c f){x e}(d:x∈es)(g:e∈es){p q:EK}(i:x.key=ej p)(j:e.key=ej q):p=q↔x.born=e.born:=by
 constructor
 ·rintro rfl
  have:x=e:=entry_eq_of_key h.keys d g (i.trans j.symm);rw[this]
 ·intro k
  have:x=e:=born_inj h.born d g k;subst this;exact D7 (i.symm.trans j)
def zK(es seen):(leftOf es seen).size=((es.toList.map kb).filter λq=> !seen.contains q.2).length:=by unfold leftOf;rw[<-Wl,Array.toList_filter,List.filter_map,SJ];rfl
section
variable (fs:Array Func)
open Classical in
def Jr(h:eN w b f):∃w' left cnt,(Instr.range 291 (.map (some b))).run (Qs fs) w=.ok (.pointer (some ⟨w.heap.size,0,none⟩)) w'/\Rng w' b w.heap.size f left cnt/\(∀p,f p≠0->left p=true)/\Below w.heap.size w w'/\w'.heap.size=w.heap.size+1:=by
 obtain⟨es,c,k,i⟩:=id h;refine⟨_,λp=>es.toList.any λe=>decide (e.key=ej p),_,run_range_map w 291 293 3 b es c (tB fs) k,⟨es,c,c,#[],c,((MapKept.heap_alloc w _).2 b h.lt).trans k,i,(MapKept.heap_alloc w _).1,λx d=>?_,Rq _,Rq _,rfl,λx d p g=>?_,λp g=>?_⟩,λp g=>?_,aF _ _,by simp⟩
 ·obtain⟨q,_,_,_,h⟩:=i.ent x d
  exact h
 ·have:(es.toList.any λe=>decide (e.key=ej p))=true:=Ta.2 ⟨x,d,RE g⟩
  simpa using this
 ·obtain⟨x,d,j⟩:=Ta.1 g
  exact⟨x,d,Su j⟩
 ·obtain⟨x,d,j⟩:=i.all p g
  exact Ta.2 ⟨x,d,RE j⟩
def Rng.next(h:Rng w b r f left cnt)(ty):
 ((∀p,left p=false)/\(Instr.next (.pointer (some ⟨r,0,none⟩)) false ty).run (Qs fs) w=.ok (.tuple #[.bool false]) w)\/
 ∃p w' t,wfE p/\left p=true/\(Instr.next (.pointer (some ⟨r,0,none⟩)) false ty).run (Qs fs) w=.ok (.tuple #[.bool true,ej p,.int .i64 (f p)]) w'/\Rng w' b r f (λq=>left q&& !decide (q=p)) t/\t<cnt/\w'.os=w.os/\w'.tape=w.tape/\w'.output=w.output/\w'.heap.size=w.heap.size/\(∀k,k≠r->w'.heap[k]? =w.heap[k]?)/\(∀(k:Nat) c e F,w.heap[k]? =some (Obj.cells c e F)->w'.heap[k]? =some (Obj.cells c e F))/\(Instr.entry (.pointer (some ⟨r,0,none⟩))).run (Qs fs) w'=.ok (.tuple #[ej p,.int .i64 (f p)]) w':=by
 have G:=h.ne;obtain⟨es,d,g,seen,O,R,F,H,u,I,A,rfl,y,B⟩:=h;rcases run_next_at (P:=Qs fs) w ty r b g O seen es d H R u I with⟨T,l⟩|⟨e,S,w1,i,l⟩
 ·refine .inl ⟨λp=>?_,l⟩
  cases m:left p with
  |false=>rfl
  |true=>obtain⟨x,C,J⟩:=B p m;rw[y x C p J,all_seen es seen T x C]at m;cases m
 ·obtain⟨n,K⟩:=mem_left S
  obtain⟨p,U,m,V,W⟩:=F.ent e n;have L:w1.heap[r]? =some (.mapIter (some b) g seen O):=by rcases i with rfl|rfl<;>exact H
  have M:w1.heap[b]? =some (.map es d):=by rcases i with rfl|rfl<;>exact R
  have j:=heap_set (o':=.mapIter (some b) g (seen.push e.born) d) L;have D:(setBlock w1 r (.mapIter (some b) g (seen.push e.born) d)).heap[b]? =some (.map es d):=(j.2 b (λe1=>G e1.symm)).trans M;have v:=run_entry_at (P:=Qs fs) _ r b g seen es d e j.1 D n F.born;rw[m,V]at l v;refine .inr ⟨p,_,_,U,by rw[y e n p m,K];rfl,l,⟨es,d,g,seen.push e.born,d,D,F,j.1,u,A,A,rfl,λx C q E=>?_,λq E=>B q (by simp at E;exact E.1)⟩,left_shrinks es seen e S,?_,?_,?_,?_,λk m=>?_,λk c e0 X m=>?_,v⟩
  ·show(left q&& !decide (q=p))=_
   rw[y x C q E,contains_push];have:=Gj F C n E m;by_cases s:q=p
   ·have z:=this.1 s
    rw[RE s,z];simp
   ·have z:¬x.born=e.born:=λh=>s (this.2 h)
    rw[Rz s];have:(x.born==e.born)=false:=by simpa using z
    rw[this];simp
  ·rcases i with rfl|rfl<;>rfl
  ·rcases i with rfl|rfl<;>rfl
  ·rcases i with rfl|rfl<;>rfl
  ·rcases i with rfl|rfl<;>simp[setBlock]
  ·exact(j.2 k m).trans (by rcases i with rfl|rfl<;>rfl)
  ·have N:k≠r:=by rintro rfl;rw[H]at m;cases m
   exact((j.2 k N).trans (by rcases i with rfl|rfl<;>rfl)).trans m
def Rng.entry(h:Rng w b r f left cnt){p:EK}(k:wfE p)(l:f p≠0):
 ∃es c,∃st:Nat,(Instr.mapEntry 291 (.map (some b)) (ej p)).run (Qs fs) w=.ok (.tuple #[.int .i64 (f p),.int .i64 st]) (dA w b es c)/\Rng (dA w b es c) b r f left cnt/\ir (dA w b es c) b p st:=by
 have i:=h.ne;obtain⟨es,c,d,seen,m,g,F,n,rest⟩:=h;obtain⟨j,e,q,s,t⟩:=Gi fs g F k l;exact⟨es,c,e.born,q,⟨es,c,d,seen,m,(cW g).1,F,((cW g).2.1 r i).trans n,rest⟩,⟨es,c,(cW g).1,j,e,s,t,rfl⟩⟩
def Rng.store(h:Rng w b r f left cnt){p:EK}{st}(K:ir w b p st)(L:wfE p)(v:Nat):
 ∃es c,(Instr.entryStore 291 (.map (some b)) (.int .i64 st) (.int .i64 v)).run (Qs fs) w=.ok () (dA w b es c)/\Rng (dA w b es c) b r (λq=>if q=p then v else f q) left cnt:=by
 have A:=h.ne;obtain⟨es,c,d,seen,M,s,F,N,g,B,C,i,D,E⟩:=h;obtain⟨O,t,k,j,e,P,R,G⟩:=K;rw[s]at k;cases k;subst G;obtain⟨l,a1,S,u⟩:=ud fs s F P R L v;refine⟨l,c,a1,l,c,d,seen,M,(cW s).1,S,((cW s).2.1 r A).trans N,λx m=>?_,B,C,?_,λx m q H=>?_,λq H=>?_⟩
 ·obtain⟨y,n,_,z⟩:=Cnt.shape u x m
  rw[<-z];exact g y n
 ·rw[zK,u,<-zK]
  exact i
 ·obtain⟨y,n,I,z⟩:=Cnt.shape u x m
  rw[<-z];exact D y n q (I.trans H)
 ·obtain⟨x,m,J⟩:=E q H
  obtain⟨y,n,I,z⟩:=Cnt.shape u.symm x m;exact⟨y,n,I.trans J⟩
end
section
variable {fs:Array Func} {ops:Array Oper} {rest:List Oper} {o:Oper} {a:Act} {Q:Exit->Act->World->Prop}
end
end Go.Proofs

import Derived.Test.YtaglpcmhopjebaaGreatDoorW23
set_option linter.all false
set_option maxRecDepth 100000
set_option maxHeartbeats 20000000
namespace Go.Proofs
open Go.Tm Go.RowKit
variable {fs:Array Func} (L:bT fs)
def Oi(a b d:Int)(w:xv):ac fs 44 #[.agg #[.i a,.i b,.i d]] w (.bool (decide (a=0/\b=0/\d=0))):=by obtain⟨w1,c⟩:=ex (w.alloc (.cells #[.i a,.i b,.i d] 86));obtain⟨h,g,ct⟩:=dT w w1 c;obtain⟨N,f⟩:=ex (w.heap.size);rw[<-f]at ct;have j:=ct 0 _ rfl;have a1:=ct 1 _ rfl;have k:=ct 2 _ rfl;have i:=jj g;clear g h ct;go_enter (n44 L),Tryz.ntmps44;go_upto_region 1 with fail;rw[<-c,<-f];clear c f;have l:=fQ fs tK .eql (.tmp 3) (.tmp 4);have m:=yT fs a b d 0 0 0;go_wp2;go_ret;exact⟨by rw[Bool.decide_and,Bool.decide_and];rfl,i.o⟩
def KX{K:Nat->Prop}{sc:WZ}{c:Case}(i j:Nat)(d f l m:Int)(w:xv)(hc:kP K w sc c)(T:i<c.marks.length)(U:j<c.marks.length):Calls (Qs fs) 43 #[.agg sc,iH ⟨i,d,f⟩,iH ⟨j,l,m⟩] w λe w'=>e=.returned (.bool (aV c ⟨i,d,f⟩ ⟨j,l,m⟩))/\jg w w':=by
 have r:aV c ⟨i,d,f⟩ ⟨j,l,m⟩=if d≠l then decide (d<l)else if f≠m then decide (m<f)else if c.marks[i].day≠c.marks[j].day then decide (c.marks[i].day<c.marks[j].day)else decide ((i:Int)<(j:Int)):=by unfold aV;simp only[lF c i T,lF c j U]
 obtain⟨v0,v1,v2,V,W,X,Y,Z,v8,s,ao,cp,rfl,g⟩:=hc;obtain⟨p,a⟩:=ex (w.alloc (.cells #[v0,v1,v2,V,W,X,Y,Z,v8,.slice ao c.marks.length cp,s] 60));obtain⟨t,b⟩:=ex (p.alloc (.cells #[.i i,.i d,.i f] 66));obtain⟨w1,n⟩:=ex (t.alloc (.cells #[.i j,.i l,.i m] 66));have F:ae t w1:=by rw[n];exact ae.alloc _ _
 have G:ae p w1:=(by rw[b];exact ae.alloc _ _:ae p t).trans F;have H:ae w w1:=(by rw[a];exact ae.alloc _ _:ae w p).trans G;have B1:jg w w1:=by rw[n,b,a];exact(((Below.refl _ w).alloc (Wv _) _).alloc (by simp) _).alloc (by simp;omega) _
 have o:p.heap.size=w.heap.size+1:=by rw[a];simp
 have hsb:t.heap.size=w.heap.size+1+1:=by rw[b,<-o];simp
 have ct:∀i v,(#[v0,v1,v2,V,W,X,Y,Z,v8,.slice ao c.marks.length cp,s]:WZ)[i]? =some v->w1.cell? ⟨w.heap.size,i,none⟩=some v:=λi v h=>G.cell (by rw[a];exact aC w _ 60 i v h);have B:∀k v,(#[.i i,.i d,.i f]:WZ)[k]? =some v->w1.cell? ⟨w.heap.size+1,k,none⟩=some v:=λi v h=>F.cell (by rw[b,<-o];exact aC p _ 66 i v h);have C:∀k v,(#[.i j,.i l,.i m]:WZ)[k]? =some v->w1.cell? ⟨w.heap.size+1+1,k,none⟩=some v:=λi v h=>by rw[n,<-hsb];exact aC t _ 66 i v h
 obtain⟨N0,I⟩:=ex (w.heap.size);obtain⟨N1,J⟩:=ex (w.heap.size+1);obtain⟨N2,M⟩:=ex (w.heap.size+1+1);obtain⟨bm,om,rfl,_,N⟩:=g i T;obtain⟨aa,ab,O,_,P⟩:=g j U;cases O;have N:=H.cell N;have P:=H.cell P;have t9:=ct 9 _ rfl;have a0:=B 0 _ rfl;have a1:=B 1 _ rfl;have a2:=B 2 _ rfl;have c0:=C 0 _ rfl;have c1:=C 1 _ rfl;have c2:=C 2 _ rfl;rw[<-M]at c0 c1 c2;rw[<-J]at a0 a1 a2;rw[<-I]at t9;obtain⟨d1,u⟩:=ex (c.marks[i].day);obtain⟨d2,x⟩:=ex (c.marks[j].day);rw[<-u]at N r;rw[<-x]at P r;have D:=jj B1;have ad:(i:Int)<(c.marks.length:Int):=by omega
 have af:(j:Int)<(c.marks.length:Int):=by omega
 obtain⟨q,hq⟩:=ex (aV c ⟨i,d,f⟩ ⟨j,l,m⟩);rw[<-hq]at r⊢;have E:=jj r;unfold iH;go_enter (n43 L),Tryz.ntmps43;go_upto_region 1 with fail;rw[<-a,<-b,<-n,<-M,<-J,<-I];clear a b n G F H B1 o hsb ct B C I J M u x g hq r;by_cases y:d=l;case neg=>
  have hb:(d !=l)=true:=by simpa using y
  go_wp2;go_ret;exact⟨by rw[E.o,Wu y];rfl,D.o⟩
 have hb:(d !=l)=false:=by simpa using y
 have Q:=jj y;clear y;by_cases z:f=m;case neg=>
  have R:(f !=m)=true:=by simpa using z
  go_wp2;go_ret;exact⟨by rw[E.o,Wt (λh=>h Q.o),Wu z];rfl,D.o⟩
 have R:(f !=m)=false:=by simpa using z
 have Z2:=jj z;clear z;by_cases A:d1=d2;case neg=>
  have S:(d1 !=d2)=true:=by simpa using A
  go_upto_region 5 with fail;go_quiet (fail);go_wp2;go_quiet (fail);go_wp2;go_ret;exact⟨by rw[E.o,Wt (λh=>h Q.o),Wt (λh=>h Z2.o),Wu A];rfl,(D.o.dR _).dR _⟩
 have S:(d1 !=d2)=false:=by simpa using A
 have Z3:=jj A;clear A;go_upto_region 5 with fail;go_quiet (fail);go_wp2;go_ret;exact⟨by rw[E.o,Wt (λh=>h Q.o),Wt (λh=>h Z2.o),Wt (λh=>h Z3.o),show decide ((i:Int)<j)=decide (i<j)from Zi.2 (by omega)];rfl,D.o.dR _⟩
def Oj{K:Nat->Prop}{sc:WZ}{c:Case}{x y:Hit}(w:xv)(b:kP K w sc c)(d:∃i:Nat,i<c.marks.length/\x.mark=i)(f:∃i:Nat,i<c.marks.length/\y.mark=i):ac fs 43 #[.agg sc,iH x,iH y] w (.bool (aV c x y)):=by obtain⟨i,g,e1⟩:=d;obtain⟨j,h,a⟩:=f;obtain⟨m1,k,l⟩:=x;obtain⟨m2,m,n⟩:=y;have e1:m1=(i:Int):=e1;have a:m2=(j:Int):=a;subst e1 a;exact KX L i j k l m n w b g h
def mV(t:Table)(k:Int)(one two:Mark):Int:=fh [du t,if(!av k 0 5)=true then 1 else 0,bL one,bL two]
def Ft(t:Table)(k:Int)(one two:Mark):Int:=if mV t k one two=0 then bn t k one two else 0
theorem uQ:∀{l:List Int},fh l=0->∀x∈l,x=0
 |a::l,h,x,hx=>by
  unfold fh at h;by_cases b:a≠0
  .rw[Wu b]at h
   exact absurd h b
  .rw[Wt b]at h
   obtain rfl|hx:=WO.1 hx
   .simpa using b
   .exact uQ h x hx
def Fu{t k one two}(h:mV t k one two=0):du t=0/\(0<=k/\k<=5)/\bL one=0/\bL two=0:=by (have h:=uQ h;refine⟨h _ (by simp),?_,h _ (by simp),h _ (by simp)⟩;have a:=h (if(!av k 0 5)=true then 1 else 0) (by simp);have:av k 0 5=true:=by cases e:av k 0 5 with|true=>rfl|false=>rw[e]at a;cases a);unfold av at this;simpa using this
def Q4{K:Nat->Prop}{v0 v1 v2:x6}{t:Table}{m1 m2:WZ}{one two:Mark}(k:Int)(w:xv)(M:IsTable K w v0 v1 v2 t) (N:bF K w m1 one) (O:bF K w m2 two) (E:mV t k one two=0->∀n:Nat,k=n->sS fs n one two) (Y:hZ w) (F:fX w):Calls (Qs fs) 25 #[.agg #[v0,v1,v2],.i k,.agg m1,.agg m2] w λe w'=>e=.returned (.tuple #[.i (Ft t k one two),.i (mV t k one two)])/\jg w w':=by
 by_cases c:mV t k one two=0;obtain⟨g0,g1,Z,g3⟩:=Fu c;have ev:Ft t k one two=bn t k one two:=Wu c;obtain⟨n,rfl⟩:∃n:Nat,k=n:=⟨k.toNat,by omega⟩
 rw[ev,c];exact yu L n w (by omega) (E c n rfl) M (Qk g0) g0 N O (E3 Z) (E3 g3) Z g3 Y F;have ev:Ft t k one two=0:=Wt c;rw[ev];have e20:=e20 L;have e51:=e51 L;have e52:=e52 L;have e66:=e66 L;have e67:=e67 L;obtain⟨P,rfl,i1⟩:=id N;obtain⟨Q,rfl,i2⟩:=id O;obtain⟨w1,g⟩:=ex (((w.alloc (.cells #[v0,v1,v2] 26)).alloc (.cells #[.string one.name,.string one.word,P,.i one.day,.bool one.known] 38)).alloc (.cells #[.string two.name,.string two.word,Q,.i two.day,.bool two.known] 38));obtain⟨J,B1,R,S,T⟩:=gS w _ _ _ _ _ _ w1 g;obtain⟨N0,j⟩:=ex (w.heap.size);obtain⟨N1,l⟩:=ex (w.heap.size+1);obtain⟨N2,m⟩:=ex (w.heap.size+1+1);rw[<-j]at R;rw[<-l]at S;rw[<-m]at T;obtain⟨fl,a⟩:=ex (mV t k one two);rw[<-a]at c⊢;unfold mV at a;obtain⟨A,o⟩:=ex (du t);obtain⟨z,p⟩:=ex (av k 0 5);obtain⟨B,q⟩:∃x:Int,x=if(!z)=true then 1 else 0:=⟨_,rfl⟩
 obtain⟨C,r⟩:=ex (bL one);obtain⟨D,s⟩:=ex (bL two);rw[<-o,<-p,<-q,<-r,<-s]at a;have G:∀x:au w w1,Calls (Qs fs) 20 #[.agg #[v0,v1,v2]] x.val λe w'=>e=.returned (.i A)/\∃y:au w w1,w'=y.val:=λx=>by rw[o];exact au.calls (ji L x.val (M.stays (J.trans x.st)))
 have H:∀x:au w w1,Calls (Qs fs) 66 #[.i k] x.val λe w'=>e=.returned (.bool z)/\∃y:au w w1,w'=y.val:=λx=>by rw[p];exact au.same (zb L k x.val)
 have I:∀x:au w w1,Calls (Qs fs) 52 #[.bool (!z),.i 1] x.val λe w'=>e=.returned (.i B)/\∃y:au w w1,w'=y.val:=λx=>by rw[q];exact au.same (ep L (!z) 1 x.val)
 have d:∀x:au w w1,Calls (Qs fs) 67 #[.agg #[.string one.name,.string one.word,P,.i one.day,.bool one.known]] x.val λe w'=>e=.returned (.i C)/\∃y:au w w1,w'=y.val:=λx=>by rw[r];exact au.calls (iU L x.val (⟨P,rfl,i1.ints (J.trans x.st)⟩:bF K x.val _ one))
 have f:∀x:au w w1,Calls (Qs fs) 67 #[.agg #[.string two.name,.string two.word,Q,.i two.day,.bool two.known]] x.val λe w'=>e=.returned (.i D)/\∃y:au w w1,w'=y.val:=λx=>by rw[s];exact au.calls (iU L x.val (⟨Q,rfl,i2.ints (J.trans x.st)⟩:bF K x.val _ two))
 have U:∀b:xv,Calls (Qs fs) 51 #[.slice (some ⟨b.heap.size,0,none⟩) 4 4] (b.alloc (.cells #[.i A,.i B,.i C,.i D] 29)) λe w'=>e=.returned (.i fl)/\w'=b.alloc (.cells #[.i A,.i B,.i C,.i D] 29):=λb=>by
  rw[a];exact yn L b.heap.size 0 4 [A,B,C,D] (b.alloc (.cells #[.i A,.i B,.i C,.i D] 29)) (by show 4<=_;decide) (λk hk=>by
   rw[WH]
   match k,hk with
   |0,_=>exact aC b _ 29 0 _ rfl
   |1,_=>exact aC b _ 29 1 _ rfl
   |2,_=>exact aC b _ 29 2 _ rfl
   |3,_=>exact aC b _ 29 3 _ rfl)
 have HB:=jj B1;have a0:=λx:au w w1=>TU λi v h=>x.st.cell (R i v h);have b0:=λx:au w w1=>Nk λi v h=>x.st.cell (S i v h);have d0:=λx:au w w1=>Nk λi v h=>x.st.cell (T i v h);have aa:(fl !=0)=true:=by simpa using c
 clear M N O Y F i1 i2 J B1 R S T E c ev a o q r s p;go_enter (n25 L),Tryz.ntmps25;go_upto_region 1 with fail;rw[<-g,<-m,<-l,<-j];clear g j l m;refine aZ (w0:=w) (w1:=w1) 10 (by kernel_rfl) (by kernel_rfl) (ae.refl _) HB.o ?_;simp only[Xi,Xf,Xn,Xl];haveI V:Nonempty (au w w1):=⟨⟨w1,ae.refl _,HB.o⟩⟩
 repeat (go_big_quiet_step (first|(go_at_call 20;exact G _)|(go_at_call 66;exact H _)|(go_at_call 52;exact I _)|(go_at_call 67;first|exact d _|exact f _)))
 refine wpQuiet_nil ?_;rintro wy ⟨⟨_,Sy,W⟩,rfl⟩;obtain⟨w2,u⟩:=ex (wy.alloc (.cells #[.i A,.i B,.i C,.i D] 29));have B2:jg w w2:=by rw[u];exact W.alloc W.size _
 have X:=jj B2;clear G H I d f a0 b0 d0 V Sy W B2;go_wp2_with (go_at_call 51;refine(U _).mono ?_;rintro e w4 ⟨rfl,rfl⟩;rw[<-u];clear u)
 go_ret2
 exact⟨rfl,X.o⟩
end Go.Proofs
namespace Go.Proofs
theorem sx{c m k}:∀(b:List jd) (i:Nat),cQ c m k i b=none->∀r∈b,fK c m k r≠⟨0,0,0⟩
 | [],i,h,r,hr=>by cases hr
 |a::b,i,h,r,hr=>by
  unfold cQ at h;split at h
  .cases h
  .rename_i d
   obtain rfl|hr:=WO.1 hr
   .exact d
   .exact sx b (i+1) h r hr
def ig(a:List rC):Nat->Int
 |0=> -1
 |n+1=>if a[a.length-(n+1)]? =some ⟨0,0,0⟩then((a.length-(n+1):Nat):Int)else ig a n
theorem xK(a:List rC)(h:∀x∈a,x≠⟨0,0,0⟩):∀n,ig a n= -1
 |0=>rfl
 |n+1=>by unfold ig;rw[Wt (λe=>h _ (Xr e) rfl),xK a h n]
theorem Dt(a:List rC)(q:Nat)(b:a[q]? =some ⟨0,0,0⟩)(c:∀j,j<q->a[j]? ≠some ⟨0,0,0⟩):∀n,n<=a.length->a.length-n<=q->ig a n=q
 |0,_,h=>by have:=(Xk.1 b).1;omega
 |n+1,d,f=>by
  unfold ig;by_cases e:a.length-(n+1)=q
  .rw[Wu (by rw[e];exact b),e]
  .rw[Wt (c _ (by omega)),Dt a q b c n (by omega) (by omega)]
def IV(a:List rC){q:Nat}(b:q<a.length):ig a (a.length-q)=if a[q]=⟨0,0,0⟩then(q:Int)else ig a (a.length-(q+1)):=by (obtain⟨n,c⟩:∃n,a.length-(q+1)=n:=⟨_,rfl⟩);(have e:a.length-q=n+1:=by omega);rw[c,e];(conv=>lhs;unfold ig);rw[show a.length-(n+1)=q by omega,WN b];by_cases h:a[q]=⟨0,0,0⟩;rw[Wu h,Wu (by rw[h])];rw[Wt h,Wt (λe=>h (WV e))]
def IW(c:Case)(i:Nat):Int:=((en c i).map (·.di)).getD (-1)
def IX{c:Case}{i:Nat}(f:i<c.marks.length)(g:i<c.kin.length):ig (eW c c.marks[i] c.kin[i]) (eW c c.marks[i] c.kin[i]).length=IW c i:=by unfold IW en;rw[WN f,WN g];simp only[];cases h:cQ c c.marks[i] c.kin[i] 0 c.rules with|none=>simp only[Option.map_none,Option.getD_none];refine xK _ (λx k=>?_) _;obtain⟨r,l,rfl⟩:=XH.1 k;exact sx _ _ h r l|some p=>obtain⟨q,v⟩:=p;simp only[Xm,Yl];obtain⟨_,a,b,_,d⟩:=jY _ _ _ _ h;simp only[Nat.sub_zero]at a b d;refine Dt _ q ?_ (λj m e=>?_) _ (Wv _) (by omega);unfold eW;rw[Xq,WN a];exact W8 some b;unfold eW at e;rw[Xq,WN (show j<c.rules.length by omega)]at e;exact d j m (WV e)
def kT(l:List Hit)(p:Nat)(R:Nat->Int):Prop:=(∀q (a:q<l.length),q<p->∀i:Nat,l[q].mark=i->R i=l[q].di)/\∀i:Nat,(∀q (a:q<l.length),q<p->l[q].mark≠i)->R i= -1
def kT.start(l:List Hit):kT l 0 λ_=> -1:=⟨λq a h=>by omega,λ_ _=>rfl⟩
def kT.new{c p R}(h:kT (aA c) p R)(b:p<(aA c).length){m:Nat}(d:(aA c)[p].mark=m):R m= -1:=h.2 m λq f a e=>Y3.1 (pd c) q p f b a (e.trans d.symm)
def kT.next{c p R}(h:kT (aA c) p R)(e:p<(aA c).length){m:Nat}(f:(aA c)[p].mark=m):kT (aA c) (p+1) λi=>if i=m then(aA c)[p].di else R i:=by refine⟨λq a d i b=>?_,λi b=>?_⟩;obtain h1|h1:=Wx q p;have:=Y3.1 (pd c) q p a e h1;simp only[];rw[Wt (by omega)];exact h.1 q a h1 i b;(obtain rfl:q=p:=by omega);simp only[];rw[Wu (by omega)];have:=b p e (by omega);simp only[];rw[Wt (by omega)];exact h.2 i λq a d=>b q a (by omega)
def kT.all{c R}(h:kT (aA c) (aA c).length R){i:Nat}(f:i<c.marks.length):R i=IW c i:=by
 unfold IW;cases e:en c i with
 |none=>(refine h.2 i λq a _ e1=>?_;obtain⟨j,g,k,b⟩:=gJ (WG a);obtain rfl:j=i:=by omega);rw[e]at b;cases b
 |some x=>obtain⟨q,a,d⟩:=XO (tq f e);have:=h.1 q a a i (by rw[d];exact(lO e).1);rw[this,d];rfl
def Q3(c m k r):0<=(fK c m k r).days/\0<=(fK c m k r).level/\0<=(fK c m k r).kin:=by unfold fK;simp only[];omega
end Go.Proofs
namespace Go.Proofs
open Go.Tm Go.RowKit
variable {fs:Array Func} (L:bT fs)
def mU(c:Case)(j:Int):Int:=if bO c≠0 then bO c else if !av j 0 ((c.marks.length:Int)-1)then 6 else 0
def Fs(c:Case)(j:Int):List rC:=if mU c j=0 then((c.marks[j.toNat]?.bind λm=>c.kin[j.toNat]?.map λn=>eW c m n).getD [])else[]
def Ds{c:Case}{j:Nat}(h:bO c=0)(b:j<c.marks.length)(d:j<c.kin.length):mU c j=0/\Fs c j=eW c c.marks[j] c.kin[j]:=by (have a:mU c j=0:=by unfold mU av;rw[Wt (by simpa using h),WE (by omega),WE (by omega)];rfl);refine⟨a,(Wu a).trans ?_⟩;rw[Zj,WN b,WN d];rfl
def Q2{K:Nat->Prop}{sc:WZ}{c:Case}(j:Int)(w:xv)(C:bD K w sc c)(q:bO c=0->uy fs c)(Q:hZ w)(r:fX w):Calls (Qs fs) 38 #[.agg sc,.i j] w λe w'=>∃v,e=.returned (.tuple #[v,.i (mU c j)])/\w'.ownsRow w.heap.size 86 3 v (Fs c j).length (uC (Fs c j))/\jg w w':=by (have a:mU c j=if bO c≠0 then bO c else if !av j 0 ((c.marks.length:Int)-1)then 6 else 0:=rfl);by_cases m:mU c j=0;rw[m]at a;(have s:bO c=0:=by by_cases h:bO c=0;exact h;rw[Wu h]at a;exact a.symm);(rw[Wt (by simpa using s)]at a;have o:av j 0 ((c.marks.length:Int)-1)=true:=by cases e:av j 0 ((c.marks.length:Int)-1)with|true=>rfl|false=>rw[e]at a;cases a);(have o:=iY o;obtain⟨n,rfl⟩:∃n:Nat,j=n:=⟨j.toNat,by omega⟩);(have R:=(ew s).1;have D:n<c.marks.length:=by omega);(have t:n<c.kin.length:=by rw[R.Jc];exact D);rw[m,(Ds s D t).2];exact E2 L n w C R s D t (q s) Q r;(have S:Fs c j=[]:=Wt m;rw[S];have e37:=e37 L;have e51:=e51 L;have e52:=e52 L;have e63:=e63 L;have E:=λp (G:ae w p)=>kB L p (C.stays G);obtain⟨v0,v1,v2,X,Y,vm,Z,rfl,ht,hr,hf,H,I⟩:=C;obtain⟨am,cm,rfl,m1,m2,_⟩:=H;obtain⟨w1,g⟩:=ex (w.alloc (.cells #[v0,v1,v2,X,.string c.new.name,.string c.new.word,Y,.i c.new.day,.bool c.new.known,.slice am c.marks.length cm,Z] 60));obtain⟨T,U,ct⟩:=dT w w1 g;have aa:IntKind.i64.wrap ((c.marks.length:Int)-1)=(c.marks.length:Int)-1:=wrap_i64 _ (by omega);obtain⟨N,J⟩:=ex (w.heap.size);have M:=λp (G:ae w1 p)=>cj λi v h=>G.cell (ct i v h);rw[<-J]at M;obtain⟨f,k⟩:=ex (bO c);obtain⟨z,l⟩:=ex (av j 0 ((c.marks.length:Int)-1));rw[<-k,<-l]at a;obtain⟨b,o⟩:∃b:Int,b=if(!z)=true then 6 else 0:=⟨_,rfl⟩);(rw[<-o]at a;simp only[<-k]at E;have u:=λx:au w w1=>au.calls (E x.val (T.trans x.st));have A:∀x:au w w1,Calls (Qs fs) 63 #[.i j,.i 0,.i ((c.marks.length:Int)-1)] x.val λe w'=>e=.returned (.bool z)/\∃y:au w w1,w'=y.val:=λx=>by have h:=dV fs (n63 L) j 0 ((c.marks.length:Int)-1) x.val;rw[show(decide ((0:Int)<=j)&&decide (j<=(c.marks.length:Int)-1))=z from l.symm]at h;exact au.same h);(have B:∀x:au w w1,Calls (Qs fs) 52 #[.bool (!z),.i 6] x.val λe w'=>e=.returned (.i b)/\∃y:au w w1,w'=y.val:=λx=>by rw[o];exact au.same (ep L (!z) 6 x.val));(have d:=λwx=>dA L f b wx;rw[<-a]at d;have l0:=λx:au w w1=>M x.val x.st;have V:=jj U;obtain⟨F,W⟩:=ex (mU c j);rw[<-W]at m d⊢;have k1:(F !=0)=true:=by simpa using m);(clear ht hf I hr ct U T q Q r E M a S m W k l o;go_enter (n38 L),Tryz.ntmps38;go_upto_region 1 with fail;rw[<-g,<-J];clear g J;refine aZ (w0:=w) (w1:=w1) 10 (by kernel_rfl) (by kernel_rfl) (ae.refl _) V.o ?_;simp only[Xi,Xf,Xn,Xl];haveI O:Nonempty (au w w1):=⟨⟨w1,ae.refl _,V.o⟩⟩);(repeat (go_big_quiet_step (first|(go_at_call 37;exact u _)|(go_at_call 63;exact A _)|(go_at_call 52;exact B _))));refine wpQuiet_nil ?_;rintro p ⟨⟨_,Sy,P⟩,rfl⟩;have HY:Hid (jg w (p.alloc (.cells #[.i f,.i b] 29))):=P.alloc P.size _;clear u A B l0 O Sy P;go_wp2_with (go_at_call 51;refine(d _).mono ?_;clear d;rintro e w4 ⟨rfl,rfl⟩);(go_ret2);exact⟨.slice none 0 0,rfl,World.ownsRow_nil _ _ _ _,HY.o⟩
end Go.Proofs
namespace Go.Proofs
open Go.Tm Go.RowKit
section
variable {fs:Array Func} (L:bT fs)
def IU{K:Nat->Prop}{v0 v1:x6}{l m:List (Int×Int×Int)}(w:xv)(O:aB K 3 (eo .i64) w v0 l)(P:aB K 3 (eo .i64) w v1 m):ac fs 86 #[v0,v1] w (.bool (decide (l=m))):=by
 obtain⟨Q,c0,rfl,R,S,_,g0⟩:=O;obtain⟨a1,c1,rfl,T,U,_,D⟩:=P;obtain hlen|hlen:=ZJ (l.length=m.length)
 .have f:((l.length:Int)!=(m.length:Int))=false:=by rw[hlen];simp
  have V:((m.length:Int)!=(m.length:Int))=false:=by simp
  have u:Hid (l.length=m.length):=hlen;have E:Hid ((∀j (F:j<l.length),∃b o,Q=some ⟨b,o,none⟩/\eo .i64 K w b (o+j*3) l[j])/\(∀j (F:j<m.length),∃b o,a1=some ⟨b,o,none⟩/\eo .i64 K w b (o+j*3) m[j])):=⟨g0,D⟩
  clear g0 D;go_enter (n86 L),Tryz.ntmps86;go_wp2;go_loopw [5,13] (λs5 s wr=>∃j:Nat,j<=l.length/\s=.i j/\(∀q (d:q<l.length),q<j->l[q]=m[q]'(u.o▸d))/\jg w wr) (λ_ s _=>l.length-(intOf s).toNat);case atStart=>exact⟨0,WB _,rfl,λq d h=>by omega,Below.refl _ _⟩
  case round=>
   (obtain⟨j,F,rfl,f,a⟩:=hrel;have g:Hid ((∀q (d:q<l.length),q<j->l[q]=m[q]'(u.o▸d))/\jg w wr):=⟨f,a⟩);obtain i|hge:=Wx j l.length
   ·(have k:j<m.length:=by omega);(obtain⟨b,o,rfl,v,x,y⟩:=E.o.1 j i;obtain⟨b2,o2,rfl,z,A,B⟩:=E.o.2 j k;have c:=ae.below a;have v:=c.cell v;have x:=c.cell x;have y:=c.cell y;have z:=c.cell z;have A:=c.cell A;have B:=c.cell B;obtain⟨p,n⟩:=ex (l[j]);obtain⟨q,d⟩:=ex (m[j]);rw[<-n]at v x y;rw[<-d]at z A B;obtain⟨G,H,I⟩:=p;obtain⟨J,M,N⟩:=q;simp only[]at v x y z A B;have W:=jj n;have X:=jj d;have C:=Cb fs G H I J M N;have hG:=fQ fs DT .neq (.tmp 19) (.tmp 23);have Y:(j:Int)<(l.length:Int):=by omega);(have Z:(j:Int)<(m.length:Int):=by omega);by_cases r:G=J/\H=M/\I=N
    .rw[WE r]at C;obtain⟨rfl,rfl,rfl⟩:=r;simp only[XW]at C;clear f a c n d;go_wp2;go_quiet (fail);go_wp2;refine⟨⟨j+1,by omega,by go_num,λq d aa=>?_,g.o.2.dR _⟩,by simp[intOf];omega⟩;by_cases h:q<j;exact g.o.1 q d h;(obtain rfl:q=j:=by omega);exact W.o.symm.trans X.o
    (have t:l[j]≠m[j]:=λe=>by rw[<-n,<-d]at e;cases e;exact r ⟨rfl,rfl,rfl⟩);have HN:Hid _:=D4 u.o i t;rw[Wz r]at C;simp only[YJ]at C;clear f a c n d t r;go_wp2;go_quiet (fail);go_wp2;go_ret;exact⟨by rw[HN.o];rfl,g.o.2.dR _⟩
   clear f a;have HT:Hid _:=D5 u.o λq d=>g.o.1 q d (by omega);go_wp2;go_ret;exact⟨by rw[HT.o];rfl,g.o.2⟩
 have f:((l.length:Int)!=(m.length:Int))=true:=by rw[X7];omega
 have hN:Hid (decide (l=m)=false):=Wz λe=>hlen (by rw[e]);clear g0 D;go_enter (n86 L),Tryz.ntmps86;go_wp2;go_ret;exact⟨by rw[hN.o];rfl,Below.refl _ _⟩
def AH{kd w w' v l}(a:ae w w')(h:aB (λ_=>True) 3 (eo kd) w v l):aB (λ_=>True) 3 (eo kd) w' v l:=h.stays a λx y o z e h=>by subst e;exact h.keep a
def mD(c:Case)(l:List (Int×Int×Int)):Bool:=if bO c=0 then decide (l=(aA c).map IB)else false
end
def KW{sc:WZ}{c:Case}{I:x6}{l:List (Int×Int×Int)}(w:xv)(t:eZ w sc c)(J:aB (λ_=>True) 3 (eo .i64) w I l)(m:gG w):Calls (Qs FM) 41 #[.agg sc,I] w λe w'=>(e=.returned (.tuple #[.bool (mD c l),.i (bO c)])/\jg w w')\/∃v L,e=.panicked (fZ v)/\dL w' v L:=by
 have L:=eE;have e37:=e37 L;have e74:=e74;have e86:=e86 L;obtain⟨v0,v1,v2,P,Q,R,S,T,U,V,y,rfl⟩:=t.1.boxed;obtain⟨w1,h⟩:=ex (w.alloc (.cells #[v0,v1,v2,P,Q,R,S,T,U,V,y] 60));obtain⟨n,z,ct⟩:=dT w w1 h;obtain⟨N,A⟩:=ex (w.heap.size);rw[<-A]at ct;have i:=kB L w1 (t.1.stays n);have d:=λ(K:OkC c/\Ku c) w3 (o:jg w1 w3)=>VL w3 (t.stays (n.trans (ae.below o))) K.1 K.2 (m.stays (n.trans (ae.below o)) (Ww z.size o.size));have a:=λ(v:x6) (b:Nat) w3 (o:jg w1 w3) (u:fg b w3 v (aA c))=>IU L w3 (AH (n.trans (ae.below o)) J) (uJ u);have x:=jj z;have B:=jj d;have C:=jj a;have W:=gI ct;have D:=cj ct;have E:mD c l=if bO c=0 then decide (l=(aA c).map IB)else false:=rfl
 have F:=ew (c:=c);obtain⟨f,u⟩:=ex (bO c);rw[<-u]at i E F⊢;have p:=jj E;have X:=jj F;clear t m n z ct d a E F u J;go_enter (n41 L),Tryz.ntmps41;go_upto_region 1 with fail;rw[<-h,<-A];clear h A;go_wp2_with fail;refine i.mono ?_;clear i;rintro e w2 ⟨rfl,q⟩;have g:=jj q;clear q D;by_cases k:f=0
 .have d:=B.o (X.o k) w2 g.o;have G:Hid (mD c l=decide (l=(aA c).map IB)):=p.o.trans (Wu k);clear p;subst k;have D:=cj (W.o w2 g.o);go_wp2_with fail;refine d.mono ?_;clear d;rintro e w3 (⟨v,rfl,M,r⟩|⟨v,Y,rfl,O⟩)
  .have j:Hid (jg w1 w3):=g.o.trans (r.mono g.o.size);have a:=C.o v _ w3 j.o M;rw[<-G.o]at a;clear M r D;go_wp2_with (go_at_call 86;refine a.mono ?_;clear a;rintro e w4 ⟨rfl,s⟩;have H:Hid (jg w1 w4):=j.o.trans (s.mono j.o.size);clear s)
   (go_ret2);exact .inl ⟨rfl,x.o.trans (H.o.mono x.o.size)⟩
  have Z:=jj O;clear O;exact bQ rfl (.inr ⟨v,Y,rfl,Z.o⟩)
 have k1:(f !=0)=true:=by simpa using k
 have p:Hid (mD c l=false):=p.o.trans (Wt k);clear k;go_wp2
 go_ret2
 exact .inl ⟨by rw[p.o];rfl,x.o.trans (g.o.mono x.o.size)⟩
def Q5{b w v l}(h:w.ownsRow b 86 3 v l.length (uC l)):∃c d,v=.slice c l.length d/\∀i (j:i<l.length),∃k o,c=some ⟨k,o,none⟩/\∀a,ae w a->a.cell? ⟨k,o+i*3,none⟩=some (.i l[i].days)/\a.cell? ⟨k,o+i*3+1,none⟩=some (.i l[i].level)/\a.cell? ⟨k,o+i*3+2,none⟩=some (.i l[i].kin):=by obtain⟨c,d,rfl,_,_,_,g⟩:=wN h;refine⟨c,d,by rw[Xa],λi j=>?_⟩;obtain⟨k,o,e,m,n,p⟩:=g i (by rw[Xa];exact j);rw[Yk]at m n p;exact⟨k,o,e,λa f=>⟨f.cell m,f.cell n,f.cell p⟩⟩
theorem xL:∀{l:List Int},(∀x∈l,x=0)->fh l=0
 | [],_=>rfl
 |a::l,h=>by unfold fh;rw[Wt (λg=>g (h a (by simp)))];exact xL λx b=>h x (by simp[b])
def KY{c:Case}(h:bO c=0){r m}(b:r∈c.rules)(d:m∈c.marks):mV c.table r.kind c.new m=0:=by obtain⟨e,j,f,g,_⟩:=qN h;obtain⟨_,i⟩:=kA g d;have k:=(ew h).1.rules r b;refine xL λx a=>?_;simp only[WO,WY,W7]at a;obtain rfl|rfl|rfl|rfl:=a;exact e;rw[Wt];unfold av;simp only[Z0,Bool.and_eq_false_iff,aaz];omega;exact f;exact Ax i
def Q6{fs}(L:bT fs){K:Nat->Prop}{v0 v1 v2:x6}{c:Case}{m1 m2:WZ}{r:jd}{m:Mark}(w:xv)(h:bO c=0)(d:r∈c.rules)(a:m∈c.marks)(g:IsTable K w v0 v1 v2 c.table) (i:bF K w m1 c.new) (j:bF K w m2 m) (k:hZ w) (b:fX w):ac fs 25 #[.agg #[v0,v1,v2],.i r.kind,.agg m1,.agg m2] w (.tuple #[.i (bn c.table r.kind c.new m),.i 0]):=by have f:=KY h d a;have q:=Q4 L r.kind w g i j (λ_ n l=>by have:=uH L (ew h).1 (ew h).2 r d m a;rwa[l,Zj]at this) k b;rw[f,show Ft c.table r.kind c.new m=bn c.table r.kind c.new m from Wu f]at q;exact q
def KZ{sc:WZ}{c:Case}{vh:x6}{l:List (Int×Int×Int)}(w)(hc:eZ w sc c)(hr:pc c)(hl:aB (λ_=>True) 3 (eo .i64) w vh l)(ad:gG w):Calls (Qs FM) 12 #[.agg sc,vh] w λe w'=>(e=.returned (.bool true)/\jg w w')\/∃v L,e=.panicked (fZ v)/\dL w' v L:=by
 have L:=eE;have e17:∀(a:WZ) (w:xv),(callFunc 17 a).run (Qs FM) w=.ok (.enter 17 a) w:=e17 L;have e25:=e25 L;have e30:=e30 L;have e31:=e31 L;have e36:=e36 L;have e38:=e38 L;have e41:=e41 L;have e43:=e43 L;have e44:=e44 L;obtain⟨v0,v1,v2,vr,vf,vm,vk,rfl,ht,c1,hf,hm,hk⟩:=id hc.1;obtain⟨ar,cr,rfl,r1,r2,_,r4⟩:=id c1;obtain⟨am,cm,rfl,m1,m2,_,_⟩:=id hm;obtain⟨ah,ch,rfl,l1,l2,_⟩:=id hl;obtain⟨w1,W⟩:=ex (w.alloc (.cells #[v0,v1,v2,.slice ar c.rules.length cr,.string c.new.name,.string c.new.word,vf,.i c.new.day,.bool c.new.known,.slice am c.marks.length cm,vk] 60));obtain⟨S1,B1,ct⟩:=dT w w1 W;obtain⟨N,hN⟩:=ex (w.heap.size);rw[<-hN]at ct;have st:=λs (B:jg w1 s)=>S1.trans (ae.below B);have sz:=λs (B:jg w1 s)=>Ww B1.size B.size;have c5:=Fh L w1 (hc.1.stays S1) hr;have qs:=λw2 (B:jg w w2)=>Fc w2 (ad.stays (ae.below B) B.size);have HS:=jj qs;have X:∀(h0:bO c=0) s (B:jg w1 s),_:=λh0 s B=>ry s (hc.stays (st s B)) (ad.stays (st s B) (sz s B));have C:∀{vx:x6} {lx:List (Int×Int×Int)} s (B:jg w1 s) (hx:aB (λ_=>True) 3 (eo .i64) s vx lx),_:=λs B hx=>KW s (hc.stays (st s B)) hx (ad.stays (st s B) (sz s B));have HL:Hid (∀s,jg w1 s->aB (λ_=>True) 3 (eo .i64) s (.slice ah l.length ch) l):=λs B=>AH (st s B) hl;have HB:=jj B1;have af:=jj S1;have e3:Hid _:=@X;have c6:Hid _:=@C;have HU:=gI ct;have Y:=cj ct;have HC:=jj hc;have HT:=jj ht;have HR:=jj r4;have HM:=jj hm;have HF:=jj hf;have HG:=jj ad;clear hc hr hl ad S1 B1 ct qs X C st sz ht c1 hf hm hk r4;go_enter (n12 L),Tryz.ntmps12;go_upto_region 1 with fail;rw[<-W,<-hN];clear W hN;go_wp2_with fail
 refine c5.mono ?_;clear c5;rintro e w2 ⟨z,rfl,hz,c7⟩;have Z:=jj c7;clear c7 Y;cases z with
 |false=>have HW:Hid (jg w w2):=HB.o.trans (Z.o.mono HB.o.size);clear hz;go_wp2_with fail;exact uP
 |true=>
 have HZ:Hid _:=hz rfl;clear hz;by_cases c8:40<l.length;case pos=>
  have k1:(40:Int)<(l.length:Int):=by omega
  have HW:Hid (jg w w2):=HB.o.trans (Z.o.mono HB.o.size);clear c8;go_wp2_with fail
  exact uP
 have k1:decide ((40:Int)<(l.length:Int))=false:=Wz (by omega);clear c8;have Y:=cj (HU.o w2 Z.o);have X:=e3.o HZ.o.1 w2 Z.o;rw[HZ.o.1,show pf c=aA c from Wu HZ.o.1]at X;go_wp2_with fail;refine X.mono ?_;clear X;rintro e w3 (⟨x1,rfl,hF,c9⟩|⟨v,L',rfl,H⟩);case inr=>have HP:=jj H;clear H;exact bQ rfl (.inr ⟨v,L',rfl,HP.o⟩)
 have ba:Hid (jg w1 w3):=Z.o.trans (c9.mono Z.o.size);have dc:Hid _:=uJ hF;obtain⟨ax,cx,rfl,dd⟩:=rz hF;have HX:=jj dd;clear dd hF c9 Y k1;have Y:=cj (HU.o w3 ba.o);have k2:¬c.marks.length<(aA c).length:=by have:=jO c;omega
 have C:=c6.o w3 ba.o dc.o;rw[HZ.o.1,show mD c ((aA c).map IB)=true by unfold mD;rw[Wu HZ.o.1];exact WE rfl]at C;go_wp2_with fail;refine C.mono ?_;clear C;rintro e w4 (⟨rfl,cb⟩|⟨v,L',rfl,H⟩);case inr=>have HP:=jj H;clear H;exact bQ rfl (.inr ⟨v,L',rfl,HP.o⟩)
 have ag:Hid (jg w1 w4):=ba.o.trans (cb.mono ba.o.size);have dm:Hid (ae w3 w4):=ae.below cb;clear cb Y k2;have Y:=cj (HU.o w4 ag.o);have C:=c6.o w4 ag.o (HL.o w4 ag.o);obtain⟨y,hy⟩:=ex (mD c l);rw[HZ.o.1,<-hy]at C;have HY:Hid (y=decide (l=(aA c).map IB)):=hy.trans (Wu HZ.o.1);clear hy;go_wp2_with fail;refine C.mono ?_;clear C;rintro e w5 (⟨rfl,cc⟩|⟨v,L',rfl,H⟩);case inr=>have HP:=jj H;clear H;exact bQ rfl (.inr ⟨v,L',rfl,HP.o⟩)
 have cd:Hid (jg w1 w5):=ag.o.trans (cc.mono ag.o.size);have b3:Hid (ae w3 w5):=dm.o.trans (ae.below cc);clear cc Y;have cf:=y7 L w5 (AH b3.o dc.o) (HL.o w5 cd.o);rw[show decide ((aA c).map IB=l)=y by rw[HY.o];exact Zi.2 eq_comm]at cf;have ky:(y !=y)=false:=by simp
 go_wp2_with fail
 refine cf.mono ?_;clear cf;rintro e V ⟨rfl,cg⟩;have O:Hid (jg w1 V):=cd.o.trans (cg.mono cd.o.size);have dn:Hid (ae w3 V):=b3.o.trans (ae.below cg);clear cg;obtain⟨Y,a1,a2,a3,a4,a5,a6,a7,a8,a9,e4⟩:=cj (HU.o V O.o);have b4:c.marks.length<=40:=HZ.o.2.2.2.2.1;have bb:=run_make_row' (P:=Qs FM) 36 3 (.i 0) 8 Tryz.underlying36 (tz FM) rfl .i64 .i64 c.marks.length (by omega) (by omega);go_wp2_with fail;obtain⟨G,hG⟩:=ex (V.heap.size);have h0:=World.rowIs_made V (.i 0) c.marks.length 3;have bk:Below (V.heap.size) V _:=aN V (.cells (madeCells #[.i 0] c.marks.length) 3);rw[<-hG]at h0 bk⊢;obtain⟨wm,dp⟩:=ex (V.alloc (.cells (madeCells #[.i 0] c.marks.length) 3));rw[<-dp]at h0 bk⊢;have Q:Hid (G=V.heap.size):=hG;have ck:=jj h0;have e5:=jj bk;have b5:=jj b4;clear bb hG h0 bk dp b4 Y a1 a2 a3 a4 a5 a6 a7 a8 a9 e4 ky;go_loopw [11] (λcn wr=>∃k:Nat,k<=c.marks.length/\cn=.i k/\wr.rowIs G 3 c.marks.length (λi=>.i (if i<k then-1 else 0))/\Below G V wr) (λcn _=>c.marks.length-(intOf cn).toNat);case atStart=>exact⟨0,WB _,rfl,World.rowIs.congr ck.o λi hi=>by rw[Wt (by omega)],e5.o⟩
 case round=>
  obtain⟨k,hk,rfl,m,u⟩:=hrel;obtain b|hge:=Wx k c.marks.length
  .have cp:=m.cell b;(rw[Wt (Zv k)]at cp;have gj:=m.frozen k;have n:=jj m;have D:=jj u;have gk:(k:Int)<(c.marks.length:Int):=by omega);clear m u;go_wp2;refine⟨⟨k+1,by omega,by go_num,World.rowIs.congr (World.rowIs.set n.o k _) λi hi=>?_,D.o.setCell (Wv _) _⟩,by simp[intOf];omega⟩;by_cases e:i=k;rw[Wu e,Wu (by omega)];rw[Wt e];by_cases e2:i<k;rw[Wu e2,Wu (by omega)];rw[Wt e2,Wt (by omega)]
  obtain rfl:k=c.marks.length:=by omega
  have n:Hid (wr.rowIs G 3 c.marks.length (λi=>.i (-1))):=m.congr λi hi=>by rw[Wu hi]
  have D:=jj u;clear m u hge hk;go_wp2;go_loopw [12] (λcq wr=>∃p:Nat,p<=(aA c).length/\cq=.i p/\∃R:Nat->Int,wr.rowIs G 3 c.marks.length (λi=>.i (R i))/\kT (aA c) p R/\Below G V wr) (λcq _=>(aA c).length-(intOf cq).toNat);case atStart=>exact⟨0,WB _,rfl,_,n.o,kT.start _,D.o⟩
  case round=>
   clear n D;obtain⟨p,H,rfl,R,m,hR,u⟩:=hrel;obtain b|hge:=Wx p (aA c).length
   .obtain⟨mi,aa,cv,hit⟩:=gJ (WG b);(obtain⟨_,q,hq,he⟩:=QV hit;have b6:=hR.new b cv;have E:=hR.next b cv;obtain⟨kx,ox,rfl,d⟩:=HX.o p b;obtain⟨lv,cw⟩:=ex (bn c.table c.rules[q].kind c.new c.marks[mi]);rw[<-cw]at he;have dr:=jj cw;clear cw;have D:=jj u;have ds:Hid (jg w1 wr):=O.o.trans (Below.mono (Q.o▸u) O.o.size);obtain⟨I,K,M⟩:=d wr (dn.o.trans (ae.below (show Below (V.heap.size) V wr from Q.o▸u)));rw[he]at I K M E;simp only[]at I K M E;have ak:=jj E;have b7:=jj b6;have n:=jj m;have e6:=jj hR;have dt:=jj he;have k3:(p:Int)<((aA c).length:Int):=XL.2 b;clear d m hR u he hit cv b6 E;go_upto_region 19 with fail;obtain⟨wa,bo⟩:=ex (wr.alloc (.cells #[.i mi,.i q,.i lv] 66));obtain⟨SA,BA,ca⟩:=dT wr wa bo;have t:wa.rowIs G 3 c.marks.length (λi=>.i (R i)):=by rw[bo];exact World.rowIs.alloc n.o _);(obtain⟨J,hJ⟩:=ex (wr.heap.size);rw[<-hJ]at ca;rw[<-bo,<-hJ];have b0:=ca 0 _ rfl;have b1:=ca 1 _ rfl;have b2:=ca 2 _ rfl;have g0:wa.cell? ⟨G,mi,none⟩=some (.i (-1)):=by have h:=World.rowIs.cell t aa;rw[b7.o]at h;exact h);(have gf:=World.rowIs.frozen t mi;have e7:Hid (jg w1 wa):=ds.o.trans (BA.mono ds.o.size);have e8:Hid (Below G V wa):=D.o.trans (BA.mono (by rw[Q.o];have:=D.o.size;omega));have dw:=jj t;have e9:Hid (J≠G):=by have:=(World.rowIs.lt n.o);rw[Hid,hJ];omega);(obtain⟨_,a1,_,a3,_,_,_,_,_,a9,_⟩:=cj (HU.o wa e7.o);have k4:¬c.marks.length<=mi:=XZ.2 aa;have k5:¬c.rules.length<=q:=XZ.2 hq;have k6:(mi:Int)<(c.marks.length:Int):=XL.2 aa;have HJ:=jj hJ;have fa:Hid (∀i v,(#[.i mi,.i q,.i lv]:WZ)[i]? =some v->wa.cell? ⟨J,i,none⟩=some v):=ca;clear t SA BA ca bo hJ;go_upto_region 22 with fail;clear g0 gf b0 b1 b2 a1 a3 a9 I K M k4 k5 k6 k3;obtain⟨wb,bs⟩:=ex (wa.setCell ⟨G,mi,none⟩ (.i q));have cz:Hid (Below G V wb):=by rw[bs];exact e8.o.setCell (Wv _) _);(have bx:Hid (jg w1 wb):=O.o.trans (Below.mono (Q.o▸cz.o) O.o.size);have cA:=World.rowIs.congr (World.rowIs.set dw.o mi (.i q)) (g:=λi=>.i (if i=mi then(q:Int)else R i)) λi hi=>by split<;>rfl);(have dy:∀i v,(#[.i mi,.i q,.i lv]:WZ)[i]? =some v->wb.cell? ⟨J,i,none⟩=some v:=λi v h=>by rw[bs];exact(dz (Below.heap_setCell wa ⟨G,mi,none⟩ _ J e9.o)).trans (fa.o i v h));(rw[<-bs]at cA⊢;have cB:=jj cA;have cC:=jj dy;clear bs cA dy;have sb:ae w wb:=ae.trans af.o (ae.below bx.o);obtain⟨br,or,rfl,z0,_⟩:=HR.o q hq;obtain⟨bm,om,yf,cy,e,bb,d⟩:=yw HM.o mi aa;cases e;have cD:∀z:au wb wb,_:=λz=>au.calls (Q6 L z.val HZ.o.1 (WG hq) (WG aa) (IsTable.stays (sb.trans z.st) HT.o) ⟨vf,rfl,aB.ints (sb.trans z.st) HF.o⟩ (bb.stays (sb.trans z.st)) (HG.o.len.stays (sb.trans z.st)) (HG.o.kinds.stays (sb.trans z.st)));simp only[<-dr.o]at cD;obtain⟨I,K,M,y3,y4⟩:=d wb sb;have z0:=sb.cell z0;have b0:=cC.o 0 _ rfl;have b1:=cC.o 1 _ rfl;have n0:=λz:au wb wb=>And.intro (cj λi v h=>z.cell (HU.o wb bx.o i v h))<|And.intro (z.cell b0)<|And.intro (z.cell b1)<|And.intro (z.cell I)<|And.intro (z.cell K)<|And.intro (z.cell M)<|And.intro (z.cell y3)<|And.intro (z.cell y4)<|z.cell z0;clear b0 b1 I K M y3 y4 z0 d bb sb;have k6:(mi:Int)<(c.marks.length:Int):=XL.2 aa;have k7:(q:Int)<(c.rules.length:Int):=XL.2 hq;refine aO (w0:=wb) (w1:=wb) (by kernel_rfl) (by kernel_rfl) (ae.refl _) (Below.refl _ _) ?_;haveI bA:Nonempty (au wb wb):=⟨⟨wb,ae.refl _,Below.refl _ _⟩⟩);(repeat (go_big_quiet_step ((go_at_call 25;exact cD _))));(refine wpQuiet_nil ?_;rintro o ⟨⟨_,Sz,Bz⟩,rfl⟩;have ea:Hid (jg w1 o):=bx.o.trans (Bz.mono bx.o.size);have eb:Hid (Below G V o):=cz.o.trans (Bz.mono (by rw[Q.o];exact cz.o.size));have cF:Hid (o.rowIs G 3 c.marks.length (λi=>.i (if i=mi then(q:Int)else R i))):=World.rowIs.of_block cB.o (Bz.block G (World.rowIs.lt cB.o));have an:Hid (∀i v,(#[.i mi,.i q,.i lv]:WZ)[i]? =some v->o.cell? ⟨J,i,none⟩=some v):=λi v h=>Sz.cell (cC.o i v h);have ec:Hid (G<o.heap.size):=World.rowIs.lt cF.o;have b8:Hid (∀wd,jg o wd->wd.rowIs G 3 c.marks.length (λi=>.i (if i=mi then(q:Int)else R i))/\kT (aA c) (p+1) (λi=>if i=mi then(q:Int)else R i)/\Below G V wd):=λwd B=>⟨World.rowIs.of_block cF.o (B.block G ec.o),ak.o,eb.o.trans (B.mono (Yb ec.o))⟩);(clear bA Sz Bz cD n0 k6 k7;have o2:=λz:au o o=>z.cell (an.o 2 _ rfl);haveI bA:Nonempty (au o o):=⟨⟨o,ae.refl _,Below.refl _ _⟩⟩);have S:p<100:=Wy b (Ww (jO c) (Ww b5.o (by decide)));obtain⟨W,ed⟩:=ja S;have HM:Hid (p+1<=(aA c).length/\(aA c).length-(p+1)<(aA c).length-p):=rA b;obtain cG|hpos:=Xc p
    .as_aux_lemma=>
      subst cG;go_upto_region 23 with fail;refine aO (w0:=o) (w1:=o) (by kernel_rfl) (by kernel_rfl) (ae.refl _) (Below.refl _ _) ?_;repeat (go_big_quiet_step (fail))
      refine wpQuiet_nil ?_;rintro wd ⟨⟨_,Sd,Bd⟩,rfl⟩;have HD:Hid _:=b8.o wd Bd;clear bA Sd Bd o2;go_wp2;exact⟨⟨0+1,HM.o.1,by go_num,_,HD.o⟩,by simpa[intOf]using HM.o.2⟩
    as_aux_lemma=>
     obtain⟨pp,cH⟩:∃pp,pp+1=p:=⟨p-1,aaL hpos⟩
     have cI:pp<(aA c).length:=Nat.lt_of_succ_lt (show pp+1<(aA c).length by rw[cH];exact b);have b9:aV c (aA c)[pp] (aA c)[p]=true:=by subst cH;exact Fi c (i:=pp+1) (YF pp) b
     have ao:∀z:au o o,_:=λz=>au.calls (Oj L z.val (bD.days (HC.o.1.stays (ae.trans af.o ((ae.below ea.o).trans z.st)))) (x:=(aA c)[pp]) (y:=(aA c)[p]) (let⟨i,h1,h2,_⟩:=gJ (WG cI);⟨i,h1,h2⟩) (let⟨i,h1,h2,_⟩:=gJ (WG b);⟨i,h1,h2⟩));rw[b9,dt.o]at ao;unfold iH at ao;obtain⟨gm,gr,fb,d⟩:=HX.o pp cI;cases fb;obtain⟨I,K,M⟩:=d o (dn.o.trans (ae.below (show Below (V.heap.size) V o from Q.o▸eb.o)));obtain⟨cK,ay⟩:=ex ((aA c)[pp]);rw[<-ay]at I K M;simp only[<-ay]at ao;have ee:∀z:au o o,Calls (Qs FM) 43 #[.agg #[v0,v1,v2,.slice (some ⟨br,or,none⟩) c.rules.length cr,.string c.new.name,.string c.new.word,vf,.i c.new.day,.bool c.new.known,.slice (some ⟨bm,om,none⟩) c.marks.length cm,vk],.agg #[.i cK.mark,.i cK.di,.i cK.level],.agg #[.i mi,.i q,.i lv]] z.val λe w'=>e=.returned (.bool true)/\∃y:au o o,w'=y.val:=ao;clear dt dr b7 ak dw cB cF e6 ao ay d;have n0:=λz:au o o=>And.intro (cj λi v h=>z.cell (HU.o o ea.o i v h))<|And.intro (z.cell (an.o 0 _ rfl))<|And.intro (z.cell (an.o 1 _ rfl))<|And.intro (z.cell I)<|And.intro (z.cell K)<|z.cell M;clear I K M;have fc:(0:Int)<(p:Int):=Int.natCast_pos.2 hpos;obtain⟨ff,fi,fl,fq,fr⟩:=xI cH S;have fs:(pp:Int)<((aA c).length:Int):=XL.2 cI;clear b9 b H S;go_upto_region 23 with fail;refine aO (w0:=o) (w1:=o) (by kernel_rfl) (by kernel_rfl) (ae.refl _) (Below.refl _ _) ?_;repeat (go_big_quiet_step ((go_at_call 43;exact ee _)))
     refine wpQuiet_nil ?_;rintro wd ⟨⟨_,Sd,Bd⟩,rfl⟩;have HD:Hid _:=b8.o wd Bd;clear bA Sd Bd o2 ee n0 fc ff fs fi fl fq fr;go_wp2;exact⟨⟨p+1,HM.o.1,by go_num,_,HD.o⟩,by simpa[intOf]using HM.o.2⟩
   obtain rfl:p=(aA c).length:=Y7 H hge;have n:=jj m;have D:=jj u;have fx:Hid (∀i,i<c.marks.length->R i=IW c i):=λi hi=>hR.all hi;have ef:Hid (G<wr.heap.size):=World.rowIs.lt m;clear m u hR hge H;obtain⟨we,rfl⟩:=ex wr;go_wp2;go_loopw [16] (λcL s=>∃i:Nat,i<=c.marks.length/\cL=.i i/\jg we s) (λcL _=>c.marks.length-(intOf cL).toNat);case atStart=>exact⟨0,WB _,rfl,Below.refl _ _⟩
   case round=>
    obtain⟨i,hi,rfl,cM⟩:=hrel;have eg:=jj cM;have T:Hid (jg w1 wr):=O.o.trans (Below.mono (Q.o▸D.o.trans (cM.mono (Yb ef.o))) O.o.size);clear cM;have Y:=cj (HU.o wr T.o);obtain b|hge:=Wx i c.marks.length
    ·(have cR:i<c.kin.length:=by rw[(ew HZ.o.1).1.Jc];exact b);(have k3:(i:Int)<(c.marks.length:Int):=XL.2 b;have bB:=Q2 L (i:Int) wr (HC.o.1.stays (ae.trans af.o (ae.below T.o))) (λh=>uH L (ew h).1 (ew h).2) (HG.o.len.stays (ae.trans af.o (ae.below T.o))) (HG.o.kinds.stays (ae.trans af.o (ae.below T.o)));obtain⟨z1,z2⟩:=Ds HZ.o.1 b cR;rw[z1,z2]at bB;have F:=IX b cR;have hpos:∀x∈eW c c.marks[i] c.kin[i],0<=x.days/\0<=x.level/\0<=x.kin:=λx hx=>by obtain⟨r,_,rfl⟩:=XH.1 hx;exact Q3 _ _ _ _);(have aK:(eW c c.marks[i] c.kin[i]).length=c.rules.length:=Xa ..;obtain⟨ls,ei⟩:=ex (eW c c.marks[i] c.kin[i]);rw[<-ei]at bB F hpos aK;have fy:Hid (R i=ig ls ls.length):=(fx.o i b).trans F.symm;have fz:=jj hpos;have cS:=jj aK;have HM:Hid (i+1<=c.marks.length/\c.marks.length-(i+1)<c.marks.length-i):=rA b;have cU:=jj b;clear ei F hpos aK z1 z2 cR;go_upto_region 29 with((go_at_call 38;refine bB.mono ?_;clear bB;rintro e w7 ⟨v,rfl,hL,cV⟩)));(obtain⟨al,cl,rfl,ek⟩:=Q5 hL;have ga:=jj ek;have ev:Hid (jg we w7):=eg.o.trans (cV.mono eg.o.size);have gb:Hid (jg w1 w7):=T.o.trans (cV.mono T.o.size);clear ek hL cV Y;have Y:=cj (HU.o w7 gb.o);have k5:((ls.length:Int)!=(c.rules.length:Int))=false:=by rw[cS.o];simp);(have k6:ls.length<=100:=by rw[cS.o];exact Ww (ew HZ.o.1).1.vo (by decide));go_wp2;clear Y k3 k5 b hi;go_loopw [19,20] (λgd cX wi=>∃(p:Nat) (j:Int),p<=ls.length/\j=(p:Int)-1/\cX=.i j/\gd=.i (ig ls (ls.length-p))/\jg w7 wi) (λ_ cX _=>(intOf cX+1).toNat);case atStart=>exact⟨ls.length,_,Wv _,rfl,rfl,by rw[Nat.sub_self];rfl,Below.refl _ _⟩
     case round=>
      obtain⟨p,j,H,hj,rfl,rfl,cY⟩:=hrel;have aM:=jj cY;have ez:Hid (jg we wr):=ev.o.trans (cY.mono ev.o.size);clear cY;obtain cG|hpos:=Xc p
      .subst cG;(obtain rfl:j= -1:=hj;have gg:wr.cell? ⟨G,i,none⟩=some (.i (ig ls (ls.length-0))):=by have h:=World.rowIs.cell (World.rowIs.of_block n.o (ez.o.block G ef.o)) cU.o;rw[fy.o]at h;exact h);(obtain⟨f,hf⟩:=ex (ig ls (ls.length-0));rw[<-hf]at gg⊢;have kf:(f !=f)=false:=by simp);have k3:(i:Int)<(c.marks.length:Int):=XL.2 cU.o;obtain⟨W,ed⟩:=ja (Wy cU.o (Ww b5.o (by decide)):i<100);clear H hf;go_wp2;exact⟨⟨i+1,HM.o.1,by go_num,ez.o⟩,by simpa[intOf]using HM.o.2⟩
      (obtain⟨q,hq⟩:∃q,q+1=p:=⟨p-1,aaL hpos⟩);(have U:q<ls.length:=Nat.lt_of_succ_le (show q+1<=ls.length by rw[hq];exact H);have gh:j=(q:Int):=by rw[hj,<-hq];exact Int.add_sub_cancel (q:Int) 1);(subst gh;obtain⟨ka,oa,rfl,eS⟩:=ga.o q U;obtain⟨I,K,M⟩:=eS wr (ae.below aM.o);have aR:=IV ls U;obtain⟨n1,n2,n3⟩:=fz.o ls[q] (WG U);rw[hq]at aR;obtain⟨x,hx⟩:=ex (ls[q]);rw[<-hx]at I K M aR n1 n2 n3;obtain⟨da,le,ki⟩:=x;simp only[]at I K M n1 n2 n3;have ab:=Oi L da le ki wr;obtain⟨f,hf⟩:=ex (ig ls (ls.length-p));rw[<-hf]at aR⊢;have bC:(⟨da,le,ki⟩:rC)=⟨0,0,0⟩↔da=0/\le=0/\ki=0:=by rw[rC.mk.injEq]);have k3:(q:Int)<(ls.length:Int):=XL.2 U;have e0:=jj aR;have k0:0<=(q:Int):=aaw q;obtain⟨W,ed,gv,gw,gx⟩:=xI hq (Zx (Ww H (Ww (X0 cS.o) (ew HZ.o.1).1.vo)) (by decide));have kd:¬da<0:=ZV.2 n1;have ke:¬le<0:=ZV.2 n2;have kk:¬ki<0:=ZV.2 n3;have gA:=jj hq;have e1:=jj U;obtain⟨gB,gC⟩:=IK (Wy U k6);clear eS aR hf hj H hpos hx hq U k6;by_cases hz:da=0/\le=0/\ki=0
      .rw[WE hz]at ab;have HE:Hid ((q:Int)=ig ls (ls.length-q)):=(e0.o.trans (Wu (bC.2 hz))).symm;clear hz bC;go_wp2_with fail;refine ab.mono ?_;clear ab;rintro e w8 ⟨rfl,A⟩;have c0:Hid (jg w7 w8):=aM.o.trans (A.mono aM.o.size);have I:=(ae.below A).cell I;have K:=(ae.below A).cell K;have M:=(ae.below A).cell M;clear A;go_wp2;exact⟨⟨q,_,Yb e1.o,rfl,by go_num,by rw[<-HE.o],c0.o⟩,by simp[intOf]⟩
      rw[Wz hz]at ab;have HE:Hid (f=ig ls (ls.length-q)):=(e0.o.trans (Wt λh=>hz (bC.1 h))).symm;clear hz bC;go_wp2_with fail;refine ab.mono ?_;clear ab;rintro e w8 ⟨rfl,A⟩;have c0:Hid (jg w7 w8):=aM.o.trans (A.mono aM.o.size);have I:=(ae.below A).cell I;have K:=(ae.below A).cell K;have M:=(ae.below A).cell M;clear A;go_wp2;exact⟨⟨q,_,Yb e1.o,rfl,by go_num,by rw[<-HE.o],c0.o⟩,by simp[intOf]⟩
    obtain rfl:i=c.marks.length:=Y7 hi hge;have HW:Hid (jg w wr):=HB.o.trans (T.o.mono HB.o.size);clear hi hge;go_wp2_with fail;exact uP
end Go.Proofs

import Derived.Test.YtaglpcmhopjebaaGreatDoorQ34
set_option linter.all false
set_option maxRecDepth 100000
set_option maxHeartbeats 20000000
namespace Go.Proofs
open Go.Tm Go.RowKit
section
variable (fs:Array Func)
def MH:Tryz.prog.eqGuardType Tryz.prog.depth 293=false:=by kernel_rfl
def MI:Tryz.prog.stoodInHeld 293=false:=by kernel_rfl
def J8(t s n m w):(binOp .eql 293 (.agg #[.bool t,.int .i64 n]) (.agg #[.bool s,.int .i64 m])).run (Qs fs) w=.ok (.bool (decide ((t,n)=(s,m)))) w:=by rw[run_eql_struct,run_equalIn_struct w _ 293 _ _ (nI fs Tryz.underlying293) (qQ fs MI),iE,Program.fieldsOf,Tryz.underlying293];simp[go_sem];by_cases a:t=s<;>by_cases b:n=m<;>simp[a,b]
end
def rR{n}(h:0<=n/\n<=999){b}:wfE (b,n):=by unfold wfE;simp[Lit.wf,IntKind.min,IntKind.max,IntKind.signed,IntKind.bits];omega
def MJ(l:List Int)(s):(l.any λt=>decide (t=s))=l.contains s:=by rw[Tu,Tj];simp
structure DR(w W:World)(M R B:Nat)(h:Int)(f:EK->Nat)(left:EK->Bool)(cn:Nat):Prop where
 r:Rng W M R f left cn
 b:Below w.heap.size w W
 m:w.heap.size<=M
 box:W.heap[B]? =some (.cells #[.bool false,.int .i64 h] 293 (0,0))
section
variable (fs:Array Func) {w W:World} {M R B:Nat} {h:Int} {f:EK->Nat} {left:EK->Bool} {cn:Nat}
def DR.e0(d:DR w W M R B h f left cn):W.cell? ⟨B,0,none⟩=some (.bool false):=cell_of_heap d.box 0 _ rfl
def DR.e1(d:DR w W M R B h f left cn):W.cell? ⟨B,1,none⟩=some (.int .i64 h):=cell_of_heap d.box 1 _ rfl
def DR.look(d:DR w W M R B h f left cn){p:EK}(a:wfE p):(Instr.lookup 291 (.map (some M)) (en p) false).run (Qs fs) W=.ok (.int .i64 (f p)) W:=rP fs d.r.Ex p a
def DR.put(d:DR w W M R B h f left cn){es a g}(i:Rng (dD W M es a) M R g left cn):DR w (dD W M es a) M R B h g left cn:=by obtain⟨j,c,e,_⟩:=id d.r.Ex;refine⟨i,d.b.trans ((cT e).2.2.1 _ d.m),d.m,((cT e).2.1 B ?_).trans d.box⟩;rintro rfl;have:=d.box;rw[e]at this;cases this
def DR.entry(d:DR w W M R B h f left cn){p:EK}(c:wfE p)(e:f p≠0):∃b,∃st:Nat,(Instr.mapEntry 291 (.map (some M)) (en p)).run (Qs fs) W=.ok (.tuple #[.int .i64 (f p),.int .i64 st]) b/\DR w b M R B h f left cn/\ik b M p st:=by obtain⟨g,a,st,i,j,k⟩:=d.r.entry fs c e;exact⟨_,st,i,d.put j,k⟩
def DR.store(d:DR w W M R B h f left cn){p:EK}{st}(c:ik W M p st)(e:wfE p)(v:Nat):∃b,(Instr.entryStore 291 (.map (some M)) (.int .i64 st) (.int .i64 v)).run (Qs fs) W=.ok () b/\DR w b M R B h (λq=>if q=p then v else f q) left cn:=by obtain⟨g,a,i,j⟩:=d.r.store fs c e v;exact⟨_,i,d.put j⟩
end
def GQ(a b):il a b 0=0:=by unfold il;rw[SI];exact xw _ 10
structure DW(w W:World)(M:Nat)(f:EK->Nat):Prop where
 c:eO W M f
 b:Below w.heap.size w W
 m:w.heap.size<=M
section
variable (fs:Array Func)
def DW.look{w W M f}(h:DW w W M f){p:EK}(a:wfE p):(Instr.lookup 291 (.map (some M)) (en p) false).run (Qs fs) W=.ok (.int .i64 (f p)) W:=rP fs h.c p a
def DW.entry{w W M f}(h:DW w W M f){p:EK}(g:wfE p):∃d,∃st:Nat,(Instr.mapEntry 291 (.map (some M)) (en p)).run (Qs fs) W=.ok (.tuple #[.int .i64 (f p),.int .i64 st]) d/\DW w d M f/\ik d M p st:=by obtain⟨es,e,i,_⟩:=id h.c;obtain⟨j,a,st,k,l,n⟩:=J3 fs h.c p g;exact⟨_,st,k,⟨l,h.b.trans ((cT i).2.2.1 _ h.m),h.m⟩,n⟩
def DW.store{w W M f}(h:DW w W M f){p:EK}{st}(g:ik W M p st)(i:wfE p)(v:Nat):∃e,(Instr.entryStore 291 (.map (some M)) (.int .i64 st) (.int .i64 v)).run (Qs fs) W=.ok () e/\DW w e M (λq=>if q=p then v else f q):=by obtain⟨es,d,j,_⟩:=id h.c;obtain⟨k,a,l,n⟩:=J4 fs h.c g i v;exact⟨_,l,n,h.b.trans ((cT j).2.2.1 _ h.m),h.m⟩
end
variable {fs:Array Func} (L:bU fs)
def Ov{K:Nat->Prop}{va vb:Value}{a b:List Int}(w:World)(ha:aE K 1 du w va a)(hb:aE K 1 du w vb b)(la:a.length<=5)(lb:b.length<=5)(ca:∀x∈a,0<=x/\x<=999)(cb:∀x∈b,0<=x/\x<=999)(na:a.Nodup)(nb:b.Nodup):
 Calls (Qs fs) 241 #[va,vb] w λe w'=>e=.returned (.int .i64 (bQ a b))/\Below w.heap.size w w':=by
 have QD:=QD L;have b2:=hb;have cC:=λ(s:Int) wx (Q:ae w wx)=>Eu L s wx (b2.ints Q);obtain⟨aa,S,rfl,hd,hg,hl,gA⟩:=id ha;obtain⟨ab,Y,rfl,hn,bm,ht,gB⟩:=id hb;by_cases Z:a.length=0
 ·have cI:((a.length:Int)==0)=true:=by simpa using Z
  have HV:Hid (bQ a b=0):=by rw[TH.1 Z];rfl
  clear ha hb b2 gA gB Z cC;go_enter (n241 L),Tryz.ntmps241;go_wp2;go_ret;exact⟨by rw[HV.out];rfl,Below.refl _ _⟩
 by_cases ao:b.length=0
 ·have cI:((a.length:Int)==0)=false:=by simpa using Z
  have fb:((b.length:Int)==0)=true:=by simpa using ao
  have HV:Hid (bQ a b=0):=by rw[TH.1 ao];cases a<;>rfl
  clear ha hb b2 gA gB Z ao cC;go_enter (n241 L),Tryz.ntmps241;go_wp2;go_ret;exact⟨by rw[HV.out];rfl,Below.refl _ _⟩
 have cI:((a.length:Int)==0)=false:=by simpa using Z
 have fb:((b.length:Int)==0)=false:=by simpa using ao
 have HE:=Ev a b (λe=>Z (by rw[e];rfl)) (λe=>ao (by rw[e];rfl)) na nb;have hv:∀(t:TypeId) (w:World),(Instr.makeMap t none).run (Qs fs) w=.ok (.map (some w.heap.size)) (w.alloc (.map #[] 0)):=λ_ _=>rfl;have cK:=eO.new w;rw[<-J5 a b]at cK;obtain⟨M,hM⟩:=ex (w.heap.size);obtain⟨w1,b3⟩:=ex (w.alloc (.map #[] 0));have B1:Below w.heap.size w w1:=by rw[b3];exact aG _ _
 rw[<-b3,<-hM]at cK;clear ha hb b2 Z ao na nb;go_enter (n241 L),Tryz.ntmps241;go_upto_region 4 with fail;rw[<-b3,<-hM];have HM:Hid _:=hM;clear b3 hM;go_wp2;go_loopw [26] (λs wr=>∃j:Nat,j<=a.length/\s=.int .i64 j/\eO wr M (mC a b j)/\Below w.heap.size w wr) (λs _=>a.length-(intOf s).toNat)
 case atStart=>exact⟨0,R9 _,rfl,cK,B1⟩
 case round=>
  obtain⟨j,hj,rfl,hC,hB⟩:=hrel;have HC:Hid _:=hC;have HB:Hid _:=hB;obtain H|hge:=R5 j a.length
  ·obtain⟨blk,A,rfl,hx⟩:=gA j H
   rw[Tn]at hx;have cL:wr.cell? ⟨blk,A+j,none⟩=some (.int .i64 a[j]):=(ae.below hB).cell hx;have fc:(j:Int)<(a.length:Int):=by omega
   obtain⟨x,T⟩:=ex (a[j]);rw[<-T]at cL;have HX:Hid _:=T;clear hx hC hB;have ar:=ca x (by rw[T];exact Sg _);obtain⟨f,hf⟩:=ex (mC a b j);obtain⟨p,b4⟩:∃p:EK,p=(true,x):=⟨_,rfl⟩
   have hp:wfE p:=by rw[b4];exact rR ar
   obtain⟨v0,ad⟩:∃v0:Nat,v0=f p:=⟨_,rfl⟩
   obtain⟨v1,dd⟩:∃v1:Nat,v1=f p+1:=⟨_,rfl⟩
   have ff:v0<=5:=by rw[ad,hf];exact R3 (Ic _ _ _ _) la
   have hy:IntKind.i64.wrap ((v0:Int)+1)=(v1:Int):=by rw[wrap_i64 _ (by omega)];omega
   have dm:DW w wr.drew M f:=⟨by rw[hf];exact eO.keep HC.out rfl,HB.out.drew,by rw[HM.out];exact R2 _⟩
   have dn:Hid (en p=.agg #[.bool true,.int .i64 x]):=by rw[b4];rfl
   have HF:Hid _:=hf;have HP:Hid _:=b4;have bo:Hid _:=ad;have fi:Hid _:=dd;have fl:Hid _:=dm;clear T hf b4 ad dd dm;go_upto_region 7 with fail;refine wp_region_any (by kernel_rfl) ?_;refine j7 (I:=λs A0 W=>∃b5 b6 b7 b8 cc ak an:Value,A0=⟨#[.slice (some ⟨blk,A,none⟩) a.length S,.slice ab b.length Y,undef,undef,.int .i64 0,.map (some M),undef,.int .i64 x,undef,undef,undef,undef,undef,undef,undef,.slice (some ⟨blk,A,none⟩) a.length S,.int .i64 a.length,.bool false,.bool false,.slice ab b.length Y,.int .i64 b.length,.bool false,.bool false,.map (some M),.slice (some ⟨blk,A,none⟩) a.length S,.int .i64 a.length,.int .i64 j,.bool true,.pointer (some ⟨blk,A+j,none⟩),.int .i64 x,b5,b6,b7,b8,cc,ak,an,u37,u38,u39,u40,u41,u42,u43,u44,u45,u46,u47,u48,u49,undef,undef,undef,undef,undef,undef,undef,undef,undef,undef,undef,undef,undef,undef,undef,undef,undef,undef,undef,undef,undef,undef,undef,undef,undef,undef,undef,undef,undef,undef,undef,undef,undef,undef,undef,undef,undef,undef,undef,undef,undef,undef,undef,undef,undef,undef,undef,undef,undef,undef,undef,undef],[]⟩/\Agr s 0 [b5,b6,b7,b8,cc,ak,an,undef] [.map (some M),.int .i64 (x),.agg #[.bool true,.int .i64 x],.int .i64 (v0:Int),.int .i64 (v1:Int),ak,an,undef]/\(s.getD 6 false=true->s.getD 5 false=true)/\s.size=8/\((s.getD 7 false=false/\DW w W M f/\(s.getD 5 false=true->∃st:Nat,ak=.tuple #[.int .i64 (v0:Int),.int .i64 (st:Int)]/\ik W M p st/\(s.getD 6 false=true->an=.int .i64 (st:Int))))\/(s.getD 7 false=true/\(∀k,k<7->s.getD k false=true)/\DW w W M (λq=>if q=p then v1 else f q)))) ?step7 ?fin7 _ _ _ _ (by simp) ?start7;case start7=>exact⟨_,_,_,_,_,_,_,rfl,Agr.start rfl,(λh=>by simp at h),by simp,.inl ⟨by simp,fl.out,λh=>by simp at h⟩⟩
   case fin7=>
    rintro s a0 W ⟨b5,b6,b7,b8,cc,ak,an,rfl,E,v,l,hW⟩ hr;have D:=λk (hk:k<8)=>me l (by kernel_rfl) hr (k+1) k (Tl k) hk;obtain⟨k0,k1,k2,k3,k4,k5,k6,k7,_⟩:=E;obtain rfl:=k0 (D 0 (by decide));obtain rfl:=k1 (D 1 (by decide));obtain rfl:=k2 (D 2 (by decide));obtain rfl:=k3 (D 3 (by decide));obtain rfl:=k4 (D 4 (by decide));have C:=(hW.resolve_left λh=>by rw[D 7 (by decide)]at h;cases h.1).2.2;clear D hW v hr l k5 k6 k7;have q:=cC x W (ae.below C.b);have ax:Hid _:=C;have F:=MJ b x;have cM:Hid ((λq=>if q=p then v1 else f q)=bump (mC a b j) (true,a[j]'H)):=by rw[Hid,<-HX.out,<-HF.out,<-HP.out,fi.out];rfl
    cases bm:b.any (λt=>decide (t=x))with
    |true=>
     rw[bm]at q F;have HN:Hid (mC a b (j+1)=bump (mC a b j) (true,a[j]'H)):=Ot a b j H (by rw[<-HX.out];exact F.symm);clear F C bm;go_wp2_with (first|(go_at_call 244;refine q.mono ?_;clear q;rintro e w2 ⟨rfl,rfl⟩))
     exact⟨⟨j+1,by omega,by go_num,by rw[HN.out,<-cM.out];exact ax.out.c,ax.out.b⟩,by simp[intOf];omega⟩
    |false=>
     rw[bm]at q F;have HN:Hid (mC a b (j+1)=bump (bump (mC a b j) (true,a[j]'H)) (false,a[j]'H/100)):=MF a b j H (by rw[<-HX.out];exact F.symm);obtain⟨f2,cd⟩:∃f2:EK->Nat,f2=λq=>if q=p then v1 else f q:=⟨_,rfl⟩
     obtain⟨h,hh⟩:=ex (x/100);obtain⟨p2,y⟩:∃p2:EK,p2=(false,h):=⟨_,rfl⟩
     have fq:0<=h/\h<=9:=by omega
     have af:wfE p2:=by rw[y];exact rR (by omega)
     obtain⟨y0,cR⟩:∃y0:Nat,y0=f2 p2:=⟨_,rfl⟩
     obtain⟨y1,dp⟩:∃y1:Nat,y1=f2 p2+1:=⟨_,rfl⟩
     have hF:y0<=5:=by
      have br:p2≠p:=by rw[y,HP.out];intro e;cases e
      have:f2 p2=f p2:=by rw[cd];exact RY br
      rw[cR,this,HF.out];exact R3 (Ic _ _ _ _) la
     have gE:IntKind.i64.wrap ((y0:Int)+1)=(y1:Int):=by rw[wrap_i64 _ (by omega)];omega
     have dr:IntKind.i64.wrap (x.tdiv 100)=h:=by rw[VF ar.1,<-hh];exact wrap_i64 _ (by omega)
     have P:Hid (en p2=.agg #[.bool false,.int .i64 h]):=by rw[y];rfl
     have hG:Hid _:=cd;have HH:Hid _:=hh;have ay:Hid _:=y;have ds:Hid _:=cR;have fr:Hid _:=dp;rw[<-cd]at ax cM;clear F C bm cd hh y cR dp;go_upto_region 9 with(first|(go_at_call 244;refine q.mono ?_;clear q;rintro e w2 ⟨rfl,rfl⟩))
     refine wp_region_any (by kernel_rfl) ?_;have fx:Hid (DW w w2.drew M f2):=⟨eO.keep ax.out.c rfl,ax.out.b.drew,ax.out.m⟩
     refine j7 (I:=λs A0 W=>∃cf cg ck cl cm cp aM a1:Value,A0=⟨#[.slice (some ⟨blk,A,none⟩) a.length S,.slice ab b.length Y,undef,undef,.int .i64 0,.map (some M),undef,.int .i64 x,undef,undef,undef,undef,undef,undef,undef,.slice (some ⟨blk,A,none⟩) a.length S,.int .i64 a.length,.bool false,.bool false,.slice ab b.length Y,.int .i64 b.length,.bool false,.bool false,.map (some M),.slice (some ⟨blk,A,none⟩) a.length S,.int .i64 a.length,.int .i64 j,.bool true,.pointer (some ⟨blk,A+j,none⟩),.int .i64 x,.map (some M),.int .i64 x,.agg #[.bool true,.int .i64 x],.int .i64 (v0:Int),.int .i64 (v1:Int),ak,an,.slice ab b.length Y,.int .i64 x,.bool false,.bool true,cf,cg,ck,cl,cm,cp,aM,a1,u49,undef,undef,undef,undef,undef,undef,undef,undef,undef,undef,undef,undef,undef,undef,undef,undef,undef,undef,undef,undef,undef,undef,undef,undef,undef,undef,undef,undef,undef,undef,undef,undef,undef,undef,undef,undef,undef,undef,undef,undef,undef,undef,undef,undef,undef,undef,undef,undef,undef,undef,undef,undef],[]⟩/\Agr s 0 [cf,cg,ck,cl,cm,cp,aM,a1,undef] [.map (some M),.int .i64 (x),.int .i64 (h),.agg #[.bool false,.int .i64 h],.int .i64 (y0:Int),.int .i64 (y1:Int),aM,a1,undef]/\(s.getD 7 false=true->s.getD 6 false=true)/\s.size=9/\((s.getD 8 false=false/\DW w W M f2/\(s.getD 6 false=true->∃st:Nat,aM=.tuple #[.int .i64 (y0:Int),.int .i64 (st:Int)]/\ik W M p2 st/\(s.getD 7 false=true->a1=.int .i64 (st:Int))))\/(s.getD 8 false=true/\(∀k,k<8->s.getD k false=true)/\DW w W M (λq=>if q=p2 then y1 else f2 q)))) ?step9 ?fin9 _ _ _ _ (by simp) ?start9;case start9=>exact⟨_,_,_,_,_,_,_,_,rfl,Agr.start rfl,(λh=>by simp at h),by simp,.inl ⟨by simp,fx.out,λh=>by simp at h⟩⟩
     case fin9=>
      rintro s a0 W ⟨cf,cg,ck,cl,cm,cp,aM,a1,rfl,E,v,l,hW⟩ hr;have D:=λk (hk:k<9)=>me l (by kernel_rfl) hr (k+1) k (Tl k) hk;obtain⟨k0,k1,k2,k3,k4,k5,k6,k7,k8,_⟩:=E;obtain rfl:=k0 (D 0 (by decide));obtain rfl:=k1 (D 1 (by decide));obtain rfl:=k2 (D 2 (by decide));obtain rfl:=k3 (D 3 (by decide));obtain rfl:=k4 (D 4 (by decide));obtain rfl:=k5 (D 5 (by decide));have C:=(hW.resolve_left λh=>by rw[D 8 (by decide)]at h;cases h.1).2.2;clear D hW v hr l k6 k7 k8;have dt:Hid _:=C;have HG:Hid ((λq=>if q=p2 then y1 else f2 q)=mC a b (j+1)):=by rw[Hid,HN.out,<-cM.out,<-HX.out,<-HH.out,<-ay.out,fr.out];rfl
      clear C;go_wp2;exact⟨⟨j+1,by omega,by go_num,by rw[<-HG.out];exact dt.out.c,dt.out.b⟩,by simp[intOf];omega⟩
     case step9=>
      rintro s a0 W i ⟨cf,cg,ck,cl,cm,cp,aM,a1,rfl,E,v,l,hW⟩ hr;obtain⟨J,o,ho,d⟩:=mem_ready.1 hr;have hi:i<9:=(R7.1 ho).1;clear hr;obtain rfl|rfl|rfl|rfl|rfl|rfl|rfl|rfl|rfl:i=6\/i=7\/i=8\/i=0\/i=1\/i=2\/i=3\/i=4\/i=5:=by omega
      all_goals
       obtain rfl:=SD ho;clear ho hi;obtain⟨hu,C,hE⟩:=hW.resolve_right λh=>by first|exact absurd (h.2.1 _ (by decide)) (fE J)|exact absurd h.1 (fE J)
       (try (have e:=E.dep d 0 rfl rfl;(conv at e=>lhs;whnf);(conv at e=>rhs;whnf);subst e))
       (try (have e:=E.dep d 1 rfl rfl;(conv at e=>lhs;whnf);(conv at e=>rhs;whnf);subst e))
       (try (have e:=E.dep d 2 rfl rfl;(conv at e=>lhs;whnf);(conv at e=>rhs;whnf);subst e))
       refine wpOp_step rfl λK' ag=>?_;have HK:Hid (∀a w,_->K' a w):=ag;clear ag hW
      ·obtain⟨W',st,U,N,Q⟩:=C.entry fs af
       rw[P.out,<-ds.out]at U;go_simp;refine HK.out _ _ ⟨_,_,_,_,_,_,_,_,rfl,E.Fw _ _,(λ_=>eF (by rw[l];decide)),by rw[SF];exact l,(.inl ⟨(getD_set_ne false (by decide)).trans hu,N,λ_=>⟨st,rfl,Q,λh=>absurd (v (aK h (by decide))) (fE J)⟩⟩)⟩
      ·obtain⟨st,rfl,Q,_⟩:=hE (d ⟨6,.data⟩ (by simp) rfl)
       go_simp;refine HK.out _ _ ⟨_,_,_,_,_,_,_,_,rfl,E.Fw _ _,(λ_=>bf (d ⟨6,.data⟩ (by simp) rfl)),by rw[SF];exact l,(.inl ⟨(getD_set_ne false (by decide)).trans hu,C,λ_=>⟨st,rfl,Q,λ_=>rfl⟩⟩)⟩
      ·have d7:=d ⟨7,.data⟩ (by simp) rfl
       obtain⟨st,rfl,Q,e3⟩:=hE (v d7);obtain rfl:=e3 d7;obtain⟨W',U,N⟩:=C.store fs Q af y1;go_simp;refine HK.out _ _ ⟨_,_,_,_,_,_,_,_,rfl,E.set _,(λh=>bf (v (aK h (by decide)))),by rw[SF];exact l,(.inr ⟨eF (by rw[l];decide),λk hk=>bf (oP d (by kernel_rfl) k hk),N⟩)⟩
      all_goals
       have U:=C.look fs af;rw[P.out,<-ds.out]at U;go_simp;refine HK.out _ _ ⟨_,_,_,_,_,_,_,_,rfl,E.set _,(λh=>bf (v (aK h (by decide)))),by rw[SF];exact l,(.inl ⟨(getD_set_ne false (by decide)).trans hu,C,λh=>by obtain⟨st,e1,e2,e3⟩:=hE (aK h (by decide));exact⟨st,e1,e2,λh'=>e3 (aK h' (by decide))⟩⟩)⟩
   case step7=>
    rintro s a0 W i ⟨b5,b6,b7,b8,cc,ak,an,rfl,E,v,l,hW⟩ hr;obtain⟨J,o,ho,d⟩:=mem_ready.1 hr;have hi:i<8:=(R7.1 ho).1;clear hr;obtain rfl|rfl|rfl|rfl|rfl|rfl|rfl|rfl:i=5\/i=6\/i=7\/i=0\/i=1\/i=2\/i=3\/i=4:=by omega
    all_goals
     obtain rfl:=SD ho;clear ho hi;obtain⟨hu,C,hE⟩:=hW.resolve_right λh=>by first|exact absurd (h.2.1 _ (by decide)) (fE J)|exact absurd h.1 (fE J)
     (try (have e:=E.dep d 0 rfl rfl;(conv at e=>lhs;whnf);(conv at e=>rhs;whnf);subst e))
     (try (have e:=E.dep d 1 rfl rfl;(conv at e=>lhs;whnf);(conv at e=>rhs;whnf);subst e))
     (try (have e:=E.dep d 2 rfl rfl;(conv at e=>lhs;whnf);(conv at e=>rhs;whnf);subst e))
     refine wpOp_step rfl λK' ag=>?_;have HK:Hid (∀a w,_->K' a w):=ag;clear ag hW
    ·obtain⟨W',st,U,N,Q⟩:=C.entry fs hp
     rw[dn.out,<-bo.out]at U;go_simp;refine HK.out _ _ ⟨_,_,_,_,_,_,_,rfl,E.Fw _ _,(λ_=>eF (by rw[l];decide)),by rw[SF];exact l,(.inl ⟨(getD_set_ne false (by decide)).trans hu,N,λ_=>⟨st,rfl,Q,λh=>absurd (v (aK h (by decide))) (fE J)⟩⟩)⟩
    ·obtain⟨st,rfl,Q,_⟩:=hE (d ⟨5,.data⟩ (by simp) rfl)
     go_simp;refine HK.out _ _ ⟨_,_,_,_,_,_,_,rfl,E.Fw _ _,(λ_=>bf (d ⟨5,.data⟩ (by simp) rfl)),by rw[SF];exact l,(.inl ⟨(getD_set_ne false (by decide)).trans hu,C,λ_=>⟨st,rfl,Q,λ_=>rfl⟩⟩)⟩
    ·have d6:=d ⟨6,.data⟩ (by simp) rfl
     obtain⟨st,rfl,Q,e3⟩:=hE (v d6);obtain rfl:=e3 d6;obtain⟨W',U,N⟩:=C.store fs Q hp v1;go_simp;refine HK.out _ _ ⟨_,_,_,_,_,_,_,rfl,E.set _,(λh=>bf (v (aK h (by decide)))),by rw[SF];exact l,(.inr ⟨eF (by rw[l];decide),λk hk=>bf (oP d (by kernel_rfl) k hk),N⟩)⟩
    all_goals
     have U:=C.look fs hp;rw[dn.out,<-bo.out]at U;go_simp;refine HK.out _ _ ⟨_,_,_,_,_,_,_,rfl,E.set _,(λh=>bf (v (aK h (by decide)))),by rw[SF];exact l,(.inl ⟨(getD_set_ne false (by decide)).trans hu,C,λh=>by obtain⟨st,e1,e2,e3⟩:=hE (aK h (by decide));exact⟨st,e1,e2,λh'=>e3 (aK h' (by decide))⟩⟩)⟩
  ·obtain rfl:j=a.length:=by omega
   have fy:Hid (eO wr M (nz a b 0)):=by rw[J6];exact HC.out
   clear hC hB;go_wp2;go_loopw [52,8,9] (λs t u wr=>∃j:Nat,j<=b.length/\s=.int .i64 j/\t=.int .i64 (dZ a b j)/\u=.int .i64 (il a b j)/\eO wr M (nz a b j)/\Below w.heap.size w wr) (λs _ _ _=>b.length-(intOf s).toNat)
   case atStart=>exact⟨0,R9 _,rfl,rfl,by rw[GQ];rfl,fy.out,HB.out⟩
   case round=>
    obtain⟨j,hj,rfl,rfl,rfl,hC,hB⟩:=hrel;have HC:Hid _:=hC;have HB:Hid _:=hB;obtain H|hge:=R5 j b.length
    ·obtain⟨blk,A,rfl,hx⟩:=gB j H
     rw[Tn]at hx;have cL:wr.cell? ⟨blk,A+j,none⟩=some (.int .i64 b[j]):=(ae.below hB).cell hx;have fc:(j:Int)<(b.length:Int):=by omega
     obtain⟨x,T⟩:=ex (b[j]);rw[<-T]at cL;have HX:Hid _:=T;have ar:=cb x (by rw[T];exact Sg _);obtain⟨f,hf⟩:=ex (nz a b j);obtain⟨v0,ad⟩:∃v0:Nat,v0=f (true,x):=⟨_,rfl⟩
     have ff:v0<=5:=by rw[ad,hf];exact R3 (Ie _ _ _ _) la
     obtain⟨wx,a6⟩:=ex (wr.alloc (.cells #[.bool true,.int .i64 x] 293));obtain⟨BX,cq⟩:=ex (wr.heap.size);have cF:M<wr.heap.size:=hC.lt;have cS:eO wx M f:=by rw[a6,hf];exact eO.keep hC ((MapKept.heap_alloc wr _).2 M cF)
     have dw:Below w.heap.size w wx:=by rw[a6];exact hB.alloc hB.size _
     have c0:wx.cell? ⟨BX,0,none⟩=some (.bool true):=by rw[a6,cq];exact aw wr _ 293 0 _ rfl
     have c1:wx.cell? ⟨BX,1,none⟩=some (.int .i64 x):=by rw[a6,cq];exact aw wr _ 293 1 _ rfl
     have bs:=rP fs cS (true,x) (rR ar);rw[<-ad]at bs;replace bs:(Instr.lookup 291 (.map (some M)) (.agg #[.bool true,.int .i64 x]) false).run (Qs fs) wx=.ok (.int .i64 v0) wx:=bs;have HF:Hid _:=hf;have bo:Hid _:=ad;have a7:Hid (eO wx M f/\Below w.heap.size w wx):=⟨cS,dw⟩
     clear hx hC hB T hf ad cF cS dw;go_upto_region 16 with fail;rw[<-a6,<-cq];clear a6 cq;by_cases cG:0<v0
     ·have hH:(0:Int)<(v0:Int):=by omega
      have HI:=Ou a b j H (by rw[<-HX.out,<-HF.out,<-bo.out];exact cG);have O:Hid _:=HI;have hsb:=xy a b j;have dy:IntKind.i64.wrap ((dZ a b j:Int)+1)=((dZ a b (j+1):Nat):Int):=by rw[HI.2.1,wrap_i64 _ (by omega)];omega
      have hI:Hid _:=dy;clear HI dy;go_wp2;exact⟨⟨j+1,by omega,by go_num,by rw[O.out.2.1,Int.natCast_add];rfl,by rw[O.out.2.2],by rw[O.out.1,<-HF.out];exact a7.out.1,a7.out.2⟩,by simp[intOf];omega⟩
     ·obtain rfl:v0=0:=by omega
      replace bs:(Instr.lookup 291 (.map (some M)) (.agg #[.bool true,.int .i64 x]) false).run (Qs fs) wx=.ok (.int .i64 0) wx:=bs;have HI:=MG a b j H (by rw[<-HX.out,<-HF.out,<-bo.out]) (by rw[<-HX.out];exact ar);obtain⟨h,hh⟩:=ex (x/100);obtain⟨p2,y⟩:∃p2:EK,p2=(false,h):=⟨_,rfl⟩
      rw[<-HX.out,<-hh,<-HF.out,<-y]at HI;have fq:0<=h/\h<=9:=by omega
      have af:wfE p2:=by rw[y];exact rR (by omega)
      have dr:IntKind.i64.wrap (x.tdiv 100)=h:=by rw[VF ar.1,<-hh];exact wrap_i64 _ (by omega)
      have O:Hid _:=HI;have ay:Hid _:=y;obtain⟨w2,left,cn,ea,hR,hL,eb,ec⟩:=J7 fs a7.out.1;obtain⟨R,cU⟩:=ex (wx.heap.size);rw[<-cU]at ea hR;have HR:Hid (Rng w2 M R f left cn/\(∀p,f p≠0->left p=true)/\Below w.heap.size w w2):=⟨hR,hL,a7.out.2.trans (eb.mono a7.out.2.size)⟩
      have fz:Hid (w.heap.size<=R):=by rw[Hid,cU];exact a7.out.2.size
      clear HI hh y cG cU hR hL eb ec;go_wp2;go_loopw [9] (λo wr=>∃(g:EK->Nat) (left:EK->Bool) (cn:Nat) (u:Int),.int .i64 u=o/\Rng wr M R g left cn/\Below w.heap.size w wr/\((u=il a b j/\g=f/\(f p2≠0->left p2=true))\/(u=(il a b j:Int)+1/\g=zP f p2/\0<f p2/\left p2=false))) (λ_ wr=>wr.rangeLeft M R)
      case atStart=>exact⟨f,left,cn,_,rfl,HR.out.1,HR.out.2.2,.inl ⟨rfl,rfl,HR.out.2.1 p2⟩⟩
      case round=>
       obtain⟨g,left,cn,u,rfl,hR,hB,V⟩:=hrel;have cV:Hid (wr.rangeLeft M R=cn):=hR.left_eq;obtain⟨bx,bA⟩|⟨e,w',cn',gb,ed,bA,cr,ee,q1,q2,q3,q4,q5,q6,cv⟩:=hR.next fs 0
       ·have HU:Hid (nz a b (j+1)=g/\dZ a b (j+1)=dZ a b j/\u=(il a b (j+1):Int)):=by
         obtain⟨rfl,rfl,h3⟩|⟨rfl,rfl,h3,h4⟩:=V
         ·have h0:g p2=0:=UQ λbr=>by have:=h3 br;rw[bx p2]at this;cases this
          refine⟨?_,O.out.1,?_⟩
          ·rw[O.out.2.1]
           funext q
           unfold zP;split
           ·rename_i U
            rw[U,h0]
           ·rfl
          ·rw[O.out.2.2,RY (by omega),Tr]
         ·refine⟨O.out.2.1,O.out.1,?_⟩
          rw[O.out.2.2,RZ h3,Int.natCast_add];rfl
        have ef:Hid (eO wr M g/\Below w.heap.size w wr):=⟨hR.Ex,hB⟩
        clear V hR hB bx;go_wp2;exact⟨⟨j+1,by omega,by go_num,by rw[HU.out.2.1],by rw[HU.out.2.2],by rw[HU.out.1];exact ef.out.1,ef.out.2⟩,by simp[intOf];omega⟩
       ·obtain⟨t,n⟩:=e
        replace bA:(Instr.next (.pointer (some ⟨R,0,none⟩)) false 0).run (Qs fs) wr=.ok (.tuple #[.bool true,.agg #[.bool t,.int .i64 n],.int .i64 (g (t,n))]) w':=bA;replace cv:(Instr.entry (.pointer (some ⟨R,0,none⟩))).run (Qs fs) w'=.ok (.tuple #[.agg #[.bool t,.int .i64 n],.int .i64 (g (t,n))]) w':=cv;obtain⟨gv,cX⟩:∃gv:Nat,gv=g (t,n):=⟨_,rfl⟩
        rw[<-cX]at bA cv;obtain⟨w4,X⟩:=ex ((w'.alloc (.cells #[.bool t,.int .i64 n] 293)).alloc (.cells #[.bool false,.int .i64 h] 293));obtain⟨BE,bB⟩:=ex (w'.heap.size);obtain⟨BY,cw⟩:=ex (w'.heap.size+1);have eg:M<w'.heap.size:=cr.Ex.lt;have ei:R<w'.heap.size:=cr.lt;have cY:∀k,k<w'.heap.size->w4.heap[k]? =w'.heap[k]? :=λk hk=>by rw[X];exact((MapKept.heap_alloc _ _).2 k (by simp;omega)).trans ((MapKept.heap_alloc w' _).2 k hk)
        have c5:Rng w4 M R g (λq=>left q&& !decide (q=(t,n))) cn':=cr.keep (cY M eg) (cY R ei);have ek:w.heap.size<=R:=fz.out;have bC:Below w.heap.size w w':=hB.trans ⟨q1,q2,q3,by rw[q4];exact R2 _,λk hk=>q5 k (by omega)⟩;have ev:Below w.heap.size w w4:=by rw[X];exact(bC.alloc bC.size _).alloc (bC.alloc bC.size _).size _
        have e0:w4.cell? ⟨BE,0,none⟩=some (.bool t):=by rw[X,bB];exact(ae.alloc _ _).cell (aw w' _ 293 0 _ rfl)
        have e1:w4.cell? ⟨BE,1,none⟩=some (.int .i64 n):=by rw[X,bB];exact(ae.alloc _ _).cell (aw w' _ 293 1 _ rfl)
        have y0:w4.cell? ⟨BY,0,none⟩=some (.bool false):=by rw[X,cw];have hh:=aw (w'.alloc (.cells #[.bool t,.int .i64 n] 293)) #[.bool false,.int .i64 h] 293 0 _ rfl;rw[World.size_alloc]at hh;exact hh
        have y1:w4.cell? ⟨BY,1,none⟩=some (.int .i64 h):=by rw[X,cw];have hh:=aw (w'.alloc (.cells #[.bool t,.int .i64 n] 293)) #[.bool false,.int .i64 h] 293 1 _ rfl;rw[World.size_alloc]at hh;exact hh
        have ez:w4.heap[BE]? =some (.cells #[.bool t,.int .i64 n] 293 (0,0)):=by rw[X,bB];exact((MapKept.heap_alloc _ _).2 _ (by simp)).trans (MapKept.heap_alloc w' _).1
        have a8:Hid (Rng w4 M R g (λq=>left q&& !decide (q=(t,n))) cn'/\Below w.heap.size w w4/\w4.heap[BE]? =some (.cells #[.bool t,.int .i64 n] 293 (0,0))):=⟨c5,ev,ez⟩
        have gd:Hid _:=cX;have c6:Hid (cn'<cn):=ee;have eS:Hid (w4.rangeLeft M R=cn'):=c5.left_eq;have e4:Hid _:=V;have gf:Hid _:=ed;clear cX eg ei cY c5 ek bC ev ez q1 q2 q3 q4 q5 q6 cr hR hB ee V ed gb;go_upto_region 22 with fail;rw[<-X,<-cw,<-bB];clear X bB cw bA cv;have hJ:=iF fs MH .eql (.tmp 73) (.tmp 74);have U:=J8 fs t false n h;by_cases he:(t,n)=p2
        ·have P:Hid (en p2=.agg #[.bool false,.int .i64 h]):=by rw[ay.out];rfl
         have c7:=he;rw[ay.out]at c7;obtain⟨rfl,rfl⟩:=Up c7;have cH:left p2=true:=by rw[<-he];exact gf.out
         obtain⟨hu,e5,_⟩:=e4.out.resolve_right λh4=>by have h5:=h4.2.2.2;rw[cH]at h5;cases h5
         have HU:Hid (u=il a b j/\g=f):=⟨hu,e5⟩
         have b0:=rP fs a8.out.1.Ex p2 af;have G:Hid (gv=g p2):=by rw[<-he];exact gd.out
         rw[<-G.out,P.out]at b0;have b1:Hid (w4.rangeLeft M R<wr.rangeLeft M R):=by rw[Hid,eS.out,cV.out];exact c6.out
         have hK:Hid _:=he;simp only[decide_true]at U;clear he c7 cH hu e5;by_cases c8:0<gv
         ·have hN:(0:Int)<(gv:Int):=by omega
          obtain⟨gw,e6⟩:∃gw:Nat,gw=gv-1:=⟨_,rfl⟩
          have gg:gv<=5:=by rw[G.out,HU.out.2,HF.out];exact R3 (Ie _ _ _ _) la
          have gN:IntKind.i64.wrap ((gv:Int)-1)=(gw:Int):=by rw[wrap_i64 _ (by omega)];omega
          have gh:g p2≠0:=by rw[<-G.out];omega
          have hO:u<=50:=by rw[HU.out.1];have:=Ew a b j;omega
          have gT:0<=u:=by rw[HU.out.1];omega
          have hP:IntKind.i64.wrap (u+1)=u+1:=wrap_i64 _ (by omega);obtain⟨l4,c9⟩:∃l4:EK->Bool,l4=λq=>left q&& !decide (q=(false,n)):=⟨_,rfl⟩
          have gj:Hid _:=e6;have e7:Hid _:=c9;have gk:Hid (0<gv):=c8;have gm:Hid (DR w w4.drew M R BE n g l4 cn'):=by obtain⟨d1,d2,d3⟩:=a8.out;rw[<-c9]at d1;exact⟨d1.keep rfl rfl,d2.drew,by rw[HM.out];exact R2 _,d3⟩
          clear c8 e6 c9 gg;go_upto_region 23 with fail;generalize decide (0<gv)=bb;refine wp_region_any (by kernel_rfl) ?_;refine j7 (I:=λs A0 W=>∃cx cy cz cA ba bk:Value,A0=⟨#[.slice aa a.length S,.slice (some ⟨blk,A,none⟩) b.length Y,undef,undef,.int .i64 0,.map (some M),undef,u7,.int .i64 (dZ a b j),.int .i64 u,undef,.int .i64 x,.pointer (some ⟨BX,0,none⟩),.pointer (some ⟨BE,0,none⟩),.pointer (some ⟨BY,0,none⟩),.slice aa a.length S,.int .i64 a.length,.bool false,.bool false,.slice (some ⟨blk,A,none⟩) b.length Y,.int .i64 b.length,.bool false,.bool false,.map (some M),.slice aa a.length S,.int .i64 a.length,.int .i64 a.length,.bool false,u28,u29,u30,u31,u32,u33,u34,u35,u36,u37,u38,u39,u40,u41,u42,u43,u44,u45,u46,u47,u48,u49,.slice (some ⟨blk,A,none⟩) b.length Y,.int .i64 b.length,.int .i64 j,.bool true,.pointer (some ⟨blk,A+j,none⟩),.int .i64 x,.int .i64 x,.agg #[.bool true,.int .i64 x],.map (some M),.agg #[.bool true,.int .i64 x],.int .i64 0,.bool false,u62,u63,.map (some M),.pointer (some ⟨R,0,none⟩),.tuple #[.bool true,.agg #[.bool false,.int .i64 n],.int .i64 gv],.bool true,.tuple #[.agg #[.bool false,.int .i64 n],.int .i64 gv],.agg #[.bool false,.int .i64 n],.int .i64 x,.int .i64 n,.agg #[.bool false,.int .i64 n],.agg #[.bool false,.int .i64 n],.agg #[.bool false,.int .i64 n],.bool true,.bool true,.map (some M),.agg #[.bool false,.int .i64 n],.int .i64 gv,.bool bb,.bool bb,cx,cy,cz,cA,ba,bk,u88,u89,u90,undef,undef,undef,undef,undef,undef,undef,undef,undef,undef,undef],[]⟩/\Agr s 0 [cx,cy,cz,cA,ba,bk,undef] [.map (some M),.agg #[.bool false,.int .i64 n],.int .i64 (gv:Int),.int .i64 (gw:Int),ba,bk,undef]/\(s.getD 5 false=true->s.getD 4 false=true)/\s.size=7/\((s.getD 6 false=false/\DR w W M R BE n g l4 cn'/\(s.getD 4 false=true->∃st:Nat,ba=.tuple #[.int .i64 (gv:Int),.int .i64 (st:Int)]/\ik W M p2 st/\(s.getD 5 false=true->bk=.int .i64 (st:Int))))\/(s.getD 6 false=true/\(∀k,k<6->s.getD k false=true)/\DR w W M R BE n (λq=>if q=p2 then gw else g q) l4 cn'))) ?step23 ?fin23 _ _ _ _ (by simp) ?start23;case start23=>exact⟨_,_,_,_,_,_,rfl,Agr.start rfl,(λh=>by simp at h),by simp,.inl ⟨by simp,gm.out,λh=>by simp at h⟩⟩
          case fin23=>
           rintro s a0 W ⟨cx,cy,cz,cA,ba,bk,rfl,E,v,l,hW⟩ hr;have D:=λk (hk:k<7)=>me l (by kernel_rfl) hr (k+1) k (Tl k) hk;obtain⟨k0,k1,k2,k3,k4,k5,k6,_⟩:=E;obtain rfl:=k0 (D 0 (by decide));obtain rfl:=k1 (D 1 (by decide));obtain rfl:=k2 (D 2 (by decide));obtain rfl:=k3 (D 3 (by decide));have C:=(hW.resolve_left λh=>by rw[D 6 (by decide)]at h;cases h.1).2.2;clear D hW v hr l k4 k5 k6;have dc:Hid _:=C;have gr:Hid ((λq=>if q=p2 then gw else g q)=zP f p2):=by rw[Hid,gj.out,G.out,HU.out.2];rfl
           have e8:Hid (0<f p2):=by rw[Hid,<-HU.out.2,<-G.out];exact gk.out
           have gx:Hid (l4 p2=false):=by rw[e7.out,Hid,ay.out];simp
           clear C;go_wp2;exact⟨⟨_,l4,cn',u+1,rfl,dc.out.r,dc.out.b,.inr ⟨by rw[HU.out.1],gr.out,e8.out,gx.out⟩⟩,by rw[dc.out.r.left_eq,cV.out];exact c6.out⟩
          case step23=>
           rintro s a0 W i ⟨cx,cy,cz,cA,ba,bk,rfl,E,v,l,hW⟩ hr;obtain⟨J,o,ho,d⟩:=mem_ready.1 hr;have hi:i<7:=(R7.1 ho).1;clear hr;obtain rfl|rfl|rfl|rfl|rfl|rfl|rfl:i=4\/i=5\/i=6\/i=0\/i=1\/i=2\/i=3:=by omega
           all_goals
            obtain rfl:=SD ho;clear ho hi;obtain⟨hu,C,hE⟩:=hW.resolve_right λh=>by first|exact absurd (h.2.1 _ (by decide)) (fE J)|exact absurd h.1 (fE J)
            (try (have e:=E.dep d 0 rfl rfl;(conv at e=>lhs;whnf);(conv at e=>rhs;whnf);subst e))
            (try (have e:=E.dep d 1 rfl rfl;(conv at e=>lhs;whnf);(conv at e=>rhs;whnf);subst e))
            (try (have e:=E.dep d 2 rfl rfl;(conv at e=>lhs;whnf);(conv at e=>rhs;whnf);subst e))
            refine wpOp_step rfl λK' ag=>?_;have HK:Hid (∀a w,_->K' a w):=ag;clear ag hW
           ·obtain⟨W',st,U,N,Q⟩:=C.entry fs af gh
            rw[P.out,<-G.out]at U;go_simp;refine HK.out _ _ ⟨_,_,_,_,_,_,rfl,E.Fw _ _,(λ_=>eF (by rw[l];decide)),by rw[SF];exact l,(.inl ⟨(getD_set_ne false (by decide)).trans hu,N,λ_=>⟨st,rfl,Q,λh=>absurd (v (aK h (by decide))) (fE J)⟩⟩)⟩
           ·obtain⟨st,rfl,Q,_⟩:=hE (d ⟨4,.data⟩ (by simp) rfl)
            go_simp;refine HK.out _ _ ⟨_,_,_,_,_,_,rfl,E.Fw _ _,(λ_=>bf (d ⟨4,.data⟩ (by simp) rfl)),by rw[SF];exact l,(.inl ⟨(getD_set_ne false (by decide)).trans hu,C,λ_=>⟨st,rfl,Q,λ_=>rfl⟩⟩)⟩
           ·have d5:=d ⟨5,.data⟩ (by simp) rfl
            obtain⟨st,rfl,Q,e3⟩:=hE (v d5);obtain rfl:=e3 d5;obtain⟨W',U,N⟩:=C.store fs Q af gw;go_simp;refine HK.out _ _ ⟨_,_,_,_,_,_,rfl,E.set _,(λh=>bf (v (aK h (by decide)))),by rw[SF];exact l,(.inr ⟨eF (by rw[l];decide),λk hk=>bf (oP d (by kernel_rfl) k hk),N⟩)⟩
           all_goals
            have U:=C.look fs af;rw[P.out,<-G.out]at U;have z0:=C.e0;have z1:=C.e1;go_simp;refine HK.out _ _ ⟨_,_,_,_,_,_,rfl,E.set _,(λh=>bf (v (aK h (by decide)))),by rw[SF];exact l,(.inl ⟨(getD_set_ne false (by decide)).trans hu,C,λh=>by obtain⟨st,e1,e2,e3⟩:=hE (aK h (by decide));exact⟨st,e1,e2,λh'=>e3 (aK h' (by decide))⟩⟩)⟩
         ·obtain rfl:gv=0:=by omega
          replace b0:(Instr.lookup 291 (.map (some M)) (.agg #[.bool false,.int .i64 n]) false).run (Qs fs) w4=.ok (.int .i64 0) w4:=b0;clear c8;go_wp2;have h0:f p2=0:=by rw[<-HU.out.2];exact G.out.symm
          exact⟨⟨g,_,cn',u,rfl,a8.out.1,a8.out.2.1,.inl ⟨HU.out.1,HU.out.2,λbr=>absurd h0 br⟩⟩,b1.out⟩
        ·have gC:Hid ((left p2&& !decide (p2=(t,n)))=left p2):=by rw[Hid,R8 (Sn he)];simp
         have b1:Hid (w4.rangeLeft M R<wr.rangeLeft M R):=by rw[Hid,eS.out,cV.out];exact c6.out
         have fa:Hid ((u=il a b j/\g=f/\(f p2≠0->(left p2&& !decide (p2=(t,n)))=true))\/(u=(il a b j:Int)+1/\g=zP f p2/\0<f p2/\(left p2&& !decide (p2=(t,n)))=false)):=by rw[Hid,gC.out];exact e4.out
         simp only[<-ay.out,R8 he]at U;clear he;go_wp2;exact⟨⟨g,_,cn',u,rfl,a8.out.1,a8.out.2.1,fa.out⟩,b1.out⟩
    ·obtain rfl:j=b.length:=by omega
     obtain⟨sn,cB⟩:=ex (dZ a b b.length);obtain⟨mn,cD⟩:=ex (il a b b.length);have hQ:sn<=5:=by rw[cB];exact R3 (xy _ _ _) lb
     have gW:mn<=50:=by rw[cD];have:=Ew a b b.length;omega
     rw[<-cB,<-cD]at HE;rw[<-cB,<-cD];have hS:(0:Int)<(a.length:Int):=by
      have:a.length≠0:=by simpa using cI
      omega
     have g1:IntKind.i64.wrap (2*(sn:Int))=2*(sn:Int):=wrap_i64 _ (by omega);have g2:IntKind.i64.wrap (2*(sn:Int)+(mn:Int))=2*(sn:Int)+(mn:Int):=wrap_i64 _ (by omega);have g3:IntKind.i64.wrap (100*(2*(sn:Int)+(mn:Int)))=100*(2*(sn:Int)+(mn:Int)):=wrap_i64 _ (by omega);have g4:IntKind.i64.wrap ((a.length:Int)+(b.length:Int))=(a.length:Int)+(b.length:Int):=wrap_i64 _ (by omega);have g5:((a.length:Int)+(b.length:Int)==0)=false:=by rw[Sw];omega
     have g6:(a.length:Int)+(b.length:Int)≠0:=by omega
     have g7:IntKind.i64.wrap ((100*(2*(sn:Int)+(mn:Int))).tdiv ((a.length:Int)+(b.length:Int)))=bQ a b:=by
      rw[VF (by omega),<-HE];have h1:0<=bQ a b:=by rw[HE];exact Int.ediv_nonneg (by omega) (by omega)
      have h2:bQ a b<=6000:=by rw[HE];exact Int.le_trans (Int.ediv_le_self _ (by omega)) (by omega)
      exact wrap_i64 _ (by omega)
     obtain⟨z,hz⟩:=ex (bQ a b);rw[<-hz]at g7;have HZ:Hid _:=hz;clear cB cD hC hB HE hz;go_wp2;go_ret;exact⟨by rw[<-HZ.out];rfl,HB.out⟩
end Go.Proofs

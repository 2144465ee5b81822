import Derived.Conc.WgGenN3
import Derived.Conc.Beside
import Derived.Conc.CrowdTrace
import Derived.Conc.WgGenN2
import Derived.Conc.Comm2
import Derived.Conc.Own4
import Derived.Conc.Own5
import Derived.Laws.Rows
import Derived.Conc.AppendEvents
import Derived.Test.YtaglpcmhopjebaaGreatDoorW3
set_option linter.all false
set_option maxRecDepth 100000
set_option maxHeartbeats 20000000
namespace Go.Tm
def xt{Pr G}{π:Ren G}{es}(h:∀e∈es,mE Pr π e):jT es:=by intro e a b;have:=h e a;unfold mE at this;rw[b]at this;exact this
def Ew{G}{π:Ren G}{d D}(h:bw (rG π) d D):∀x∈D,∃r,x=⟨.collected r,#[]⟩:=by induction h with|nil=>simp|cons h _ b=>intro x hx;cases h with|mk a=>obtain rfl|hx:=WO.1 hx;exact⟨_,rfl⟩;exact b x hx
section
variable {S:Kn} {P:Program} {fs:Array Func} {Pr:Nat->Prop}
def Cp.calm{Post π c F CS W}(h:Cp S P fs Pr Post π c F CS W):F.kind=.normal/\(∀x∈F.defers,∃r,x=⟨.collected r,#[]⟩)/\(F.mode=.run\/F.mode=.returning):=⟨h.top.Kind,Ew h.top.defers,by rw[h.top.mode];exact h.top.calm⟩
def Cp.run(x:Tab S P fs)(y:me P)(i:∀f,S.stop f=false){Post π c F CS W}(h:Cp S P fs Pr Post π c F CS W)(u:∀n,W.drawn<=n->S.calm (W.tape n)):∃(j:Ren P.globals.size) (c':Gh) (v:Frame) (k:xv) (n:Nat),Cp S P fs Pr Post j c' v [] k/\c'.AtE/\Chg Pr π W k j/\W.drawn<=k.drawn/\∀B τ,Agr W k.drawn τ->runN P n (lone F (CS++B) (aw W τ W.drawn))=.next (lone v B (aw k τ k.drawn)):=by have l:=h.sY.acc;induction l generalizing π F CS W with|intro c _ z=>by_cases p:c.AtE;have m:=h.cs;rw[p.1]at m;cases m;exact⟨π,c,F,W,0,h,p,Chg.refl _ _ _,Wv _,λB τ _=>rfl⟩;obtain⟨c',N,A,k,ev,j,C,D,q,e,r⟩:=h.step x i p (u _ (Wv _)) true;(have d:=h.calm;have g:∀B,_:=λB=>xq y true d.1 d.2.1 d.2.2 (q B) rfl rfl (xt r);have s:=(g []).1;obtain⟨t,E,G,H,n,I,J,K,w,L⟩:=z c' C D λn M=>by rw[e.tape];exact u n (Ww s M));refine⟨t,E,G,H,n+1,I,J,e.trans K,Ww s w,λB τ o=>?_⟩;unfold runN;rw[step_lone_go (by rw[(g B).2.2 τ λn a b=>o n a (Wy b w)];rfl)];exact L B τ λn a b=>by rw[e.tape];exact o n (Ww s a) b
end
def GK{P fr x xs w'}:∀n w1,runN P n (lone aJ [] w1)≠ .next (lone fr (x::xs) w'):=by intro n w1;cases n with|zero=>intro e;have:=(kp (Stepped.next.inj e)).2.1;simp at this|succ n=>(intro e;unfold runN at e;have:∃o w2,step P (lone aJ [] w1)=.ended o w2:=by refine⟨_,_,step_lone_ended (o:=?_) (w':=w1) ?_⟩;rotate_left;simp[stepG,stepG.exec,aJ,GStep.bare];rfl);obtain⟨o,w2,a⟩:=this;rw[a]at e;cases e
def gone{P a fr x xs w0 w' v}(b:a.leaving P w0 (.returned v)){n}(h:runN P (n+1) (lone a [aJ] w0)=.next (lone fr (x::xs) w')):False:=by unfold runN at h;rw[step_leave_returned b]at h;exact GK n w0 h
def iI(P){a n m m1 m2}(c:runN P a m=.next m1)(b:runN P n m=.next m2)(d:a<=n):runN P (n-a) m1=.next m2:=by (have:n=a+(n-a):=by omega);rw[this,runN_add,c]at b;exact b
section
variable {S:Kn} {P:Program} {fs:Array Func}
end
def Kept(w0 w:xv):Prop:=w.heap.size=w0.heap.size/\∀b:Nat,w.heap[b]? =w0.heap[b]? \/w.heap[b]? =some (.deferred none)
def Kept.refl(w):Kept w w:=⟨rfl,λ_=>.inl rfl⟩
inductive zY(G:Nat)(w0:xv)(ch0:List PanicEntry):Machine->Prop
 |up {fr:Frame} {cs:List Frame} {w:xv} (π:Ren G):fr.mode=.panicking ch0->(∀f∈fr::cs,Marks π f)->Dp π w->(∀f∈cs,f.mode=.run\/f.mode=.returning)->Kept w0 w->zY G w0 ch0 (lone fr (cs++[aJ]) w)
 |low (ch) (w:xv):zY G w0 ch0 (lone {aJ with mode:=.panicking ch} [] w)
def PX{G w0 ch0 m}(h:zY G w0 ch0 m){fr w}(e:m=lone fr [aJ] w):fr.mode=.panicking ch0/\Kept w0 w:=by cases h with| @up fr' cs w' π c _ _ _ b=>have a:=kp e;have d:=a.2.1;simp at d;obtain⟨rfl,_,rfl⟩:=a;exact⟨c,b⟩|low ch w'=>simp only[lone,Machine.mk.injEq]at e;have a:=e.2.1;simp at a
def Kd{G w0 ch0 P m}(h:zY G w0 ch0 m):(∃o w,step P m=.ended o w)\/∃m',step P m=.next m'/\zY G w0 ch0 m':=by
 cases h with
 |low ch w=>refine .inl ⟨_,_,step_lone_ended (o:=?_) (w':=w) ?_⟩;rotate_left;simp[stepG,unwind,callDeferred,aJ,GStep.bare];rfl
 | @up fr cs w π p q s a i=>
  have j:=q fr (.head _);cases d:fr.defers with
  |nil=>
   by_cases g:fr.catches P=true
   .refine .inl ⟨_,_,step_lone_ended (o:=?_) (w':=w) ?_⟩;(rotate_left);simp[stepG,unwind,d,p,g,GStep.bare];rfl
   cases cs with|nil=>refine .inr ⟨_,step_lone_go (fr':={aJ with mode:=.panicking ch0}) (cs':=[]) (w':=w) ?_,.low _ w⟩;simp[stepG,unwind,d,p,g,GStep.bare,Frame.raise,aJ]|cons c cs=>have u:=q c (.tail _ (.head _));refine .inr ⟨_,step_lone_go (fr':=c.raise ch0) (cs':=cs++[aJ]) (w':=w) ?_,?_⟩;simp[stepG,unwind,d,p,g,GStep.bare];(have e:c.raise ch0={c with mode:=.panicking ch0}:=by unfold Frame.raise;rcases a c (.head _)with x|x<;>rw[x]);rw[e];refine .up π rfl (λf j=>?_) s (λf j=>a f (.tail _ j)) i;cases j with|head=>exact u|tail _ j=>exact q f (.tail _ (.tail _ j))
  |cons D ds=>obtain⟨r,R,rfl,v⟩:=j D (by rw[d];exact .head _);have l:=GD P r w λo k=>s r R o v k;obtain e|⟨x,w',e⟩:=l;refine .inr ⟨_,step_lone_go (fr':={fr with defers:=ds}) (cs':=cs++[aJ]) (w':={w with heap:=w.heap.setIfInBounds r (.deferred none)}) ?_,?_⟩;simp only[stepG,p,unwind,d,e];rfl;refine .up π p (λf n=>?_) ?_ a ⟨by simpa using i.1,λb=>?_⟩;(cases n with|head=>exactλD y=>j D (by rw[d];exact .tail _ y)|tail _ n=>exact q f (.tail _ n));intro z R' o t k;simp only[Xt]at k;split at k;split at k;cases k;exact .inl rfl;cases k;exact s z R' o t k;simp only[Xt];split;split;exact .inr rfl;rename_i A B;subst A;refine .inl ?_;rw[eq_comm,Array.getElem?_eq_none_iff,<-i.1];omega;exact i.2 b;refine .inl ⟨_,_,step_lone_ended (o:=?_) (w':=w') ?_⟩;(rotate_left);simp only[stepG,p,unwind,d,e];rfl
def Hu{G w0 ch0 P}:∀(n) {m},zY G w0 ch0 m->∀{fr} {w},runN P n m=.next (lone fr [aJ] w)->fr.mode=.panicking ch0/\Kept w0 w:=by intro n;induction n with|zero=>intro m h fr w e;exact PX h (by simpa[runN]using e)|succ n c=>(intro m h fr w e;unfold runN at e;rcases Kd (P:=P) h with⟨o,w',a⟩|⟨d,a,b⟩);rw[a]at e;cases e;rw[a]at e;exact c b e
end Go.Tm
namespace Go.Tm
open Go.Conc Go.ConcN Go.RowKit Go.Conc.Lib Go.ConcR.Gen Go.ConcN.Gen
open Go.ConcR (KK wgBlock WgAt stA smA rd wr mk Payload Aside2 DC0)
def RL(ty:TypeId)(Wg:Nat)(w a:xv):Prop:=WgLive ty Wg w->WgLive ty Wg a
def xl{ty Wg w w₁}(h:WgLive ty Wg w)(r:RL ty Wg w w₁):WgLive ty Wg w₁:=r h
section
variable (P:Program) (mn:Bool) (ty:TypeId) (Wg:Nat) (Fin:V4->xv->Prop)
def XKe(g:V4)(w:xv):Prop:=g.status=.running/\∃g',stepG P mn g w=.go g' w #[mk .enable]/\∃m,(Goes P mn (RL ty Wg) DC0) Fin m g' w
def XSr(g:V4)(w:xv):Prop:=g.status=.running/\∃g',stepG P mn g w=.go g' w #[mk (.read (smA Wg))]/\∃m,(Goes P mn (RL ty Wg) DC0) (XKe P mn ty Wg Fin) m g' w
def XA1(g:V4)(w:xv):Prop:=g.status=.running/\∀v:Nat,v<2147483647->WgAt ty Wg w (v*KK) 0->∃g',stepG P mn g w=.go g' (w.setCell (stA Wg) (.int .u64 ((v+1)*KK))) #[rd (stA Wg),wr (stA Wg)]/\((∃m,(Goes P mn (RL ty Wg) DC0) (XSr P mn ty Wg Fin) m g' (w.setCell (stA Wg) (.int .u64 ((v+1)*KK))))\/∃m,(Goes P mn (RL ty Wg) DC0) (XKe P mn ty Wg Fin) m g' (w.setCell (stA Wg) (.int .u64 ((v+1)*KK))))
def XKd(g:V4)(w:xv):Prop:=g.status=.running/\∃g',stepG P mn g w=.go g' w #[mk .disable]/\∃m,(Goes P mn (RL ty Wg) DC0) (XA1 P mn ty Wg Fin) m g' w
def Vd(g:V4)(w:xv):Prop:=g.status=.running/\∃g',stepG P mn g w=.go g' w #[mk (.acquire (stA Wg))]/\∃m,(Goes P mn (RL ty Wg) DC0) Fin m g' w
def XWe(g:V4)(w:xv):Prop:=g.status=.running/\∃g',stepG P mn g w=.go g' w #[mk .enable]/\∃m,(Goes P mn (RL ty Wg) DC0) (Vd P mn ty Wg Fin) m g' w
def XW4(g:V4)(w:xv):Prop:=g.status=.running/\(WgAt ty Wg w 0 0->∃g',stepG P mn g w=.go g' w #[rd (stA Wg)]/\∃m,(Goes P mn (RL ty Wg) DC0) (XWe P mn ty Wg Fin) m g' w)
def XW3(g:V4)(w:xv):Prop:=g.status=.running/\g.offers=none/\((∃st,WgAt ty Wg w st 0)->stepG P mn g w=.go {g with status:=.blocked} w #[])/\(WgAt ty Wg w 0 1->∃g',stepG P mn g w=.go g' (w.setCell (smA Wg) (.int .u32 0)) (semEvents (smA Wg))/\∃m,(Goes P mn (RL ty Wg) DC0) (XW4 P mn ty Wg Fin) m g' (w.setCell (smA Wg) (.int .u32 0)))
def XSw(g:V4)(w:xv):Prop:=g.status=.running/\∃g',stepG P mn g w=.go g' w #[mk (.write (smA Wg))]/\∃m,(Goes P mn (RL ty Wg) DC0) (XW3 P mn ty Wg Fin) m g' w
variable (Anch:V4->xv->Prop)
def XW2(a:Nat)(g:V4)(w:xv):Prop:=
 g.status=.running/\∀v:Nat,v<2147483648->WgAt ty Wg w (v*KK) 0->
  (v=a->∃g',stepG P mn g w=.go g' (w.setCell (stA Wg) (.int .u64 (v*KK+1))) #[rd (stA Wg),wr (stA Wg)]/\∃m,(Goes P mn (RL ty Wg) DC0) (XSw P mn ty Wg Fin) m g' (w.setCell (stA Wg) (.int .u64 (v*KK+1))))/\
  (v≠a->∃g',stepG P mn g w=.go g' w #[rd (stA Wg)]/\∃m,(Goes P mn (RL ty Wg) DC0) Anch m g' w)
def XW1(g:V4)(w:xv):Prop:=g.status=.running/\∀v:Nat,v<2147483648->WgAt ty Wg w (v*KK) 0->∃g',stepG P mn g w=.go g' w #[rd (stA Wg)]/\(v=0->∃m,(Goes P mn (RL ty Wg) DC0) (XWe P mn ty Wg Fin) m g' w)/\(v≠0->∃m,(Goes P mn (RL ty Wg) DC0) (XW2 P mn ty Wg Fin Anch v) m g' w)
def XWd(g:V4)(w:xv):Prop:=g.status=.running/\∃g',stepG P mn g w=.go g' w #[mk .disable]/\∃m,(Goes P mn (RL ty Wg) DC0) Anch m g' w
def XAn(L:WgLink)(Wg:Nat)(c:Frame)(cs:List Frame)(g:V4)(w:xv):Prop:=∃T:WZ,g=G ((base L.wait).at ⟨T,[]⟩ [.code (L7 L),.inLoop (L7 L),.inBlock 0]) (c::cs)/\T.size=84/\T[0]? =some (.pointer (some ⟨Wg,0,none⟩))/\WgLive L.tWg Wg w
end
section
variable {L:WgLink} {P:Program} {mn:Bool} {Wg:Nat} {Fin:V4->xv->Prop} {b₀:Frame} {a₀:Act} {ops0:Array Oper} {i₀:Nat} {rest0:List Nat} {k₀:List Item} {cs:List Frame} {mT:Nat}
def Wa(H:WgLib P L)(f:∀w,WgLive L.tWg Wg w->Goes P mn (RL L.tWg Wg) DC0 Fin mT (G (b₀.at (a₀.put ((ops0[i₀]?).bind (·.dst)) (.tuple #[])) (.inRegion ops0 rest0::k₀)) cs) w)(w:xv)(a:WgLive L.tWg Wg w):Goes P mn (RL L.tWg Wg) DC0 (XKd P mn L.tWg Wg Fin) 20 (G ((base L.add).at ⟨#[.pointer (some ⟨Wg,0,none⟩),.i 1,undef,undef,undef,undef,undef,undef,undef,undef,undef,undef,undef,undef,undef,undef,undef,undef,undef,undef,undef,undef,undef,undef,undef,undef,undef,undef,undef,undef,undef,undef,undef,undef,undef,undef,undef,undef,undef,undef,undef,undef,undef,undef,undef,undef,undef,undef,undef,undef,undef,undef,undef,undef,undef,undef,undef,undef,undef,undef,undef,undef,undef,undef,undef,undef,undef,undef,undef,undef,undef,undef,undef,undef,undef,undef,undef,undef,undef,undef,undef,undef,undef,undef,undef,undef,undef,undef,undef,undef,undef,undef,undef,undef,undef,undef,undef,undef,undef,undef,undef,undef,undef,undef,undef,undef,undef,undef,undef,undef,undef,undef,undef,undef,undef,undef,undef],[]⟩ [.code (body_add L)]) (b₀.at a₀ (.inRegion ops0 (i₀::rest0)::k₀)::cs)) w:=by
 lib_facts
 simp only[body_add,addFn,Yl];u_c stepG_seq xl a
 u_cond true xl a
 iterate 2 (u_c stepG_seq xl a)
 u_reg xl a
 iterate 2 (u_op xl a)
 u_c stepG_region_end xl a
 u_cond false xl a
 u_c stepG_skip xl a
 u_c stepG_seq xl a
 u_reg xl a
 refine Goes.stop (λw1 g=>?_);replace a:=xl a g;clear g;refine⟨rfl,_,stepG_mark0 .disable (by simp) rfl rfl (by k_ne) rfl H.f_disable (x_disable_n L) (x_disable_b L) (x_disable_x L) (x_disable_f L),60,?_⟩;walk_nrm
 u_c stepG_region_end xl a
 u_reg xl a
 u_defer xl a
 u_c stepG_region_end xl a
 u_c stepG_seq xl a
 u_reg xl a
 u_op xl a
 u_c stepG_region_end xl a
 iterate 2 (u_c stepG_seq xl a)
 u_reg xl a
 u_bub xl a
 u_c stepG_region_end xl a
 u_cond false xl a
 u_c stepG_skip xl a
 u_c stepG_seq xl a
 u_reg xl a
 iterate 6 (u_op xl a)
 u_call H.f_uAdd (nm_uAdd L) uAddFn xl a
 u_c stepG_seq xl a
 u_reg xl a
 u_op xl a
 u_c stepG_region_end xl a
 u_c stepG_seq xl a
 u_reg xl a
 iterate 4 (u_op xl a)
 refine Goes.stop (λw2 h=>?_);replace a:=xl a h;clear h;refine⟨rfl,λv m b=>?_⟩;obtain rfl|hvp:=Xc v
 .replace b:WgAt L.tWg Wg w2 0 0:=by simpa using b
  have z:(((0:Nat):Int)+1)*KK=KK:=by simp
  rw[z];have e0:IntKind.u64.wrap (0+4294967296)=KK:=by decide
  refine⟨_,(stepG_add_atomic rfl rfl (by k_ne) rfl H.f_addU64 (x_addU64_n L) (x_addU64_b L) (x_addU64_x L) .u64 (x_addU64_f L) rfl rfl b.cellSt (b.thaw 0)).trans (by rw[e0];rfl),.inl ⟨110,?_⟩⟩;replace a:WgLive L.tWg Wg (w2.setCell (stA Wg) (.int .u64 KK)):=⟨_,_,b.setSt _⟩
  clear b;simp only[KK]at a⊢;walk_nrm
  u_op xl a
  u_c stepG_region_end xl a
  u_c stepG_ret' xl a
  u_leave1 H.f_uAdd xl a
  u_op xl a
  u_c stepG_region_end xl a
  iterate 2 (u_c stepG_seq xl a)
  u_reg xl a
  iterate 4 (u_op xl a)
  iterate 2 (u_skip xl a)
  u_op xl a
  u_c stepG_region_end xl a
  u_cond false xl a
  u_c stepG_skip xl a
  u_c stepG_seq xl a
  u_reg xl a
  iterate 4 (u_op xl a)
  u_c stepG_region_end xl a
  u_c stepG_seq xl a
  u_reg xl a
  iterate 4 (u_op xl a)
  u_c stepG_region_end xl a
  iterate 2 (u_c stepG_seq xl a)
  u_reg xl a
  iterate 10 (u_op xl a)
  u_c stepG_region_end xl a
  u_cond true xl a
  u_reg xl a
  iterate 3 (u_op xl a)
  u_conv H.underlying_tPU32 H.room_tU32 (WgLive.cell1 a).choose_spec xl a
  refine Goes.stop (λw3 i=>?_);replace a:=xl a i;clear i;refine⟨rfl,_,stepG_markAt .read (by simp) rfl rfl (by k_ne) rfl H.f_raceRead (x_raceRead_n L) (x_raceRead_b L) (x_raceRead_x L) (x_raceRead_f L) (ad:=⟨Wg,1,none⟩) (by simp[Act.eval]),60,?_⟩;walk_nrm
  u_c stepG_region_end xl a
  iterate 2 (u_c stepG_seq xl a)
  u_reg xl a
  iterate 2 (u_op xl a)
  u_c stepG_region_end xl a
  u_cond false xl a
  u_c stepG_skip xl a
  iterate 2 (u_c stepG_seq xl a)
  u_reg xl a
  iterate 3 (u_op xl a)
  iterate 2 (u_skip xl a)
  iterate 2 (u_op xl a)
  iterate 4 (u_skip xl a)
  u_op xl a
  u_c stepG_region_end xl a
  u_cond false xl a
  u_c stepG_skip xl a
  iterate 2 (u_c stepG_seq xl a)
  u_reg xl a
  iterate 3 (u_op xl a)
  iterate 2 (u_skip xl a)
  u_op xl a
  u_c stepG_region_end xl a
  u_cond true xl a
  u_c stepG_ret' xl a
  refine Goes.stop (λw4 d=>?_);replace a:=xl a d;clear d;refine⟨rfl,_,stepG_unwind_entry (v:=.tuple #[]) (evs:=#[mk .enable]) rfl H.f_enable (x_enable_n L) (x_enable_b L) (x_enable_x L) (x_enable_f L) (by simp[Extern.Race.none_]) (by simp[mk]) (by simp[mk]),mT+1,?_⟩
  u_leave0 H.f_add xl a
  exact f _ a
 obtain⟨V,e⟩:∃V:Int,V=(v:Int)+1:=⟨_,rfl⟩
 obtain⟨S,c⟩:∃S:Int,S=V*KK:=⟨_,rfl⟩
 have j:IntKind.u64.wrap ((v:Int)*KK+4294967296)=S:=by rw[IntKind.wrap_u64,c,e];simp only[KK];omega
 rw[<-e,<-c];have a1:S/4294967296=V:=by rw[c];simp only[KK];omega
 have n:bits .and .u64 S 2147483648=0:=by rw[c,e];have:=st_flag (v+1) 0 (by omega) (by omega);simpa[KK]using this
 have o:bits .and .u64 S 2147483647=0:=by rw[c,e];have:=st_waiters (v+1) 0 (by omega) (by omega);simpa[KK]using this
 have p:IntKind.i32.wrap V=V:=by rw[IntKind.wrap_i32];omega
 have k:1<V:=by omega
 have l:V<2147483648:=by omega
 have q:(V==1)=false:=by simp;omega
 have r:decide (V=1)=false:=Wz (by omega);have s:decide (V<0)=false:=Wz (by omega);have t:decide (0<V)=true:=WE (by omega);have u:(V==0)=false:=by simp;omega
 have x:decide (V=0)=false:=Wz (by omega);refine⟨_,(stepG_add_atomic rfl rfl (by k_ne) rfl H.f_addU64 (x_addU64_n L) (x_addU64_b L) (x_addU64_x L) .u64 (x_addU64_f L) rfl rfl b.cellSt (b.thaw 0)).trans (by rw[j];rfl),.inr ⟨110,?_⟩⟩;replace a:WgLive L.tWg Wg (w2.setCell (stA Wg) (.int .u64 S)):=⟨_,_,b.setSt _⟩
 clear b c e j;walk_nrm
 u_op xl a
 u_c stepG_region_end xl a
 u_c stepG_ret' xl a
 u_leave1 H.f_uAdd xl a
 u_op xl a
 u_c stepG_region_end xl a
 iterate 2 (u_c stepG_seq xl a)
 u_reg xl a
 iterate 4 (u_op xl a)
 iterate 2 (u_skip xl a)
 u_op xl a
 u_c stepG_region_end xl a
 u_cnd false xl a
 u_c stepG_skip xl a
 u_c stepG_seq xl a
 u_reg xl a
 iterate 4 (u_op xl a)
 u_c stepG_region_end xl a
 u_c stepG_seq xl a
 u_reg xl a
 iterate 4 (u_op xl a)
 u_c stepG_region_end xl a
 iterate 2 (u_c stepG_seq xl a)
 u_reg xl a
 iterate 10 (u_op xl a)
 u_c stepG_region_end xl a
 u_cnd false xl a
 u_c stepG_skip xl a
 iterate 2 (u_c stepG_seq xl a)
 u_reg xl a
 iterate 2 (u_op xl a)
 u_c stepG_region_end xl a
 u_cnd false xl a
 u_c stepG_skip xl a
 iterate 2 (u_c stepG_seq xl a)
 u_reg xl a
 iterate 3 (u_op xl a)
 iterate 2 (u_skip xl a)
 iterate 2 (u_op xl a)
 iterate 4 (u_skip xl a)
 u_op xl a
 u_c stepG_region_end xl a
 u_cnd false xl a
 u_c stepG_skip xl a
 iterate 2 (u_c stepG_seq xl a)
 u_reg xl a
 iterate 3 (u_op xl a)
 iterate 2 (u_skip xl a)
 u_op xl a
 u_c stepG_region_end xl a
 u_cnd true xl a
 u_c stepG_ret' xl a
 refine Goes.stop (λw4 d=>?_);replace a:=xl a d;clear d;refine⟨rfl,_,stepG_unwind_entry (v:=.tuple #[]) (evs:=#[mk .enable]) rfl H.f_enable (x_enable_n L) (x_enable_b L) (x_enable_x L) (x_enable_f L) (by simp[Extern.Race.none_]) (by simp[mk]) (by simp[mk]),mT+1,?_⟩
 u_leave0 H.f_add xl a
 exact f _ a
def Ve(H:WgLib P L)(l:∀w,WgLive L.tWg Wg w->Goes P mn (RL L.tWg Wg) DC0 Fin mT (G (b₀.at (a₀.put ((ops0[i₀]?).bind (·.dst)) (.tuple #[])) (.inRegion ops0 rest0::k₀)) cs) w) (g) (w) (h:XAn L Wg (b₀.at a₀ (.inRegion ops0 (i₀::rest0)::k₀)) cs g w):∃m,Goes P mn (RL L.tWg Wg) DC0 (XW1 P mn L.tWg Wg Fin (XAn L Wg (b₀.at a₀ (.inRegion ops0 (i₀::rest0)::k₀)) cs)) m g w:=by
 lib_facts
 obtain⟨T,rfl,d,o,a⟩:=h;obtain⟨v0,v1,v2,v3,v4,v5,v6,v7,v8,v9,t,u,x,y,z,A,B,C,D,E,F,I,J,K,M,N,O,Q,R,U,V,W,X,Y,Z,aa,ab,af,ag,ah,ak,al,an,ao,ar,ax,ay,aK,aM,aR,a6,a7,a8,ba,bb,bk,bm,bo,br,bs,bx,bA,bB,bC,b0,b3,b4,b5,b6,b7,b8,b9,ca,cb,cc,cd,cf,cg,ck,cl,cm,cn,cp,cq,rfl⟩:=array84 T d;simp only[Y8,aaA,Xo]at o;subst o;refine⟨30,?_⟩;simp only[L7,body_wait,waitFn,Yl];u_c stepG_block xl a;u_c stepG_seq xl a
 u_reg xl a
 iterate 3 (u_op xl a)
 u_call H.f_uLoad (nm_uLoad L) uLoadFn xl a
 u_c stepG_seq xl a
 u_reg xl a
 u_op xl a
 u_c stepG_region_end xl a
 u_c stepG_seq xl a
 u_reg xl a
 iterate 3 (u_op xl a)
 refine Goes.stop (λw1 p=>?_);replace a:=xl a p;clear p;refine⟨rfl,λv hv b=>?_⟩;obtain rfl|hvp:=Xc v
 .replace b:WgAt L.tWg Wg w1 0 0:=by simpa using b
  refine⟨_,stepG_load_atomic (v:=0) rfl rfl (by k_ne) rfl H.f_loadU64 (x_loadU64_n L) (x_loadU64_b L) (x_loadU64_x L) .u64 (x_loadU64_f L) rfl b.cellSt,λ_=>⟨80,?_⟩,λh=>absurd rfl h⟩;clear b;walk_nrm
  u_op xl a
  u_c stepG_region_end xl a
  u_c stepG_ret' xl a
  u_leave1 H.f_uLoad xl a
  u_op xl a
  u_c stepG_region_end xl a
  u_c stepG_seq xl a
  u_reg xl a
  iterate 4 (u_op xl a)
  u_c stepG_region_end xl a
  u_c stepG_seq xl a
  u_reg xl a
  iterate 4 (u_op xl a)
  u_c stepG_region_end xl a
  iterate 2 (u_c stepG_seq xl a)
  u_reg xl a
  iterate 2 (u_op xl a)
  u_c stepG_region_end xl a
  u_cond true xl a
  u_c stepG_seq xl a
  u_cond true xl a
  u_c stepG_seq xl a
  u_reg xl a
  refine Goes.stop (λw5 f=>?_);replace a:=xl a f;clear f;refine⟨rfl,_,stepG_mark0 .enable (by simp) rfl rfl (by k_ne) rfl H.f_enable (x_enable_n L) (x_enable_b L) (x_enable_x L) (x_enable_f L),30,?_⟩;walk_nrm
  u_c stepG_region_end xl a
  u_reg xl a
  u_op xl a
  u_conv H.underlying_tWgP H.room_tWg (WgLive.cell0 a).choose_spec xl a
  refine Goes.stop (λw6 i=>?_);replace a:=xl a i;clear i;refine⟨rfl,_,stepG_markAt .acquire (by simp) rfl rfl (by k_ne) rfl H.f_acquire (x_acquire_n L) (x_acquire_b L) (x_acquire_x L) (x_acquire_f L) (by simp[Act.eval,stA]),⟨mT+20,?_⟩⟩;walk_nrm
  u_c stepG_region_end xl a
  iterate 2 (u_c stepG_seq xl a)
  u_reg xl a
  iterate 8 (u_op xl a)
  iterate 2 (u_skip xl a)
  u_op xl a
  u_c stepG_region_end xl a
  u_cond false xl a
  u_c stepG_skip xl a
  u_c stepG_ret' xl a
  u_leave0 H.f_wait xl a
  exact l _ a
 obtain⟨S,c⟩:∃S:Int,(v:Int)*KK=S:=⟨_,rfl⟩
 have a1:S/4294967296=(v:Int):=by rw[<-c];simp only[KK];omega
 have b1:bits .and .u64 S 2147483648=0:=by rw[<-c];have:=st_flag v 0 (by omega) (by omega);simpa[KK]using this
 have b2:bits .and .u64 S 2147483647=0:=by rw[<-c];have:=st_waiters v 0 (by omega) (by omega);simpa[KK]using this
 have c1:IntKind.i32.wrap (v:Int)=(v:Int):=by rw[IntKind.wrap_i32];omega
 have wq:IntKind.u64.wrap (S+1)=S+1:=by rw[IntKind.wrap_u64,<-c];simp only[KK];omega
 have q3:decide ((v:Int)<0)=false:=Wz (by omega);have q4:decide (0<(v:Int))=true:=WE (by omega);have q5:((v:Int)==0)=false:=by simp;omega
 have q6:decide ((v:Int)=0)=false:=Wz (by omega);rw[c]at b;refine⟨_,stepG_load_atomic (v:=S) rfl rfl (by k_ne) rfl H.f_loadU64 (x_loadU64_n L) (x_loadU64_b L) (x_loadU64_x L) .u64 (x_loadU64_f L) rfl b.cellSt,λh0=>absurd h0 (by omega),λ_=>⟨80,?_⟩⟩;clear b;walk_nrm
 u_op xl a
 u_c stepG_region_end xl a
 u_c stepG_ret' xl a
 u_leave1 H.f_uLoad xl a
 u_op xl a
 u_c stepG_region_end xl a
 u_c stepG_seq xl a
 u_reg xl a
 iterate 4 (u_op xl a)
 u_c stepG_region_end xl a
 u_c stepG_seq xl a
 u_reg xl a
 iterate 4 (u_op xl a)
 u_c stepG_region_end xl a
 iterate 2 (u_c stepG_seq xl a)
 u_reg xl a
 iterate 2 (u_op xl a)
 u_c stepG_region_end xl a
 u_cnd false xl a
 u_c stepG_skip xl a
 u_c stepG_seq xl a
 u_reg xl a
 iterate 6 (u_op xl a)
 u_call H.f_uCas (nm_uCas L) uCasFn xl a
 u_c stepG_seq xl a
 u_reg xl a
 u_op xl a
 u_c stepG_region_end xl a
 u_c stepG_seq xl a
 u_reg xl a
 iterate 5 (u_op xl a)
 refine Goes.stop (λw2 q=>?_);replace a:=xl a q;clear q;refine⟨rfl,λv' cr b=>⟨λe=>?_,λe=>?_⟩⟩
 .subst e;rw[c]at b⊢;refine⟨_,(stepG_cas_hit (v:=S) (n:=S+1) rfl rfl (by k_ne) rfl H.f_casU64 (x_casU64_n L) (x_casU64_b L) (x_casU64_x L) .u64 (x_casU64_f L) rfl rfl rfl b.cellSt (b.thaw 0)).trans (by rfl),80,?_⟩;replace a:WgLive L.tWg Wg (w2.setCell (stA Wg) (.int .u64 (S+1))):=⟨_,_,b.setSt _⟩
  clear b;walk_nrm
  u_op xl a
  u_c stepG_region_end xl a
  u_c stepG_ret' xl a
  u_leave1 H.f_uCas xl a
  u_c stepG_region_end xl a
  u_cond true xl a
  iterate 2 (u_c stepG_seq xl a)
  u_reg xl a
  iterate 4 (u_op xl a)
  u_c stepG_region_end xl a
  u_cond true xl a
  u_reg xl a
  iterate 3 (u_op xl a)
  u_conv H.underlying_tPU32 H.room_tU32 (WgLive.cell1 a).choose_spec xl a
  refine Goes.stop (λw3 r=>?_);replace a:=xl a r;clear r;refine⟨rfl,_,stepG_markAt .write (by simp) rfl rfl (by k_ne) rfl H.f_raceWrite (x_raceWrite_n L) (x_raceWrite_b L) (x_raceWrite_x L) (x_raceWrite_f L) (ad:=⟨Wg,1,none⟩) (by simp[Act.eval]),60,?_⟩;walk_nrm
  u_c stepG_region_end xl a
  u_c stepG_seq xl a
  u_reg xl a
  u_op xl a
  u_c stepG_region_end xl a
  iterate 2 (u_c stepG_seq xl a)
  u_reg xl a
  iterate 4 (u_op xl a)
  u_skip xl a
  u_op xl a
  u_c stepG_region_end xl a
  u_cond false xl a
  u_c stepG_skip xl a
  u_c stepG_seq xl a
  u_reg xl a
  iterate 4 (u_op xl a)
  refine Goes.stop (λw4 s=>?_);replace a:=xl a s;clear s;refine⟨rfl,rfl,λ⟨st,b⟩=>stepG_semacquire_wait rfl rfl rfl H.f_semacquire (x_semacquire_n L) (x_semacquire_b L) (x_semacquire_x L) (x_semacquire_f L) (by simp[Act.eval,smA]) b.cellSm,λj=>?_⟩;refine⟨_,(stepG_semacquire (n:=1) rfl rfl (by k_ne) rfl H.f_semacquire (x_semacquire_n L) (x_semacquire_b L) (x_semacquire_x L) (x_semacquire_f L) (by simp[Act.eval,smA]) j.cellSm (by k_ne) (j.thaw 1)).trans (by rfl),40,?_⟩;replace a:WgLive L.tWg Wg (w4.setCell (smA Wg) (.int .u32 0)):=⟨_,_,j.setSm 0⟩
  clear j;walk_nrm
  u_c stepG_region_end xl a
  u_c stepG_seq xl a
  u_reg xl a
  iterate 3 (u_op xl a)
  u_call H.f_uLoad (nm_uLoad L) uLoadFn xl a
  u_c stepG_seq xl a
  u_reg xl a
  u_op xl a
  u_c stepG_region_end xl a
  u_c stepG_seq xl a
  u_reg xl a
  iterate 3 (u_op xl a)
  refine Goes.stop (λw5 f=>?_);replace a:=xl a f;clear f;refine⟨rfl,λb=>⟨_,stepG_load_atomic (v:=0) rfl rfl (by k_ne) rfl H.f_loadU64 (x_loadU64_n L) (x_loadU64_b L) (x_loadU64_x L) .u64 (x_loadU64_f L) rfl b.cellSt,40,?_⟩⟩;clear b;walk_nrm
  u_op xl a
  u_c stepG_region_end xl a
  u_c stepG_ret' xl a
  u_leave1 H.f_uLoad xl a
  iterate 2 (u_op xl a)
  u_c stepG_region_end xl a
  u_c stepG_seq xl a
  u_cond true xl a
  u_c stepG_seq xl a
  u_reg xl a
  refine Goes.stop (λw6 i=>?_);replace a:=xl a i;clear i;refine⟨rfl,_,stepG_mark0 .enable (by simp) rfl rfl (by k_ne) rfl H.f_enable (x_enable_n L) (x_enable_b L) (x_enable_x L) (x_enable_f L),30,?_⟩;walk_nrm
  u_c stepG_region_end xl a
  u_reg xl a
  u_op xl a
  u_conv H.underlying_tWgP H.room_tWg (WgLive.cell0 a).choose_spec xl a
  refine Goes.stop (λw7 k=>?_);replace a:=xl a k;clear k;refine⟨rfl,_,stepG_markAt .acquire (by simp) rfl rfl (by k_ne) rfl H.f_acquire (x_acquire_n L) (x_acquire_b L) (x_acquire_x L) (x_acquire_f L) (by simp[Act.eval,stA]),⟨mT+10,?_⟩⟩;walk_nrm
  u_c stepG_region_end xl a
  iterate 2 (u_c stepG_seq xl a)
  u_reg xl a
  u_op xl a
  u_c stepG_region_end xl a
  u_cond false xl a
  u_c stepG_skip xl a
  u_c stepG_ret' xl a
  u_leave0 H.f_wait xl a
  exact l _ a
 refine⟨_,stepG_cas_miss (v:=(v':Int)*KK) (old:=S) (n:=S+1) rfl rfl (by k_ne) rfl H.f_casU64 (x_casU64_n L) (x_casU64_b L) (x_casU64_x L) .u64 (x_casU64_f L) rfl rfl rfl b.cellSt (b.thaw 0) (by rw[<-c];simp only[KK];omega),40,?_⟩;clear b;walk_nrm
 u_op xl a
 u_c stepG_region_end xl a
 u_c stepG_ret' xl a
 u_leave1 H.f_uCas xl a
 u_c stepG_region_end xl a
 u_cond false xl a
 u_c stepG_skip xl a
 u_c stepG_inBlock xl a
 u_c stepG_inLoop xl a
 exact Goes.stop (λw7 k=>⟨_,rfl,by simp,by simp,xl a k⟩)
def JW(H:WgLib P L)(w:xv)(a:WgLive L.tWg Wg w):Goes P mn (RL L.tWg Wg) DC0 (XWd P mn L.tWg Wg (XAn L Wg (b₀.at a₀ (.inRegion ops0 (i₀::rest0)::k₀)) cs)) 20 (G ((base L.wait).at ⟨#[.pointer (some ⟨Wg,0,none⟩),undef,undef,undef,undef,undef,undef,undef,undef,undef,undef,undef,undef,undef,undef,undef,undef,undef,undef,undef,undef,undef,undef,undef,undef,undef,undef,undef,undef,undef,undef,undef,undef,undef,undef,undef,undef,undef,undef,undef,undef,undef,undef,undef,undef,undef,undef,undef,undef,undef,undef,undef,undef,undef,undef,undef,undef,undef,undef,undef,undef,undef,undef,undef,undef,undef,undef,undef,undef,undef,undef,undef,undef,undef,undef,undef,undef,undef,undef,undef,undef,undef,undef,undef],[]⟩ [.code (body_wait L)]) (b₀.at a₀ (.inRegion ops0 (i₀::rest0)::k₀)::cs)) w:=by (lib_facts);simp only[body_wait,waitFn,Yl];u_c stepG_seq xl a;(u_cond true xl a);(u_reg xl a);refine Goes.stop (λw1 b=>?_);replace a:=xl a b;clear b;refine⟨rfl,_,stepG_mark0 .disable (by simp) rfl rfl (by k_ne) rfl H.f_disable (x_disable_n L) (x_disable_b L) (x_disable_x L) (x_disable_f L),10,?_⟩;(walk_nrm);(u_c stepG_region_end xl a);(u_c stepG_block xl a);(u_c stepG_loop xl a);exact Goes.stop (λw2 c=>⟨_,rfl,by simp,by simp,xl a c⟩)
end
end Go.Tm
namespace Go.Tm
open Go.Conc Go.ConcN
def blk:Loc->Option Nat
 | .cell a=>some a.block
 | .obj r=>some r
 |_=>none
def Lj{B}{d:MemOp}{x}(h:d.act.low B)(a:d.act.touch?=some x){b}(i:blk x.loc=some b):b<B:=by obtain⟨g,fn,pos,f⟩:=d;cases f with|access e=>simp only[MemAct.touch?,Xo]at a;subst a;simp only[MemAct.low]at h;cases j:e.loc<;>simp_all [Loc.low,blk]|mark m=>cases m<;>simp_all [MemAct.touch?,MemAct.low];all_goals (subst a;simp_all [blk])|_=>simp[MemAct.touch?]at a
section
variable (shun sp:Nat->Prop) (c:Nat) (T0:Nat) (own low:Nat->Nat)
structure TI(t:Trace):Prop where
 nr:∀said,¬Race said t
 Pp:∀(i:Nat) (op:MemOp) x b,t[i]? =some op->op.act.touch?=some x->blk x.loc=some b->own b≠0->op.g=own b
 wr:∀(i:Nat) x b,touchAt t i=some x->blk x.loc=some b->own b=0->¬sp b->¬shun b->x.write=true->Knows t 0 i/\∀k,b<low k->Knows t k i
 tc:∀(i:Nat) x b,touchAt t i=some x->blk x.loc=some b->own b=0->¬sp b->¬shun b->(∀k,low k<=b)->Knows t 0 i
 sh:∀(i:Nat) (op:MemOp) x,t[i]? =some op->op.act.touch?=some x->∀b,blk x.loc=some b->sp b->x.kind=.atomic\/(x.kind=.said/\((op.g=0/\x.write=false/\(low c≠0->Knows t c i))\/(op.g=c/\c≠0)))
 cl:∀op∈t,op.g=c->low c≠0
 at_:∀(i:Nat) (op:MemOp) x,T0<=i->t[i]? =some op->op.act.touch?=some x->x.kind=.atomic->∃b,blk x.loc=some b/\sp b
 who:∀(i:Nat) (op:MemOp) x,T0<=i->t[i]? =some op->op.act.touch?=some x->op.g=0\/low op.g≠0
 z_:low 0=0
 yc:∀b,sp b->own b=0
def Okx(g:Nat)(x:Touch):Prop:=
 (g=0\/low g≠0)/\∃b,blk x.loc=some b/\
  ((own b=g/\g≠0/\x.kind=.plain)\/
   (own b=0/\¬sp b/\¬shun b/\x.kind=.plain/\((g=0/\(x.write=true->∀k,low k<=b))\/(g≠0/\x.write=false/\b<low g)))\/
   (sp b/\(x.kind=.atomic\/(x.kind=.said/\((g=0/\x.write=false/\low c=0)\/(g=c/\c≠0))))))
end
section
variable {shun sp:Nat->Prop} {c T0:Nat} {own low:Nat->Nat} {t u:Trace}
def Pq{d}{a x:Touch}(h:a.conflicts d x){b}(e:blk x.loc=some b):blk a.loc=some b:=by rw[h.1];exact e
def TI.app{g}(h:TI shun sp c T0 own low t)(G:∀f∈u,f.g=g)(hc:g=c->low c≠0)(v:∀f∈u,∀x,f.act.touch?=some x->Okx shun sp c own low g x):TI shun sp c T0 own low (t++u):=by (have old:∀{i:Nat} {a:Touch},touchAt (t++u) i=some a->touchAt t i=some a\/∃f,(t++u)[i]? =some f/\f∈u/\f.act.touch?=some a:=by intro i a M;obtain⟨z,hz,N⟩:=touch_of M;obtain⟨_,Y⟩|⟨_,Z⟩:=getElem?_append_cases hz;exact .inl (by rw[touchAt_of Y];exact N);exact .inr ⟨z,hz,Z,N⟩);(have F:∀{i:Nat} {f:MemOp},(t++u)[i]? =some f->f∈u->Knows (t++u) g i:=by intro i f w aa;have:=knows_own w;rwa[G f aa]at this);refine⟨λO=>?_,λi f x b w p y hn=>?_,λi x b p y P Q hs W=>?_,λi x b p y P Q hs hl=>?_,λi f x w p b y o=>?_,λf H hg=>?_,λi f x hi w p I=>?_,λi f x hi w p=>?_,h.z_,h.yc⟩;refine noRace_append (h.nr O) G λi a M f H x p E=>?_;obtain⟨hg,b,y,d⟩:=v f H x p;have C:=Pq E y;obtain⟨oi,A,R⟩:=touch_of M;obtain⟨n,q,_⟩|⟨n,q,h3,_,m⟩|⟨o,m⟩:=d;have:=h.Pp i oi a b A R C (by rw[n];exact q);have v:=knows_own A;rwa[this,n]at v;obtain⟨rfl,m⟩|⟨m,s,X⟩:=m;(cases S:x.write with|true=>exact h.tc i a b M C n q h3 (m S)|false=>exact(h.wr i a b M C n q h3 (E.2.2.1.resolve_right (by simp[S]))).1);exact(h.wr i a b M C n q h3 (E.2.2.1.resolve_right (by simp[s]))).2 g X;have B:=h.sh i oi a A R b C o;obtain⟨_,_,_,T⟩:=E;obtain m|⟨m,s⟩:=m;obtain e|e|⟨_,_,e⟩:=T;rcases B with U|⟨U,_⟩<;>rw[U]at e<;>cases e;rw[m]at e;cases e;rw[m]at e;cases e;(have D:a.kind=.said:=by obtain e|e|⟨_,e,_⟩:=T;rcases B with U|⟨U,_⟩<;>rw[U]at e<;>cases e;rw[m]at e;cases e;exact e);obtain e|⟨_,B⟩:=B;rw[e]at D;cases D;obtain⟨rfl,s,X⟩|⟨s,X⟩:=s;obtain⟨e1,e2,_⟩|⟨e1,_⟩:=B;have v:=knows_own A;rwa[e1]at v;exact absurd X (h.cl oi (mem_of_getElem? A) e1);obtain⟨_,_,e⟩|⟨e,_⟩:=B;rw[s];exact e (hc s);have v:=knows_own A;rwa[e,<-s]at v;obtain⟨_,r⟩|⟨_,j⟩:=getElem?_append_cases w;exact h.Pp i f x b r p y hn;obtain⟨_,V,l,d⟩:=v f j x p;rw[y]at l;cases l;obtain⟨n,_⟩|⟨n,_⟩|⟨o,_⟩:=d;rw[G f j,n];exact absurd n hn;exact absurd (h.yc _ o) hn;obtain J|⟨f,w,j,K⟩:=old p;obtain⟨n,q⟩:=h.wr i x b J y P Q hs W;exact⟨n.app u,λk L=>(q k L).app u⟩;obtain⟨_,V,l,d⟩:=v f j x K;rw[y]at l;cases l;obtain⟨n,q,_⟩|⟨_,_,_,_,m⟩|⟨n,_⟩:=d;exact absurd (n.symm.trans P) q;obtain⟨rfl,m⟩|⟨_,s,_⟩:=m;exact⟨F w j,λk L=>absurd (m W k) (XZ.2 L)⟩;rw[s]at W;cases W;exact absurd n Q;obtain J|⟨f,w,j,K⟩:=old p;exact(h.tc i x b J y P Q hs hl).app u;obtain⟨_,V,l,d⟩:=v f j x K;rw[y]at l;cases l;obtain⟨n,q,_⟩|⟨_,_,_,_,m⟩|⟨n,_⟩:=d;exact absurd (n.symm.trans P) q;obtain⟨rfl,m⟩|⟨_,_,s⟩:=m;exact F w j;exact absurd (hl g) (XZ.2 s);exact absurd n Q;obtain⟨_,r⟩|⟨_,j⟩:=getElem?_append_cases w;obtain e|⟨e1,e2⟩:=h.sh i f x r p b y o;exact .inl e;exact .inr ⟨e1,e2.imp (λ⟨a,b,c⟩=>⟨a,b,λx=>(c x).app u⟩) id⟩;obtain⟨_,V,l,d⟩:=v f j x p;rw[y]at l;cases l;obtain⟨n,q,_⟩|⟨_,q,_⟩|⟨_,m⟩:=d;exact absurd (n.symm.trans (h.yc _ o)) q;exact absurd o q;obtain m|⟨m,s⟩:=m;exact .inl m;refine .inr ⟨m,s.imp (λ⟨a,b,c⟩=>⟨(G f j).trans a,b,λx=>absurd c x⟩) (λ⟨a,b⟩=>⟨(G f j).trans a,b⟩)⟩;obtain h'|h':=XD.1 H;exact h.cl f h' hg;exact hc ((G f h').symm.trans hg);obtain⟨_,r⟩|⟨_,j⟩:=getElem?_append_cases w;exact h.at_ i f x hi r p I;obtain⟨_,V,l,d⟩:=v f j x p;obtain⟨_,_,e⟩|⟨_,_,_,e,_⟩|⟨o,_⟩:=d;rw[I]at e;cases e;rw[I]at e;cases e;exact⟨V,l,o⟩;obtain⟨_,r⟩|⟨_,j⟩:=getElem?_append_cases w;exact h.who i f x hi r p;rw[G f j];exact(v f j x p).1
def TI.still(h:TI shun sp c T0 own low t)(s:∀op∈u,op.act.touch?=none)(I:∀op∈u,op.g=c->low c≠0):TI shun sp c T0 own low (t++u):=by (have old:∀{i:Nat} {a:Touch},touchAt (t++u) i=some a->touchAt t i=some a:=by intro i a q;obtain⟨z,J,n⟩:=touch_of q;obtain⟨_,o⟩|⟨_,p⟩:=getElem?_append_cases J;rw[touchAt_of o];exact n;rw[s z p]at n;cases n);(have f:∀{i:Nat} {op:MemOp} {a:Touch},(t++u)[i]? =some op->op.act.touch?=some a->t[i]? =some op:=by intro i op a l q;obtain⟨_,o⟩|⟨_,p⟩:=getElem?_append_cases l;exact o;rw[s op p]at q;cases q);refine⟨λr=>?_,λi op x b l d m s=>h.Pp i op x b (f l d) d m s,λi x b d m v w y K=>?_,λi x b d m v w y L=>(h.tc i x b (old d) m v w y L).app u,λi op x l d b m A=>?_,λop B H=>?_,λi op x C l d D=>h.at_ i op x C (f l d) d D,λi op x C l d=>h.who i op x C (f l d) d,h.z_,h.yc⟩;rintro⟨i,j,E,⟨a,b,q,m,F⟩,M,N⟩;exact h.nr r ⟨i,j,E,⟨a,b,old q,old m,F⟩,λe=>M (hb_app u e),λe=>N (hb_app u e)⟩;obtain⟨O,P⟩:=h.wr i x b (old d) m v w y K;exact⟨O.app u,λk G=>(P k G).app u⟩;obtain e|⟨e1,Q⟩:=h.sh i op x (f l d) d b m A;exact .inl e;exact .inr ⟨e1,Q.imp (λ⟨a,b,c⟩=>⟨a,b,λx=>(c x).app u⟩) id⟩;obtain h'|h':=XD.1 B;exact h.cl op h' H;exact I op h' H
def TI.fork{k s x y}(h:TI shun sp c T0 own low t)(p:x.g=0/\x.act=.go k)(E:y.g=k/\y.act=.start)(F:Deaf t 0=0)(S:Deaf t k=0)(I:k≠0)(A:low k=0)(B:s≠0)(J:c≠0):TI shun sp c T0 own (upd low k s) (t++#[x,y]):=by (have G:∀op∈#[x,y],op.act.touch?=none:=by intro op m;simp only[Xs,WO,WY,W7]at m;obtain rfl|rfl:=m;rw[p.2];rfl;rw[E.2];rfl);(have old:∀{i:Nat} {a:Touch},touchAt (t++#[x,y]) i=some a->touchAt t i=some a:=by intro i a w;obtain⟨z,U,q⟩:=touch_of w;obtain⟨_,r⟩|⟨_,v⟩:=getElem?_append_cases U;rw[touchAt_of r];exact q;rw[G z v]at q;cases q);(have f:∀{i:Nat} {op:MemOp} {a:Touch},(t++#[x,y])[i]? =some op->op.act.touch?=some a->t[i]? =some op:=by intro i op a l w;obtain⟨_,r⟩|⟨_,v⟩:=getElem?_append_cases l;exact r;rw[G op v]at w;cases w);(have le:∀k',low k'<=upd low k s k':=by intro k';unfold upd;split;rename_i e;rw[e,A];omega;exact Wv _);refine⟨λC=>?_,λi op x b l p n G=>h.Pp i op x b (f l p) p n G,λi o b d n K L B V=>?_,λi o b d n F L B H=>(h.tc i o b (old d) n F L B λk'=>Ww (le k') (H k')).app _,λi op o l d b n M=>?_,λop m N=>?_,λi op o O l d P=>h.at_ i op o O (f l d) d P,λi op o O l d=>?_,?_,h.yc⟩;rintro⟨i,j,Q,⟨a,b,w,n,R⟩,W,X⟩;exact h.nr C ⟨i,j,Q,⟨a,b,old w,old n,R⟩,λe=>W (hb_app _ e),λe=>X (hb_app _ e)⟩;obtain⟨T,Y⟩:=h.wr i o b (old d) n K L B V;refine⟨T.app _,λk' D=>?_⟩;by_cases e:k'=k;subst e;exact fork_knows p E F S T;rw[upd_ne _ _ e]at D;exact(Y k' D).app _;obtain e|⟨e1,Z⟩:=h.sh i op o (f l d) d b n M;exact .inl e;refine .inr ⟨e1,Z.imp (λ⟨a,b,c'⟩=>⟨a,b,λH=>?_⟩) id⟩;by_cases e:c=k;subst e;have:=knows_own (f l d);rw[a]at this;exact fork_knows p E F S this;rw[upd_ne _ _ e]at H;exact(c' H).app _;have aa:=le c;obtain h'|h':=XD.1 m;have:=h.cl op h' N;omega;simp only[Xs,WO,WY,W7]at h';obtain rfl|rfl:=h';exact absurd (p.1.symm.trans N).symm J;have e:=N.symm.trans E.1;rw[e,upd_same];exact B;obtain e|e:=h.who i op o O (f l d) d;exact .inl e;have:=le op.g;exact .inr (by omega);rw[upd_ne _ _ (WT I)];exact h.z_
def TI.owned{own':Nat->Nat}{B}(h:TI shun sp c T0 own low t)(l:∀(i) x b,touchAt t i=some x->blk x.loc=some b->b<B)(g:∀b,b<B->own' b=own b)(m:∀b,sp b->own' b=0):TI shun sp c T0 own' low t:=by (have lt:∀{i:Nat} {x:Touch} {b:Nat},touchAt t i=some x->blk x.loc=some b->b<B:=by intro i x b a d;exact l i x b a d);refine⟨h.nr,λi n x b e a d k=>?_,λi x b a d f=>?_,λi x b a d f=>?_,h.sh,h.cl,h.at_,h.who,h.z_,m⟩;have j:=lt (by rw[touchAt_of e];exact a) d;rw[g b j]at k⊢;exact h.Pp i n x b e a d k;rw[g b (lt a d)]at f;exact h.wr i x b a d f;rw[g b (lt a d)]at f;exact h.tc i x b a d f
end
def Vf(t:Trace)(g:Nat):Prop:=∀i,t.g? i=some g->t.counts i->Knows t 0 i
def TI.past{shun sp c C0 B' own low Shun t u}(h:TI shun sp c t.size own low (t++u))(F:Past Shun C0 t)(G:∀g,low g≠0->Vf (t++u) g) (m:Deaf (t++u) 0=0) (seen:∀n∈t++u,n.act.low B'):Past (λl=>Shun l\/∃b,blk l=some b/\sp b) B' (t++u):=by refine⟨h.nr,λi a I H=>?_,λi g A o r=>?_,m,seen⟩;obtain⟨n,d,k⟩:=touch_of I;obtain⟨hi,f⟩|⟨hi,_⟩:=getElem?_append_cases d;(exact(F.known i a (by rw[touchAt_of f];exact k) H).imp (·.app u) λ⟨x,y⟩=>⟨.inl x,y⟩);obtain e|e:=h.who i n a hi d k;have:=knows_own d;rw[e]at this;exact .inl this;by_cases r:(t++u).counts i;exact .inl (G n.g e i (by simp[Trace.g?,d]) r);(have w:a.kind=.atomic:=by apply XN;intro w;exact r ⟨a,by simp[Trace.act?,d,k],H,.inl w⟩);exact .inr ⟨.inr (h.at_ i n a hi d k w),w⟩;obtain hi|hi:=Wx i t.size;obtain⟨j,B,C⟩:=F.over i g (by rw[<-g?_old (u:=u) hi];exact A) o ((counts_old hi).1 r);(have D:j<t.size:=by unfold Trace.g? at B;obtain⟨z,s,_⟩:=Xb.1 B;exact lt_size_of_getElem? s);exact⟨j,by rw[g?_old D];exact B,hb_app u C⟩;obtain⟨n,d,p⟩:=Xb.1 A;have E:=r;obtain⟨x,J,_,_⟩:=E;obtain⟨K,f,k⟩:=touch_of J;rw[d]at f;cases f;obtain e|e:=h.who i n x hi d k;exact absurd (p.symm.trans e) o;rw[p]at e;obtain⟨q,z,s,v,hbe⟩:=G g e i A r;obtain rfl|hbe:=hbe;rw[d]at s;cases s;exact absurd (p.symm.trans v) o;exact⟨q,by simp[Trace.g?,s,v],hbe⟩
inductive jA{α:Type}(r:α->α->Prop):List α->List α->Prop
 |head {a' a:α} {l:List α}:r a' a->jA r (a'::l) (a::l)
 |tail {a:α} {l' l:List α}:jA r l' l->jA r (a::l') (a::l)
def jA.RV{a}(r:a->a->Prop):Acc (jA r) []:=⟨_,λ_ h=>by cases h⟩
def jA.Pt{e r a}(f:Acc r a):∀{l:List e},Acc (jA r) l->Acc (jA r) (a::l):=by induction f with|intro a _ b=>intro l g;induction g with|intro l c d=>refine⟨_,λy i=>?_⟩;cases i with|head h=>exact b _ h ⟨_,c⟩|tail h=>exact d _ h
def jA.wf{b}{r:b->b->Prop}(h:WellFounded r):WellFounded (jA r):=
 ⟨λl=>by
  induction l with
  |nil=>exact jA.RV r
  |cons a l c=>exact jA.Pt (h.apply a) c⟩
theorem jA.set{d r}:∀{l} {i} {a x:d},l[i]? =some a->r x a->jA r (l.set i x) l
 |b::l,0,a,x,h,c=>by simp at h;subst h;exact .head c
 |b::l,i+1,a,x,h,c=>.tail (jA.set (by simpa using h) c)
end Go.Tm
namespace Go.Tm
open Go.Conc Go.ConcN
open Go.ConcR (WgAt stA smA DC0)
structure RK(ty:TypeId)(Wg:Nat)(K:Nat->Prop)(w w₁:xv):Prop where
 keep:∀b,K b->w₁.heap[b]? =w.heap[b]?
 live:WgLive ty Wg w->WgLive ty Wg w₁
 size:w.heap.size<=w₁.heap.size
def RK.refl{ty Wg K}(w):RK ty Wg K w w:=⟨λ_ _=>rfl,id,Wv _⟩
def RK.trans{ty Wg K a b c}(h:RK ty Wg K a b)(d:RK ty Wg K b c):RK ty Wg K a c:=⟨λx e=>(d.keep x e).trans (h.keep x e),d.live ∘ h.live,Ww h.size d.size⟩
def EvK(Wg:Nat)(K M:Nat->Prop)(e:Event):Prop:=(∀x,(MemAct.ofEvent e).touch?=some x->∃b,blk x.loc=some b/\((x.kind=.plain/\K b/\(x.write=true->M b))\/(b=Wg/\x.kind=.atomic)))/\e.loc≠ .mark .disable/\e.loc≠ .mark .enable/\(∀a,e.loc≠ .mark (.release a))/\∀B,(MemAct.ofEvent e).touch?=none->(MemAct.ofEvent e).low B
def JX(w w':xv)(b:Nat):Prop:=w.heap.size<=b/\b<w'.heap.size
def orK(K:Nat->Prop)(w w':xv)(b:Nat):Prop:=K b\/JX w w' b
def db{K w w'}(h:w'.heap.size=w.heap.size):orK K w w'=K:=by funext b;apply propext;unfold orK JX;constructor;rintro(x|⟨x,y⟩);exact x;omega;exact .inl
abbrev aQ:=(Nat->Prop)->(Nat->Prop)->V4->xv->Prop
section
variable (P:Program) (mn:Bool) (ty:TypeId) (Wg:Nat)
def Vg(K M:Nat->Prop)(g:V4)(a:xv):Prop:=∃g' w' es,stepG P mn g a=.go g' w' es/\Eff M a w'/\∀e∈es,EvK Wg (orK K a w') (orK M a w') e
inductive Run(S:aQ):(Nat->Prop)->(Nat->Prop)->V4->xv->Prop
 |stop {K M:Nat->Prop} {g:V4} {w:xv}:(∀w₁,RK ty Wg K w w₁->S K M g w₁)->Run S K M g w
 |step {K M:Nat->Prop} {g:V4} {w:xv}:g.status=.running->(∀w₁,RK ty Wg K w w₁->Vg P mn Wg K M g w₁)->(∀w₁ g' w' es,RK ty Wg K w w₁->stepG P mn g w₁=.go g' w' es->Run S (orK K w₁ w') (orK M w₁ w') g' w')->Run S K M g w
structure Cfg where
 K:Nat->Prop
 M:Nat->Prop
 g:V4
 w:xv
def AtS(S:aQ)(c:Cfg):Prop:=∀a,RK ty Wg c.K c.w a->S c.K c.M c.g a
def Nxt(S:aQ)(c' c:Cfg):Prop:=¬AtS ty Wg S c/\∃a g' w' es,RK ty Wg c.K c.w a/\stepG P mn c.g a=.go g' w' es/\c'=⟨orK c.K a w',orK c.M a w',g',w'⟩
end
section
variable {P:Program} {mn:Bool} {ty:TypeId} {Wg:Nat} {S:aQ}
def Run.acc{K M g w}(h:Run P mn ty Wg S K M g w):Acc (Nxt P mn ty Wg S) ⟨K,M,g,w⟩:=by induction h with|stop h=>exact⟨_,λ_ b=>absurd h b.1⟩| @step K M g w f h i d=>refine⟨_,λc' b=>?_⟩;obtain⟨_,a,g',w',es,e,c,rfl⟩:=b;exact d a g' w' es e c
def Run.kW{K M g w}(k:g.status=.running) (h:∀f,RK ty Wg K w f->∃g' w' es,stepG P mn g f=.go g' w' es/\Eff M f w'/\(∀e∈es,EvK Wg (orK K f w') (orK M f w') e)/\Run P mn ty Wg S (orK K f w') (orK M f w') g' w'):Run P mn ty Wg S K M g w:=by refine .step k (λf i=>?_) λf g' w' es i j=>?_;obtain⟨g',w',es,a,b,c,_⟩:=h f i;exact⟨g',w',es,a,b,c⟩;obtain⟨m,w2,l,a,b,c,d⟩:=h f i;rw[j]at a;cases a;exact d
def Run.rely{K M g w w₁}(h:Run P mn ty Wg S K M g w)(c:RK ty Wg K w w₁):Run P mn ty Wg S K M g w₁:=by cases h with|stop h=>exact .stop λa b=>h a (c.trans b)|step d h e=>exact .step d (λa b=>h a (c.trans b)) λa g' w' es b=>e a g' w' es (c.trans b)
def Run.rY{K M g w}(h:Run P mn ty Wg S K M g w):S K M g w\/(g.status=.running/\∃g' w' es,stepG P mn g w=.go g' w' es/\Eff M w w'/\(∀e∈es,EvK Wg (orK K w w') (orK M w w') e)/\Run P mn ty Wg S (orK K w w') (orK M w w') g' w'):=by cases h with|stop h=>exact .inl (h w (.refl w))|step d h f=>obtain⟨g',w',es,a,b,c⟩:=h w (.refl w);exact .inr ⟨d,g',w',es,a,b,c,f w g' w' es (.refl w) a⟩
def Run.bind{d K M g w}(h:Run P mn ty Wg S K M g w)(e:∀K M g w,S K M g w->Run P mn ty Wg d K M g w):Run P mn ty Wg d K M g w:=by induction h with| @stop K M g w h=>exact e _ _ _ _ (h w (.refl w))|step f h j i=>exact .step f h λa g' w' es b c=>i a g' w' es b c
end
end Go.Tm
namespace Go.Tm
open Go.Conc Go.ConcN
section
variable {S:Kn} {P:Program} {fs:Array Func} {Pr:Nat->Prop}
def bE.GL{π:Ren P.globals.size}{w W Z1:xv}(h:bE S Pr π w W)(c:∀R,(∃r,π r R)->Z1.heap[R]? =W.heap[R]?)(e:∀R,Pr R->∃r,π r R)(a:W.heap.size<=Z1.heap.size):bE S Pr π w Z1:=⟨λr R b=>by rw[c R ⟨r,b⟩];exact h.obj r R b,h.xM,λR d=>Wy (h.yy R d) a,h.gw,Ww h.gW a,h.w0⟩
def Cp.GL{Post π c F CS W Z1}(h:Cp S P fs Pr Post π c F CS W)(a:∀R,(∃r,π r R)->Z1.heap[R]? =W.heap[R]?)(b:∀R,Pr R->∃r,π r R)(d:W.heap.size<=Z1.heap.size):Cp S P fs Pr Post π c F CS Z1:=⟨h.top,h.cs,h.w.GL a b d,h.flat,h.sY,h.dU⟩
def rZ(π:Ren P.globals.size)(R:Nat):Prop:=∃r,π r R
def jx.GL{c e f d k Post l m F CS}{W Z1:xv}(h:jx S P fs c d k Post e f l m F CS W) (i:∀R,rZ e R->Z1.heap[R]? =W.heap[R]?) (n:W.heap.size<=Z1.heap.size):jx S P fs c d k Post e f l m F CS Z1:=
 ⟨h.a.GL i (λR ⟨r,g⟩=>⟨r,h.la _ _ g⟩) n,h.b.GL (λR j=>i R ((h.same R).2 j)) (λR j=>j.elim) n,h.la,h.lb,h.base,λr R g=>(i R ⟨r,h.la _ _ g⟩).trans (h.old r R g),h.same⟩
def zy{π c:Ren P.globals.size}{W W':xv}(e:∀r R,c r R->π r R\/W.heap.size<=R)(f:∀R,W.heap.size<=R->R<W'.heap.size->∃r,c r R)(g:Ren.le π c)(h:∀r R,c r R->R<W'.heap.size):rZ c=orK (rZ π) W W':=by funext R;apply propext;unfold orK JX rZ;constructor;rintro⟨r,d⟩;(exact(e r R d).imp (λx=>⟨r,x⟩) λx=>⟨x,h r R d⟩);rintro(⟨r,d⟩|⟨a,b⟩);exact⟨r,g _ _ d⟩;exact f R a b
def Cx{d}{π:Ren P.globals.size}{Wg e}(h:mE d π e):EvK Wg (rZ π) (λb=>rZ π b/\¬d b) e:=by
 obtain⟨i,wr,l⟩:=e;unfold mE at h;cases i with
 |cell A=>obtain⟨rfl,c,j⟩:=h;refine⟨λx a=>?_,by simp,by simp,by simp,λB h=>by simp[MemAct.ofEvent,MemAct.touch?]at h⟩;simp[MemAct.ofEvent,MemAct.touch?]at a;subst a;exact⟨A.block,rfl,.inl ⟨rfl,c,λg=>⟨c,j g⟩⟩⟩
 |obj R=>(obtain⟨k,c,j⟩:=h;simp only at k;subst k;refine⟨λx a=>?_,by simp,by simp,by simp,λB h=>by cases wr<;>simp[MemAct.ofEvent,MemAct.touch?]at h⟩;cases wr<;>(simp[MemAct.ofEvent,MemAct.touch?]at a;subst a));exact⟨R,rfl,.inl ⟨rfl,c,λg=>by cases g⟩⟩;exact⟨R,rfl,.inl ⟨rfl,c,λg=>⟨c,j rfl⟩⟩⟩
 |mark m=>cases m with|extern f=>exact⟨λx a=>by simp[MemAct.ofEvent,MemAct.touch?]at a,by simp,by simp,by simp,λB _=>trivial⟩|noRoom=>exact⟨λx a=>by simp[MemAct.ofEvent,MemAct.touch?]at a,by simp,by simp,by simp,λB _=>trivial⟩|_=>exact h.elim
 |_=>exact h.elim
def xu(V:Tab S P fs)(n:∀f,S.stop f=false)(o:∀g,S.calm g){mn ty Wg Q d l L Post B}(q) (s:∀(i k) (C D) (F) (W),Ren.le q i->jx S P fs d l L Post i k C D F [] W->C.AtE->Run P mn ty Wg Q (rZ i) (jx.Own d i) ⟨F,B,.running,none,none⟩ W) {i k} {C D} {F} {CS} {W} (M:Ren.le q i) (h:jx S P fs d l L Post i k C D F CS W):Run P mn ty Wg Q (rZ i) (jx.Own d i) ⟨F,CS++B,.running,none,none⟩ W:=by have t:=h.a.sY.acc;induction t generalizing i k D F CS W with|intro c _ X=>by_cases E:c.AtE;have u:=h.a.cs;rw[E.1]at u;cases u;exact s _ _ _ _ _ _ M h E;refine .kW rfl λv m=>?_;(have Y:=h.GL m.keep m.size;obtain⟨z,N,G,Z,FR,aa,W',ev,hr,H,I,A,o1,o2,o3,J,j⟩:=Y.step V n o E mn;have O:=zy j.old j.new j.le λr R p=>(H.a.w.lt p).2;have T:jx.Own d z=orK (jx.Own d i) v W':=by funext b;apply propext;constructor;intro U;(obtain⟨⟨r,p⟩,_⟩:=id U;exact(o2 b U).imp id λx=>⟨x,(H.a.w.lt p).2⟩);rintro(x|⟨x,y⟩);exact o1 b x;exact o3 b x y);refine⟨_,W',ev,I B,A,λe K=>?_,?_⟩;rw[<-O,<-T];exact Cx (J e K);rw[<-O,<-T];exact X G hr (Ren.le_trans M j.le) H
end
section
variable {S:Kn} {P:Program} {fs:Array Func}
def jx.leave(I:Tab S P fs){d f s g Z Post J cB F W}(h:jx S P fs d g Z Post f s J cB F [] W)(t:J.AtE)(C B mn Wg):∃(v V:x6) (w' W':xv) (ev:Array Event) (πA':Ren P.globals.size),stepG P mn ⟨F,C::B,.running,none,none⟩ W=.go ⟨C.finish V,B,.running,none,none⟩ W' ev/\Post v w'/\aD πA' v V/\Eff (jx.Own d f) W W'/\(∀e∈ev,EvK Wg (orK (rZ f) W W') (orK (jx.Own d f) W W') e)/\(∀r R,d r R->W'.heap[R]? =g.heap[R]?)/\bE S (λR=>∃r,d r R) πA' w' W'/\Ren.le f πA':=by (have u:cB.AtE:=by rw[yp h.b];rw[yp h.a]at t;exact t);(obtain⟨_,v,V,w',W',ev,πA',a1,a2,K,a4,L,j,a7⟩:=h.a.returns I t C B mn;obtain⟨_,v2,V2,w2,W2,aa,M,b1,b2,z,b4,b5,N,b7⟩:=h.b.returns I u C B mn;rw[K]at z;simp only[GStep.go.injEq]at z;obtain⟨_,e3,_⟩:=z;subst e3;have k:∀r R,d r R->W'.heap[R]? =g.heap[R]? :=by intro r R i;obtain⟨c,Q,e,l,A,D⟩:=h.base r R i;obtain⟨F',m⟩:=j.pD R ⟨r,i⟩ Q e l (by rw[h.old r R i,D]);obtain⟨C1,F1,n,E⟩:=N.fz R Q e l (by rw[h.old r R i,D]);rw[m]at n;simp only[Xo,Obj.cells.injEq,Zp]at n;obtain⟨rfl,rfl⟩:=n;obtain⟨o,O,T,U,p⟩:=b5.obj r R (N.le _ _ (h.lb _ _ i));rw[b1 r R i,A]at T;rw[m]at U;cases T;cases U;cases p with|cells _ _ hf=>rw[m,D,Cw E (.refl _) hf]);have X:=zy j.old j.new j.le λr R G=>(L.lt G).2;refine⟨v,V,w',W',ev,πA',K,a1,a4,⟨j.os,j.tape,j.output,j.size,λb A q=>?_⟩,λe H=>?_,k,L,j.le⟩;by_cases Y:∃r,f r b;have:∃r,d r b:=XN λhx=>q ⟨Y,hx⟩;obtain⟨r,i⟩:=this;rw[k r b i,h.old r b i];exact j.keep b A Y;(have hm:(λb=>rZ πA' b/\¬∃r,d r b)=orK (jx.Own d f) W W':=by funext b;apply propext;rw[X];constructor;rintro⟨x|x,q⟩;exact .inl ⟨x,q⟩;exact .inr x;rintro(⟨x,q⟩|⟨x,y⟩);exact⟨.inl x,q⟩;refine⟨.inr ⟨x,y⟩,λ⟨r,i⟩=>?_⟩;have:=(h.a.w.lt (h.la _ _ i)).2;omega);have:=Cx (Wg:=Wg) (a7 e H);rw[hm,X]at this;exact this
end
end Go.Tm
namespace Go.Tm
open Go.Conc Go.ConcN Go.Conc.Lib
open Go.ConcR (KK WgAt stA smA rd wr mk DC0 Payload)
section
variable (P:Program) (ty:TypeId) (Wg ch:Nat) (z:x6)
def Still(S:aQ)(K M:Nat->Prop)(g:V4)(w:xv):Prop:=∃m,Goes P false (RK ty Wg K) DC0 (S K M) m g w
def SD4:aQ:=λ_ _ g w=>g.status=.running/\mayWake P g=true/\(WgAt ty Wg w 0 0->∃g',stepG P false g w=.go g' (w.setCell (smA Wg) (.int .u32 1)) (semEvents (smA Wg))/\∃q,QuitsD P q 1 g')
def SD3:aQ:=λK M g w=>g.status=.running/\(WgAt ty Wg w 1 0->∃g',stepG P false g w=.go g' (w.setCell (stA Wg) (.int .u64 0)) #[wr (stA Wg)]/\Still P ty Wg (SD4 P ty Wg) K M g' (w.setCell (stA Wg) (.int .u64 0)))
def SD2:aQ:=λK M g w=>g.status=.running/\(WgAt ty Wg w 1 0->∃g',stepG P false g w=.go g' w #[rd (stA Wg)]/\Still P ty Wg (SD3 P ty Wg) K M g' w)
def SD1:aQ:=λK M g w=>g.status=.running/\∀v a:Nat,a<=1->v<2147483647->WgAt ty Wg w ((v+1)*KK+a) 0->∃g',stepG P false g w=.go g' (w.setCell (stA Wg) (.int .u64 (v*KK+a))) #[rd (stA Wg),wr (stA Wg)]/\((v=0/\a=1)->Still P ty Wg (SD2 P ty Wg) K M g' (w.setCell (stA Wg) (.int .u64 (v*KK+a))))/\(¬(v=0/\a=1)->∃q,QuitsD P q 1 g')
def SK1:aQ:=λK M g w=>g.status=.running/\∃g',stepG P false g w=.go g' w #[mk .disable]/\Still P ty Wg (SD1 P ty Wg) K M g' w
def SR0:aQ:=λK M g w=>g.status=.running/\∃g',stepG P false g w=.go g' w #[mk (.releaseMerge (stA Wg))]/\Still P ty Wg (SK1 P ty Wg) K M g' w
def Pu(v:x6):aQ:=let _z:=z;λK M g w=>g.status=.running/\(∃es,es=(#[]:Array Event)/\stepG P false g w=.comm {g with offers:=none} #[scase ch v undef] true .send w es)/\(Run P false ty Wg) (SR0 P ty Wg) K M (Conc.served g undef) w
def SWk(a:Option x6):aQ:=λK M g w=>match a with|some v=>Pu P ty Wg ch z v K M g w|none=>SR0 P ty Wg K M g w
def closeEvents:Array Event:=#[⟨.obj ch,false,true⟩,⟨.obj ch,true,true⟩]
def SCl:aQ:=λ_ _ g w=>g.status=.running/\mayWake P g=true/\∀s r a,w.heap[ch]? =some (.chan 0 #[] false s r a)->∃g',stepG P false g w=.go g' {w with heap:=w.heap.setIfInBounds ch (.chan 0 #[] true s r a)} (closeEvents ch)/\∃q,QuitsD P q 0 g'
def RX:aQ:=λK M g w=>g.status=.running/\∃g',stepG P false g w=.go g' w #[mk (.acquire (stA Wg))]/\(Run P false ty Wg) (SCl P ch) K M g' w
def SWe:aQ:=λK M g w=>g.status=.running/\∃g',stepG P false g w=.go g' w #[mk .enable]/\(Run P false ty Wg) (RX P ty Wg ch) K M g' w
def SW4:aQ:=λK M g w=>g.status=.running/\(WgAt ty Wg w 0 0->∃g',stepG P false g w=.go g' w #[rd (stA Wg)]/\(Run P false ty Wg) (SWe P ty Wg ch) K M g' w)
def SW3:aQ:=λK M g w=>g.status=.running/\g.offers=none/\((∃st,WgAt ty Wg w st 0)->stepG P false g w=.go {g with status:=.blocked} w #[])/\(WgAt ty Wg w 0 1->∃g',stepG P false g w=.go g' (w.setCell (smA Wg) (.int .u32 0)) (semEvents (smA Wg))/\(Run P false ty Wg) (SW4 P ty Wg ch) K M g' (w.setCell (smA Wg) (.int .u32 0)))
def SSw:aQ:=λK M g w=>g.status=.running/\∃g',stepG P false g w=.go g' w #[mk (.write (smA Wg))]/\(Run P false ty Wg) (SW3 P ty Wg ch) K M g' w
variable (An:aQ)
def SW2(a:Nat):aQ:=λK M g w=>g.status=.running/\∀v:Nat,v<2147483648->WgAt ty Wg w (v*KK) 0->
 (v=a->∃g',stepG P false g w=.go g' (w.setCell (stA Wg) (.int .u64 (v*KK+1))) #[rd (stA Wg),wr (stA Wg)]/\(Run P false ty Wg) (SSw P ty Wg ch) K M g' (w.setCell (stA Wg) (.int .u64 (v*KK+1))))/\
 (v≠a->∃g',stepG P false g w=.go g' w #[rd (stA Wg)]/\(Run P false ty Wg) An K M g' w)
def SW1:aQ:=λK M g w=>g.status=.running/\∀v:Nat,v<2147483648->WgAt ty Wg w (v*KK) 0->∃g',stepG P false g w=.go g' w #[rd (stA Wg)]/\(v=0->(Run P false ty Wg) (SWe P ty Wg ch) K M g' w)/\(v≠0->(Run P false ty Wg) (SW2 P ty Wg ch An v) K M g' w)
def SWd:aQ:=λK M g w=>g.status=.running/\∃g',stepG P false g w=.go g' w #[mk .disable]/\(Run P false ty Wg) (SW1 P ty Wg ch An) K M g' w
variable (HV:Nat->Option x6) (Fin:List x6->aQ) (n:Nat)
def qi:Nat->List x6->aQ
 |0,a=>λK M g w=>g.status=.running/\stepG P true g w=.comm {g with offers:=none} #[rcase ch z] true (.recv true) w #[]/\Fin a K M (Conc.served g (.tuple #[z,.bool false])) w
 |r+1,a=>λK M g w=>g.status=.running/\stepG P true g w=.comm {g with offers:=none} #[rcase ch z] true (.recv true) w #[]/\Fin a K M (Conc.served g (.tuple #[z,.bool false])) w/\∀i v,i<n->HV i=some v->(Run P true ty Wg) (qi r (a++[v])) K M (Conc.served g (.tuple #[v,.bool true])) w
def Mx:aQ:=λK M g w=>g.status=.running/\∃g' a Kc,stepG P true g w=.spawn g' a w #[]/\a.status=.running/\a.offers=none/\(∀b,Kc b->K b)/\(Run P false ty Wg) (SWd P ty Wg ch An) Kc (λ_=>False) a w/\(Run P true ty Wg) (qi P ty Wg ch z HV Fin n n []) K (λ_=>False) g' w
def SGo(r:Nat)(Nx:aQ):aQ:=λK M g w=>g.status=.running/\∃g' a Kc,stepG P true g w=.spawn g' a w #[]/\a.status=.running/\a.offers=none/\(∀b,Kc b->K b)/\(Run P false ty Wg) (SWk P ty Wg ch z (HV (n-(r+1)))) Kc (λ_=>False) a w/\(Run P true ty Wg) Nx K (λ_=>False) g' w
def SKe(r:Nat)(Nx:aQ):aQ:=λK M g w=>g.status=.running/\∃g',stepG P true g w=.go g' w #[mk .enable]/\(Run P true ty Wg) (SGo P ty Wg ch z HV n r Nx) K M g' w
def SSr(r:Nat)(Nx:aQ):aQ:=λK M g w=>g.status=.running/\∃g',stepG P true g w=.go g' w #[mk (.read (smA Wg))]/\(Run P true ty Wg) (SKe P ty Wg ch z HV n r Nx) K M g' w
def SA1(r:Nat)(Nx:aQ):aQ:=λK M g w=>g.status=.running/\∀v:Nat,v<2147483647->WgAt ty Wg w (v*KK) 0->∃g',stepG P true g w=.go g' (w.setCell (stA Wg) (.int .u64 ((v+1)*KK))) #[rd (stA Wg),wr (stA Wg)]/\((Run P true ty Wg) (SSr P ty Wg ch z HV n r Nx) K M g' (w.setCell (stA Wg) (.int .u64 ((v+1)*KK)))\/(Run P true ty Wg) (SKe P ty Wg ch z HV n r Nx) K M g' (w.setCell (stA Wg) (.int .u64 ((v+1)*KK))))
def SKd(r:Nat)(Nx:aQ):aQ:=λK M g w=>g.status=.running/\∃g',stepG P true g w=.go g' w #[mk .disable]/\(Run P true ty Wg) (SA1 P ty Wg ch z HV n r Nx) K M g' w
def SSp:Nat->aQ
 |0=>Mx P ty Wg ch z An HV Fin n
 |r+1=>SKd P ty Wg ch z HV n r (SSp r)
end
section
variable {P:Program} {ty:TypeId} {Wg ch:Nat} {z:x6}
def RK.rl{K w w₁}(h:RK ty Wg K w w₁):RL ty Wg w w₁:=h.live
section worker
variable [Payload] {C n0:Nat} {K M:Nat->Prop} {v:x6}
def RK.rw{w w₁}(c:K C)(h:RK ty Wg K w w₁):RW ty Wg C n0 0 0 w w₁:=⟨λb d=>absurd d (WM _),h.live,λ⟨cs,a,b⟩=>⟨cs,(h.keep C c).trans a,b⟩,cell_of_block (h.keep C c) 0⟩
omit [Payload]in
def Pv{mn}{R R':xv->xv->Prop}{D}{f c:V4->xv->Prop}(e:∀w a,R' w a->R w a)(i:∀g w,f g w->c g w):∀{m} {g} {w},Goes P mn R D f m g w->Goes P mn R' D c m g w:=by intro m;induction m with|zero=>exactλh a b=>i _ _ (h a (e _ _ b))|succ m j=>intro g w h;obtain h|⟨k,h⟩:=h;exact .inl λa b=>i _ _ (h a (e _ _ b));refine .inr ⟨k,λa b=>?_⟩;have:=h a (e _ _ b);cases d:stepG P mn g a with|go g' w' es=>rw[d,goes_go]at this;rw[goes_go];exact⟨this.1,j this.2⟩|_=>rw[d]at this;exact this.elim
def nT{a}{S:aQ}(b:K C){g w}(h:∃m,Goes P false (RW ty Wg C n0 0 0) DC0 a m g w)(c:∀g w,a g w->S K M g w):Still P ty Wg S K M g w:=let⟨m,h⟩:=h;⟨m,Pv (λ_ _ r=>r.rw b) c h⟩
def Vh(c:K C)(g w)(h:AtD3 P ty Wg C n0 0 1 g w):SD3 P ty Wg K M g w:=⟨h.1,λx=>let⟨g',a,b⟩:=h.2 x;⟨g',a,nT c b λ_ _ y=>y⟩⟩
def Vi(c:K C)(g w)(h:AtD2 P ty Wg C n0 0 1 g w):SD2 P ty Wg K M g w:=⟨h.1,λx=>let⟨g',a,b⟩:=h.2 x;⟨g',a,nT c b (Vh c)⟩⟩
def Vj(d:K C)(g w)(h:AtD1 P ty Wg C n0 0 1 g w):SD1 P ty Wg K M g w:=⟨h.1,λv f i j k=>let⟨g',a,b,c⟩:=h.2 v f i j k;⟨g',a,λe=>nT d (b e) (Vi d),c⟩⟩
def Vk(c:K C)(g w)(h:AtK1 P ty Wg C n0 0 1 g w):SK1 P ty Wg K M g w:=⟨h.1,let⟨g',a,b⟩:=h.2;⟨g',a,nT c b (Vj c)⟩⟩
def Vl(c:K C)(g w)(h:AtR0 P ty Wg C n0 0 1 v g w):SR0 P ty Wg K M g w:=⟨h.1,let⟨g',a,b⟩:=h.2.2;⟨g',a,nT c b (Vk c)⟩⟩
end worker
end
end Go.Tm
namespace Go.Tm
open Go.Conc Go.ConcN
section
variable (P:Program) (ty:TypeId) (Wg:Nat)
structure RC where
 mn:Bool
 S:aQ
 c:Cfg
 acc:Acc (Nxt P mn ty Wg S) c
def RC.lt(a b:RC P ty Wg):Prop:=a.mn=b.mn/\a.S=b.S/\Nxt P b.mn ty Wg b.S a.c b.c
def RC.wf:WellFounded (RC.lt P ty Wg):=⟨λ⟨mn,S,c,acc⟩=>by (have key:∀c,(h:Acc (Nxt P mn ty Wg S) c)->Acc (RC.lt P ty Wg) ⟨mn,S,c,h⟩:=by intro c h;induction h with|intro c f d=>refine⟨_,?_⟩;rintro⟨e,i,c',a⟩ ⟨e1,b,h⟩;simp only at e1 b h;subst e1;subst b;exact d c' h);exact key c acc⟩
abbrev Rk:=Nat×Nat×RC P ty Wg
def Rk.lt:Rk P ty Wg->Rk P ty Wg->Prop:=Prod.Lex (· < ·) (Prod.Lex (· < ·) (RC.lt P ty Wg))
def Rk.wf:WellFounded (Rk.lt P ty Wg):=(Prod.lex Nat.lt_wfRel (Prod.lex Nat.lt_wfRel ⟨_,RC.wf P ty Wg⟩)).wf
structure dj(mn:Bool)(S:aQ)(K M:Nat->Prop)(g:V4)(w:xv)(x:RC P ty Wg):Prop where
 mn_:x.mn=mn
 S_:x.S=S
 K_:x.c.K=K
 M_:x.c.M=M
 g_:x.c.g=g
 rk:RK ty Wg K x.c.w w
 run:Run P mn ty Wg S K M g x.c.w
end
section
variable {P:Program} {ty:TypeId} {Wg:Nat} {mn:Bool} {S:aQ} {K M:Nat->Prop} {g:V4} {w w₁:xv}
def dj.of(h:Run P mn ty Wg S K M g w):∃x,dj P ty Wg mn S K M g w x:=⟨⟨mn,S,⟨K,M,g,w⟩,h.acc⟩,rfl,rfl,rfl,rfl,rfl,.refl _,h⟩
def dj.rely{x}(h:dj P ty Wg mn S K M g w x)(r:RK ty Wg K w w₁):dj P ty Wg mn S K M g w₁ x:={h with rk:=h.rk.trans r}
def dj.now{x}(h:dj P ty Wg mn S K M g w x):Run P mn ty Wg S K M g w:=h.run.rely h.rk
def dj.rY{x}(h:dj P ty Wg mn S K M g w x):S K M g w\/(g.status=.running/\∃g' w' es k,stepG P mn g w=.go g' w' es/\Eff M w w'/\(∀e∈es,EvK Wg (orK K w w') (orK M w w') e)/\dj P ty Wg mn S (orK K w w') (orK M w w') g' w' k/\RC.lt P ty Wg k x):=by by_cases l:AtS ty Wg S x.c;left;have:=l w (by rw[h.K_];exact h.rk);rw[h.K_,h.M_,h.g_]at this;exact this;have n:=h.run;cases n with|stop i=>exact .inl (i w h.rk)|step d f j=>obtain⟨g',w',es,a,b,c⟩:=f w h.rk;have m:=j w g' w' es h.rk a;refine .inr ⟨d,g',w',es,⟨mn,S,⟨_,_,g',w'⟩,m.acc⟩,a,b,c,⟨rfl,rfl,rfl,rfl,rfl,.refl _,m⟩,h.mn_.symm,h.S_.symm,?_⟩;have e1:=h.mn_;have o:=h.S_;have e3:=h.K_;have e4:=h.M_;have e5:=h.g_;refine⟨by rw[o];exact l,w,g',w',es,by rw[e3];exact h.rk,by rw[e1,e5];exact a,by rw[e3,e4]⟩
def dj.nu{x}(h:dj P ty Wg mn S K M g w x):(∀w₁,RK ty Wg K w w₁->S K M g w₁)\/(g.status=.running/\∃g' w' es l,stepG P mn g w=.go g' w' es/\Eff M w w'/\(∀e∈es,EvK Wg (orK K w w') (orK M w w') e)/\dj P ty Wg mn S (orK K w w') (orK M w w') g' w' l/\RC.lt P ty Wg l x):=by by_cases m:AtS ty Wg S x.c;left;intro w₁ d;have:=m w₁ (by rw[h.K_];exact h.rk.trans d);rw[h.K_,h.M_,h.g_]at this;exact this;have o:=h.run;cases o with|stop j=>exact .inl λw₁ d=>j w₁ (h.rk.trans d)|step f i k=>obtain⟨g',w',es,a,b,c⟩:=i w h.rk;have n:=k w g' w' es h.rk a;refine .inr ⟨f,g',w',es,⟨mn,S,⟨_,_,g',w'⟩,n.acc⟩,a,b,c,⟨rfl,rfl,rfl,rfl,rfl,.refl _,n⟩,h.mn_.symm,h.S_.symm,?_⟩;have e1:=h.mn_;have p:=h.S_;have e3:=h.K_;have e4:=h.M_;have e5:=h.g_;refine⟨by rw[p];exact m,w,g',w',es,by rw[e3];exact h.rk,by rw[e1,e5];exact a,by rw[e3,e4]⟩
def dj.status(a:∀K M g w,S K M g w->g.status=.running){x}(h:dj P ty Wg mn S K M g w x):g.status=.running:=by obtain h|h:=h.rY;exact a _ _ _ _ h;exact h.1
end
section
variable {P:Program} {mn:Bool} {ty:TypeId} {Wg:Nat} {S:aQ} {K M:Nat->Prop} {w:xv} {b:Frame} {a:Act} {k:List Item} {cs:List Frame} {ops:Array Oper} {i:Nat} {rest:List Nat} {o:Oper}
def Run.still{g g'}(e:g.status=.running)(h:∀c,stepG P mn g c=.go g' c #[])(f:(Run P mn ty Wg S) K M g' w):(Run P mn ty Wg S) K M g w:=.kW e λc d=>⟨g',c,#[],h c,Eff.refl _ _,by simp,by rw[db rfl,db rfl];exact f.rely d⟩
def Run.value(f:ops[i]? =some o)(g:Region.wanted o (yielded ops a.tmps)=true)(j:b.kind≠ .early) (h:∀c,RK ty Wg K w c->∃v w',(execOp a.eval o).run P c=.ok (.value v) w'/\Eff M c w'/\(∀e∈(execOp a.eval o).events P c #[],EvK Wg (orK K c w') (orK M c w') e)/\(Run P mn ty Wg S) (orK K c w') (orK M c w') (G (b.at (a.put o.dst v) (.inRegion ops rest::k)) cs) w'):(Run P mn ty Wg S) K M (G (b.at a (.inRegion ops (i::rest)::k)) cs) w:=
 .kW rfl λc d=>by obtain⟨v,w',l,m,n,p⟩:=h c d;exact⟨_,w',_,stepG_value f g j l,m,λe q=>n e (mem_seen q),p⟩
def Run.none(f:ops[i]? =some o)(g:Region.wanted o (yielded ops a.tmps)=true)(j:b.kind≠ .early) (h:∀c,RK ty Wg K w c->∃w',(execOp a.eval o).run P c=.ok .skip w'/\Eff M c w'/\(∀e∈(execOp a.eval o).events P c #[],EvK Wg (orK K c w') (orK M c w') e)/\(Run P mn ty Wg S) (orK K c w') (orK M c w') (G (b.at (a.put o.dst undef) (.inRegion ops rest::k)) cs) w'):(Run P mn ty Wg S) K M (G (b.at a (.inRegion ops (i::rest)::k)) cs) w:=
 .kW rfl λc d=>by obtain⟨w',l,m,n,p⟩:=h c d;exact⟨_,w',_,stepG_none f g j l,m,λe q=>n e (mem_seen q),p⟩
def Run.pure(v)(e:ops[i]? =some o)(f:Region.wanted o (yielded ops a.tmps)=true)(g:b.kind≠ .early)(h:∀c,(execOp a.eval o).run P c=.ok (.value v) c)(j:∀c,(execOp a.eval o).events P c #[]=#[]) (l:(Run P mn ty Wg S) K M (G (b.at (a.put o.dst v) (.inRegion ops rest::k)) cs) w):(Run P mn ty Wg S) K M (G (b.at a (.inRegion ops (i::rest)::k)) cs) w:=
 .value e f g λc d=>⟨v,c,h c,Eff.refl _ _,by rw[j];simp,by rw[db rfl,db rfl];exact l.rely d⟩
def Hd{t:TypeId}{d:TypeDesc}(c:P.underlying t=some d)(w:xv):(isAgg t).run P w=.ok (match d with| .struct _| .array _ _=>true|_=>false) w:=by unfold isAgg;rw[Sem.run_bind,run_underlying c w];cases d<;>simp
def zL{t d}(c:P.underlying t=some d)(w es):(isAgg t).events P w es=es:=by unfold isAgg underlying;simp only[Sem.events_bind];simp[c];cases d<;>simp
def um{K M A}(h:K A.block):EvK Wg K M ⟨.cell A,false,false⟩:=by refine⟨λx c=>?_,by simp,by simp,by simp,λB h=>by simp[MemAct.ofEvent,MemAct.touch?]at h⟩;simp[MemAct.ofEvent,MemAct.touch?]at c;subst c;exact⟨A.block,rfl,.inl ⟨rfl,h,λe=>by cases e⟩⟩
def CL{K M A}(h:K A.block)(d:M A.block):EvK Wg K M ⟨.cell A,true,false⟩:=by refine⟨λx c=>?_,by simp,by simp,by simp,λB h=>by simp[MemAct.ofEvent,MemAct.touch?]at h⟩;simp[MemAct.ofEvent,MemAct.touch?]at c;subst c;exact⟨A.block,rfl,.inl ⟨rfl,h,λ_=>d⟩⟩
def Run.He(q:ops[i]? =some o)(r:Region.wanted o (yielded ops a.tmps)=true)(s:b.kind≠ .early){t:TypeId}{x:Operand}(g:o.op=.load t x){A:Addr}(m:a.eval x=.pointer (some A))(z:A.spot=Option.none){d:TypeDesc}(n:P.underlying t=some d)(u:(match d with| .struct _| .array _ _=>true|_=>false)=false) (h:K A.block) {v:x6} (p:w.cell? A=some v) (y:(Run P mn ty Wg S) K M (G (b.at (a.put o.dst v) (.inRegion ops rest::k)) cs) w):(Run P mn ty Wg S) K M (G (b.at a (.inRegion ops (i::rest)::k)) cs) w:=by (have f:∀w₁,(isAgg t).run P w₁=.ok false w₁:=λw₁=>by rw[Hd n w₁,u]);(refine .value q r s λw₁ c=>⟨v,w₁,?_,Eff.refl _ _,?_,by rw[db rfl,db rfl];exact y.rely c⟩);(have j:w₁.cell? A=some v:=by rw[<-p];unfold World.cell?;rw[c.keep A.block h]);unfold execOp;simp[g,m,Instr.loadAt,Instr.sureAddr,loadVar,Sem.run_bind,f,j];(have j:w₁.cell? A=some v:=by rw[<-p];unfold World.cell?;rw[c.keep A.block h]);rw[db rfl,db rfl];intro e l;unfold execOp at l;simp[g,m,Instr.loadAt,Instr.sureAddr,loadVar,Sem.events_bind,f,zL n,j]at l;subst l;exact um h
theorem gF(A)(f:A.spot=Option.none):∀(n i) (acc) (w) (es),(∀j,j<n->(w.cell? (A.add (i+j))).isSome)->∀e∈(loadCellsFrom A i n acc).events P w es,e∈es\/∃B,B.block=A.block/\e=(⟨.cell B,false,false⟩:Event)
 |0,i,acc,w,es,_=>λe c=>.inl (by simpa[loadCellsFrom]using c)
 |n+1,i,acc,w,es,h=>λe c=>by
  obtain⟨v,d⟩:=aaD.1 (h 0 (by omega));rw[XE]at d;simp only[loadCellsFrom,Sem.events_bind,run_load,d,Result.evThen_ok,events_load]at c;have g:(A.add i).block=A.block:=by unfold Addr.add;split<;>rfl
  rcases gF A f n (i+1) _ w _ (λj l=>by have:=h (j+1) (by omega);rwa[show i+(j+1)=i+1+j by omega]at this) e c with h1|h1
  .obtain h1|rfl:=Y1.1 h1
   .exact .inl h1
   .exact .inr ⟨_,g,rfl⟩
  .exact .inr h1
def Run.uo(D:ops[i]? =some o)(E:Region.wanted o (yielded ops a.tmps)=true)(F:b.kind≠ .early){t:TypeId}{x:Operand}(m:o.op=.load t x){g:Nat}(y:a.eval x=.pointer (some ⟨g,0,Option.none⟩)){d:TypeDesc}(r:P.underlying t=some d) (z:(match d with| .struct _| .array _ _=>true|_=>false)=true) (s:K g) {e:TypeId} {c:WZ} {fr:Nat×Nat} (A:w.heap[g]? =some (.cells c e fr)) (C:(P.info? t).map (·.size)=some c.size) (H:(Run P mn ty Wg S) K M (G (b.at (a.put o.dst (.agg c)) (.inRegion ops rest::k)) cs) w):(Run P mn ty Wg S) K M (G (b.at a (.inRegion ops (i::rest)::k)) cs) w:=by (refine .value D E F λw₁ f=>⟨.agg c,w₁,?_,Eff.refl _ _,?_,by rw[db rfl,db rfl];exact H.rely f⟩);have h:=(f.keep g s).trans A;unfold execOp;simp[m,y,Instr.loadAt,Instr.sureAddr,run_loadVar_row w₁ g e t c fr d h r z C];have h:=(f.keep g s).trans A;(rw[db rfl,db rfl];intro ev u;have n:(isAgg t).run P w₁=.ok true w₁:=by rw[Hd r w₁,z]);(obtain⟨inf,p,v⟩:=Xb.1 C;unfold execOp at u;simp[m,y,Instr.loadAt,Instr.sureAddr,loadVar,Sem.events_bind,n,zL r,sizeOf,typeInfo,p,v]at u;have l:∀j,j<c.size->(w₁.cell? ((⟨g,0,Option.none⟩:Addr).add (0+j))).isSome:=λj I=>by (have q:(⟨g,0,Option.none⟩:Addr).add (0+j)=⟨g,j,Option.none⟩:=by unfold Addr.add;split<;>simp_all);rw[q,cell_of_row w₁ g j c e fr h];simp[I]);have:=gF (P:=P) ⟨g,0,Option.none⟩ rfl _ 0 #[] w₁ #[] l ev u;obtain J|⟨B,L,rfl⟩:=this;simp at J;exact um (by rw[L];exact s)
def Run.fresh{ob}(v:Nat->x6)(n:ops[i]? =some o)(p:Region.wanted o (yielded ops a.tmps)=true)(q:b.kind≠ .early) (r:∀w₁,(execOp a.eval o).run P w₁=.ok (.value (v w₁.heap.size)) {w₁ with heap:=w₁.heap.push ob}) (s:∀w₁,(execOp a.eval o).events P w₁ #[]=#[]) (t:∀(m) (w'),w.heap.size<=m->(∀b,K b->w'.heap[b]? =w.heap[b]?)->w'.heap[m]? =some ob->w'.heap.size=m+1->(WgLive ty Wg w->WgLive ty Wg w')->(Run P mn ty Wg S) (λb=>K b\/b=m) (λb=>M b\/b=m) (G (b.at (a.put o.dst (v m)) (.inRegion ops rest::k)) cs) w') (l:∀b,K b->b<w.heap.size):(Run P mn ty Wg S) K M (G (b.at a (.inRegion ops (i::rest)::k)) cs) w:=by (refine .value n p q λw₁ c=>?_;have e:({w₁ with heap:=w₁.heap.push ob}:xv).heap.size=w₁.heap.size+1:=by simp);(have f:∀X:Nat->Prop,orK X w₁ {w₁ with heap:=w₁.heap.push ob}=λb=>X b\/b=w₁.heap.size:=by intro X;funext b;apply propext;unfold orK JX;rw[e];constructor;rintro(h|⟨x,y⟩);exact .inl h;exact .inr (by omega);rintro(h|rfl);exact .inl h;exact .inr ⟨Wv _,by omega⟩);(have d:∀b,b<w₁.heap.size->(w₁.heap.push ob)[b]? =w₁.heap[b]? :=λb g=>by rw[Xx,Wt (by omega)]);refine⟨_,_,r w₁,⟨rfl,rfl,rfl,by omega,λb g _=>d b g⟩,by rw[s];simp,?_⟩;rw[f,f];refine t w₁.heap.size _ c.size (λb g=>(d b (Wy (l b g) c.size)).trans (c.keep b g)) (by simp) e λu=>?_;obtain⟨st,sm,j⟩:=c.live u;refine⟨st,sm,j.of_block (d Wg ?_)⟩;exact(WC.1 (show w₁.heap[Wg]? =some _ from j)).1
end
section
variable {P:Program}
def setRow_size(w:xv)(g c):(w.setRow g c).heap.size=w.heap.size:=by unfold World.setRow;simp
def ql(w:xv)(g b c)(h:b≠g):(w.setRow g c).heap[b]? =w.heap[b]? :=by unfold World.setRow;simp only[];rw[XB,Wt (WT h)]
def setRow_os(w:xv)(g c):(w.setRow g c).os=w.os/\(w.setRow g c).tape=w.tape/\(w.setRow g c).output=w.output:=by exact⟨rfl,rfl,rfl⟩
def EF(g t):∀(c) (i) (cur) (w) (es),w.heap[g]? =some (.cells cur t (0,0))->i+c.length<=cur.size->(∀v∈c,v.oneCell'=true)->∀ev∈(storeCells ⟨g,0,none⟩ c i).events P w es,ev∈es\/∃B,B.block=g/\ev=(⟨.cell B,true,false⟩:Event):=by intro c;induction c with|nil=>intro i cur w es _ _ _ ev h;exact .inl (by simpa[storeCells]using h)|cons v c r=>(intro i cur w es e j l ev h;have s:i<cur.size:=by simp at j;omega);(have m:(⟨g,0,none⟩:Addr).add i=⟨g,i,none⟩:=by unfold Addr.add;split<;>simp_all);(have n:=l v (by simp);have p:w.cell? ⟨g,i,none⟩=some cur[i]:=by simp[World.cell?,e,s]);(have q:w.frozen? ⟨g,i,none⟩=false:=by simp[World.frozen?,e]);(have d:(store ((⟨g,0,none⟩:Addr).add i) v).run P w=.ok () (w.setRow g (cur.setIfInBounds i v)):=by rw[m,run_store P w _ v _ n,p];simp[q,setCell_eq_setRow w g i cur t (0,0) v e]);(have f:(store ((⟨g,0,none⟩:Addr).add i) v).events P w es=es.push ⟨.cell ⟨g,i,none⟩,true,false⟩:=by rw[m,events_store P w es _ v _ n,p];simp only[q,WW,WU];rfl);simp only[storeCells,Sem.events_bind,d,Result.evThen_ok,f]at h;rcases r (i+1) _ _ _ (setRow_heap w g cur _ t _ e) (by simp at j⊢;omega) (λx u=>l x (by simp[u])) ev h with h2|h2;obtain h2|rfl:=Y1.1 h2;exact .inl h2;exact .inr ⟨_,rfl,rfl⟩;exact .inr h2
variable {mn:Bool} {ty:TypeId} {Wg:Nat} {S:aQ} {K M:Nat->Prop} {w:xv} {b:Frame} {a:Act} {k:List Item} {cs:List Frame} {ops:Array Oper} {i:Nat} {rest:List Nat} {o:Oper}
def zQ(t A v):storeVar t A v=storeVar t A (.agg v.cells):=by unfold storeVar;rfl
def Run.store(J:ops[i]? =some o)(L:Region.wanted o (yielded ops a.tmps)=true)(N:b.kind≠ .early){t x y}(l:o.op=.store t x y){g}(A:a.eval x=.pointer (some ⟨g,0,Option.none⟩)){e old cells}(C:(a.eval y).cells=cells) (O:w.heap[g]? =some (.cells old e (0,0))) (D:(P.info? t).map (·.size)=some cells.size) (m:old.size=cells.size) (E:cells.all (·.oneCell')=true) (F:K g) (H:M g) (r:g≠Wg) (Q:∀w',(∀b,K b->b≠g->w'.heap[b]? =w.heap[b]?)->w'.heap[g]? =some (.cells cells e (0,0))->w.heap.size<=w'.heap.size->(WgLive ty Wg w->WgLive ty Wg w')->Run P mn ty Wg S K M (G (b.at (a.put o.dst undef) (.inRegion ops rest::k)) cs) w'):Run P mn ty Wg S K M (G (b.at a (.inRegion ops (i::rest)::k)) cs) w:=by refine .none J L N λc d=>?_;have h:=(d.keep g F).trans O;have n:=run_storeVar_row (P:=P) c g e t old cells h D m E;have f:=setRow_size c g cells;refine⟨c.setRow g cells,?_,⟨(setRow_os _ _ _).1,(setRow_os _ _ _).2.1,(setRow_os _ _ _).2.2,by omega,λI _ s=>ql _ _ _ _ λe=>s (e▸H)⟩,λev j=>?_,?_⟩;unfold execOp;simp only[l,A,Instr.storeAt,Instr.sureAddr];simp[Sem.run_bind,zQ t _ (a.eval y),C,n];unfold execOp at j;obtain⟨inf,p,q⟩:=Xb.1 D;simp[l,A,Instr.storeAt,Instr.sureAddr,Sem.events_bind,storeVar,C,sizeOf,typeInfo,p,q]at j;rcases EF g e cells.toList 0 old c #[] h (by simp;omega) (λv R=>(Array.all_eq_true_iff_forall_mem.1 E) v (by simpa using R)) ev j with h2|⟨B,hB,rfl⟩;simp at h2;rw[db f,db f];exact CL (by rw[hB];exact F) (by rw[hB];exact H);rw[db f,db f];refine Q _ (λI s u=>(ql _ _ _ _ u).trans (d.keep I s)) (setRow_heap c g old _ e _ h) (by rw[f];exact d.size) λT=>?_;obtain⟨st,sm,z⟩:=d.live T;exact⟨st,sm,z.of_block (ql _ _ _ _ (WT r))⟩
end
end Go.Tm

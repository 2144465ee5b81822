import Derived.Conc.WgGenN3
import Derived.Conc.Beside
import Derived.Conc.CrowdTrace
import Derived.Conc.WgGenN2
import Derived.Conc.Comm2
import Derived.Conc.Own4
import Derived.Conc.Own5
import Derived.Laws.Rows
import Derived.Conc.AppendEvents
import Derived.Conc.AppendWalk
import Derived.Test.YtaglpcmhopjebaaGreatDoorY2
set_option linter.all false
set_option maxRecDepth 100000
set_option maxHeartbeats 20000000
namespace Go.Tm
def Kept(w0 w:x6):Prop:=w.heap.size=w0.heap.size/\∀b:Nat,w.heap[b]? =w0.heap[b]? \/w.heap[b]? =some (.deferred none)
def Kept.refl(w):Kept w w:=⟨rfl,λ_=>.inl rfl⟩
inductive yC(G:Nat)(w0:x6)(ch0:List PanicEntry):Machine->Prop
 |up {fr:Frame} {cs:List Frame} {w:x6} (π:Ren G):fr.mode=.panicking ch0->(∀f∈fr::cs,Marks π f)->Dp π w->(∀f∈cs,f.mode=.run\/f.mode=.returning)->Kept w0 w->yC G w0 ch0 (lone fr (cs++[aG]) w)
 |low (ch) (w:x6):yC G w0 ch0 (lone {aG with mode:=.panicking ch} [] w)
def Oc{G w0 ch0 m}(h:yC G w0 ch0 m){fr w}(e:m=lone fr [aG] w):fr.mode=.panicking ch0/\Kept w0 w:=by cases h with| @up fr' cs w' π c _ _ _ b=>have a:=jP e;have d:=a.2.1;simp at d;obtain⟨rfl,_,rfl⟩:=a;exact⟨c,b⟩|low ch w'=>simp only[lone,Machine.mk.injEq]at e;have a:=e.2.1;simp at a
def ID{G w0 ch0 P m}(h:yC G w0 ch0 m):(∃o w,step P m=.ended o w)\/∃m',step P m=.next m'/\yC G w0 ch0 m':=by
 cases h with
 |low ch w=>refine .inl ⟨_,_,step_lone_ended (o:=?_) (w':=w) ?_⟩;rotate_left;simp[stepG,unwind,callDeferred,aG,GStep.bare];rfl
 | @up fr cs w π p q s a i=>
  have j:=q fr (.head _);cases d:fr.defers with
  |nil=>
   by_cases g:fr.catches P=true
   .refine .inl ⟨_,_,step_lone_ended (o:=?_) (w':=w) ?_⟩;(rotate_left);simp[stepG,unwind,d,p,g,GStep.bare];rfl
   cases cs with|nil=>refine .inr ⟨_,step_lone_go (fr':={aG with mode:=.panicking ch0}) (cs':=[]) (w':=w) ?_,.low _ w⟩;simp[stepG,unwind,d,p,g,GStep.bare,Frame.raise,aG]|cons c cs=>have u:=q c (.tail _ (.head _));refine .inr ⟨_,step_lone_go (fr':=c.raise ch0) (cs':=cs++[aG]) (w':=w) ?_,?_⟩;simp[stepG,unwind,d,p,g,GStep.bare];(have e:c.raise ch0={c with mode:=.panicking ch0}:=by unfold Frame.raise;rcases a c (.head _)with x|x<;>rw[x]);rw[e];refine .up π rfl (λf j=>?_) s (λf j=>a f (.tail _ j)) i;cases j with|head=>exact u|tail _ j=>exact q f (.tail _ (.tail _ j))
  |cons D ds=>obtain⟨r,R,rfl,v⟩:=j D (by rw[d];exact .head _);have l:=EV P r w λo k=>s r R o v k;obtain e|⟨x,w',e⟩:=l;refine .inr ⟨_,step_lone_go (fr':={fr with defers:=ds}) (cs':=cs++[aG]) (w':={w with heap:=w.heap.setIfInBounds r (.deferred none)}) ?_,?_⟩;simp only[stepG,p,unwind,d,e];rfl;refine .up π p (λf n=>?_) ?_ a ⟨by simpa using i.1,λb=>?_⟩;(cases n with|head=>exactλD y=>j D (by rw[d];exact .tail _ y)|tail _ n=>exact q f (.tail _ n));intro z R' o t k;simp only[Vz]at k;split at k;split at k;cases k;exact .inl rfl;cases k;exact s z R' o t k;simp only[Vz];split;split;exact .inr rfl;rename_i A B;subst A;refine .inl ?_;rw[eq_comm,Array.getElem?_eq_none_iff,<-i.1];omega;exact i.2 b;refine .inl ⟨_,_,step_lone_ended (o:=?_) (w':=w') ?_⟩;(rotate_left);simp only[stepG,p,unwind,d,e];rfl
def FH{G w0 ch0 P}:∀(n) {m},yC G w0 ch0 m->∀{fr} {w},runN P n m=.next (lone fr [aG] w)->fr.mode=.panicking ch0/\Kept w0 w:=by intro n;induction n with|zero=>intro m h fr w e;exact Oc h (by simpa[runN]using e)|succ n c=>(intro m h fr w e;unfold runN at e;rcases ID (P:=P) h with⟨o,w',a⟩|⟨d,a,b⟩);rw[a]at e;cases e;rw[a]at e;exact c b e
end Go.Tm
namespace Go.Tm
open Go.Conc Go.ConcN Go.RowKit Go.Conc.Lib Go.ConcR.Gen Go.ConcN.Gen
open Go.ConcR (KK wgBlock WgAt stA smA rd wr mk Payload Aside2 DC0)
def RL(ty:TypeId)(Wg:Nat)(w a:x6):Prop:=WgLive ty Wg w->WgLive ty Wg a
def xl{ty Wg w i1}(h:WgLive ty Wg w)(r:RL ty Wg w i1):WgLive ty Wg i1:=r h
section
variable (P:Program) (mn:Bool) (ty:TypeId) (Wg:Nat) (Fin:Zx->x6->Prop)
def XKe(g:Zx)(w:x6):Prop:=g.status=.running/\∃g',stepG P mn g w=.go g' w #[mk .enable]/\∃m,(Goes P mn (RL ty Wg) DC0) Fin m g' w
def XSr(g:Zx)(w:x6):Prop:=g.status=.running/\∃g',stepG P mn g w=.go g' w #[mk (.read (smA Wg))]/\∃m,(Goes P mn (RL ty Wg) DC0) (XKe P mn ty Wg Fin) m g' w
def XA1(g:Zx)(w:x6):Prop:=g.status=.running/\∀v:Nat,v<2147483647->WgAt ty Wg w (v*KK) 0->∃g',stepG P mn g w=.go g' (w.setCell (stA Wg) (.int .u64 ((v+1)*KK))) #[rd (stA Wg),wr (stA Wg)]/\((∃m,(Goes P mn (RL ty Wg) DC0) (XSr P mn ty Wg Fin) m g' (w.setCell (stA Wg) (.int .u64 ((v+1)*KK))))\/∃m,(Goes P mn (RL ty Wg) DC0) (XKe P mn ty Wg Fin) m g' (w.setCell (stA Wg) (.int .u64 ((v+1)*KK))))
def XKd(g:Zx)(w:x6):Prop:=g.status=.running/\∃g',stepG P mn g w=.go g' w #[mk .disable]/\∃m,(Goes P mn (RL ty Wg) DC0) (XA1 P mn ty Wg Fin) m g' w
def Tw(g:Zx)(w:x6):Prop:=g.status=.running/\∃g',stepG P mn g w=.go g' w #[mk (.acquire (stA Wg))]/\∃m,(Goes P mn (RL ty Wg) DC0) Fin m g' w
def XWe(g:Zx)(w:x6):Prop:=g.status=.running/\∃g',stepG P mn g w=.go g' w #[mk .enable]/\∃m,(Goes P mn (RL ty Wg) DC0) (Tw P mn ty Wg Fin) m g' w
def XW4(g:Zx)(w:x6):Prop:=g.status=.running/\(WgAt ty Wg w 0 0->∃g',stepG P mn g w=.go g' w #[rd (stA Wg)]/\∃m,(Goes P mn (RL ty Wg) DC0) (XWe P mn ty Wg Fin) m g' w)
def XW3(g:Zx)(w:x6):Prop:=g.status=.running/\g.offers=none/\((∃st,WgAt ty Wg w st 0)->stepG P mn g w=.go {g with status:=.blocked} w #[])/\(WgAt ty Wg w 0 1->∃g',stepG P mn g w=.go g' (w.setCell (smA Wg) (.int .u32 0)) (semEvents (smA Wg))/\∃m,(Goes P mn (RL ty Wg) DC0) (XW4 P mn ty Wg Fin) m g' (w.setCell (smA Wg) (.int .u32 0)))
def XSw(g:Zx)(w:x6):Prop:=g.status=.running/\∃g',stepG P mn g w=.go g' w #[mk (.write (smA Wg))]/\∃m,(Goes P mn (RL ty Wg) DC0) (XW3 P mn ty Wg Fin) m g' w
variable (Anch:Zx->x6->Prop)
def XW2(a:Nat)(g:Zx)(w:x6):Prop:=
 g.status=.running/\∀v:Nat,v<2147483648->WgAt ty Wg w (v*KK) 0->
  (v=a->∃g',stepG P mn g w=.go g' (w.setCell (stA Wg) (.int .u64 (v*KK+1))) #[rd (stA Wg),wr (stA Wg)]/\∃m,(Goes P mn (RL ty Wg) DC0) (XSw P mn ty Wg Fin) m g' (w.setCell (stA Wg) (.int .u64 (v*KK+1))))/\
  (v≠a->∃g',stepG P mn g w=.go g' w #[rd (stA Wg)]/\∃m,(Goes P mn (RL ty Wg) DC0) Anch m g' w)
def XW1(g:Zx)(w:x6):Prop:=g.status=.running/\∀v:Nat,v<2147483648->WgAt ty Wg w (v*KK) 0->∃g',stepG P mn g w=.go g' w #[rd (stA Wg)]/\(v=0->∃m,(Goes P mn (RL ty Wg) DC0) (XWe P mn ty Wg Fin) m g' w)/\(v≠0->∃m,(Goes P mn (RL ty Wg) DC0) (XW2 P mn ty Wg Fin Anch v) m g' w)
def XWd(g:Zx)(w:x6):Prop:=g.status=.running/\∃g',stepG P mn g w=.go g' w #[mk .disable]/\∃m,(Goes P mn (RL ty Wg) DC0) Anch m g' w
def XAn(L:WgLink)(Wg:Nat)(c:Frame)(cs:List Frame)(g:Zx)(w:x6):Prop:=∃T:Zq,g=G ((base L.wait).at ⟨T,[]⟩ [.code (L7 L),.inLoop (L7 L),.inBlock 0]) (c::cs)/\T.size=84/\T[0]? =some (.pointer (some ⟨Wg,0,none⟩))/\WgLive L.tWg Wg w
end
section
variable {L:WgLink} {P:Program} {mn:Bool} {Wg:Nat} {Fin:Zx->x6->Prop} {Y0:Frame} {Z0:Act} {ops0:Array Oper} {i₀:Nat} {rest0:List Nat} {k₀:List Item} {cs:List Frame} {mT:Nat}
def Up(H:WgLib P L)(f:∀w,WgLive L.tWg Wg w->Goes P mn (RL L.tWg Wg) DC0 Fin mT (G (Y0.at (Z0.put ((ops0[i₀]?).bind (·.dst)) (.tuple #[])) (.inRegion ops0 rest0::k₀)) cs) w)(w:x6)(a:WgLive L.tWg Wg w):Goes P mn (RL L.tWg Wg) DC0 (XKd P mn L.tWg Wg Fin) 20 (G ((base L.add).at ⟨#[.pointer (some ⟨Wg,0,none⟩),.i 1,undef,undef,undef,undef,undef,undef,undef,undef,undef,undef,undef,undef,undef,undef,undef,undef,undef,undef,undef,undef,undef,undef,undef,undef,undef,undef,undef,undef,undef,undef,undef,undef,undef,undef,undef,undef,undef,undef,undef,undef,undef,undef,undef,undef,undef,undef,undef,undef,undef,undef,undef,undef,undef,undef,undef,undef,undef,undef,undef,undef,undef,undef,undef,undef,undef,undef,undef,undef,undef,undef,undef,undef,undef,undef,undef,undef,undef,undef,undef,undef,undef,undef,undef,undef,undef,undef,undef,undef,undef,undef,undef,undef,undef,undef,undef,undef,undef,undef,undef,undef,undef,undef,undef,undef,undef,undef,undef,undef,undef,undef,undef,undef,undef,undef,undef],[]⟩ [.code (body_add L)]) (Y0.at Z0 (.inRegion ops0 (i₀::rest0)::k₀)::cs)) w:=by
 lib_facts
 simp only[body_add,addFn,WB];u_c stepG_seq xl a
 u_cond true xl a
 iterate 2 (u_c stepG_seq xl a)
 u_reg xl a
 iterate 2 (u_op xl a)
 u_c stepG_region_end xl a
 u_cond false xl a
 u_c stepG_skip xl a
 u_c stepG_seq xl a
 u_reg xl a
 refine Goes.stop (λw1 g=>?_);replace a:=xl a g;clear g;refine⟨rfl,_,stepG_mark0 .disable (by simp) rfl rfl (by k_ne) rfl H.f_disable (x_disable_n L) (x_disable_b L) (x_disable_x L) (x_disable_f L),60,?_⟩;walk_nrm
 u_c stepG_region_end xl a
 u_reg xl a
 u_defer xl a
 u_c stepG_region_end xl a
 u_c stepG_seq xl a
 u_reg xl a
 u_op xl a
 u_c stepG_region_end xl a
 iterate 2 (u_c stepG_seq xl a)
 u_reg xl a
 u_bub xl a
 u_c stepG_region_end xl a
 u_cond false xl a
 u_c stepG_skip xl a
 u_c stepG_seq xl a
 u_reg xl a
 iterate 6 (u_op xl a)
 u_call H.f_uAdd (nm_uAdd L) uAddFn xl a
 u_c stepG_seq xl a
 u_reg xl a
 u_op xl a
 u_c stepG_region_end xl a
 u_c stepG_seq xl a
 u_reg xl a
 iterate 4 (u_op xl a)
 refine Goes.stop (λw2 h=>?_);replace a:=xl a h;clear h;refine⟨rfl,λv m b=>?_⟩;obtain rfl|hvp:=Vr v
 .replace b:WgAt L.tWg Wg w2 0 0:=by simpa using b
  have z:(((0:Nat):Int)+1)*KK=KK:=by simp
  rw[z];have e0:IntKind.u64.wrap (0+4294967296)=KK:=by decide
  refine⟨_,(stepG_add_atomic rfl rfl (by k_ne) rfl H.f_addU64 (x_addU64_n L) (x_addU64_b L) (x_addU64_x L) .u64 (x_addU64_f L) rfl rfl b.cellSt (b.thaw 0)).trans (by rw[e0];rfl),.inl ⟨110,?_⟩⟩;replace a:WgLive L.tWg Wg (w2.setCell (stA Wg) (.int .u64 KK)):=⟨_,_,b.setSt _⟩
  clear b;simp only[KK]at a⊢;walk_nrm
  u_op xl a
  u_c stepG_region_end xl a
  u_c stepG_ret' xl a
  u_leave1 H.f_uAdd xl a
  u_op xl a
  u_c stepG_region_end xl a
  iterate 2 (u_c stepG_seq xl a)
  u_reg xl a
  iterate 4 (u_op xl a)
  iterate 2 (u_skip xl a)
  u_op xl a
  u_c stepG_region_end xl a
  u_cond false xl a
  u_c stepG_skip xl a
  u_c stepG_seq xl a
  u_reg xl a
  iterate 4 (u_op xl a)
  u_c stepG_region_end xl a
  u_c stepG_seq xl a
  u_reg xl a
  iterate 4 (u_op xl a)
  u_c stepG_region_end xl a
  iterate 2 (u_c stepG_seq xl a)
  u_reg xl a
  iterate 10 (u_op xl a)
  u_c stepG_region_end xl a
  u_cond true xl a
  u_reg xl a
  iterate 3 (u_op xl a)
  u_conv H.underlying_tPU32 H.room_tU32 (WgLive.cell1 a).choose_spec xl a
  refine Goes.stop (λw3 i=>?_);replace a:=xl a i;clear i;refine⟨rfl,_,stepG_markAt .read (by simp) rfl rfl (by k_ne) rfl H.f_raceRead (x_raceRead_n L) (x_raceRead_b L) (x_raceRead_x L) (x_raceRead_f L) (ad:=⟨Wg,1,none⟩) (by simp[Act.eval]),60,?_⟩;walk_nrm
  u_c stepG_region_end xl a
  iterate 2 (u_c stepG_seq xl a)
  u_reg xl a
  iterate 2 (u_op xl a)
  u_c stepG_region_end xl a
  u_cond false xl a
  u_c stepG_skip xl a
  iterate 2 (u_c stepG_seq xl a)
  u_reg xl a
  iterate 3 (u_op xl a)
  iterate 2 (u_skip xl a)
  iterate 2 (u_op xl a)
  iterate 4 (u_skip xl a)
  u_op xl a
  u_c stepG_region_end xl a
  u_cond false xl a
  u_c stepG_skip xl a
  iterate 2 (u_c stepG_seq xl a)
  u_reg xl a
  iterate 3 (u_op xl a)
  iterate 2 (u_skip xl a)
  u_op xl a
  u_c stepG_region_end xl a
  u_cond true xl a
  u_c stepG_ret' xl a
  refine Goes.stop (λw4 d=>?_);replace a:=xl a d;clear d;refine⟨rfl,_,stepG_unwind_entry (v:=.tuple #[]) (evs:=#[mk .enable]) rfl H.f_enable (x_enable_n L) (x_enable_b L) (x_enable_x L) (x_enable_f L) (by simp[Extern.Race.none_]) (by simp[mk]) (by simp[mk]),mT+1,?_⟩
  u_leave0 H.f_add xl a
  exact f _ a
 obtain⟨V,e⟩:∃V:Int,V=(v:Int)+1:=⟨_,rfl⟩
 obtain⟨S,c⟩:∃S:Int,S=V*KK:=⟨_,rfl⟩
 have j:IntKind.u64.wrap ((v:Int)*KK+4294967296)=S:=by rw[IntKind.wrap_u64,c,e];simp only[KK];omega
 rw[<-e,<-c];have a1:S/4294967296=V:=by rw[c];simp only[KK];omega
 have n:bits .and .u64 S 2147483648=0:=by rw[c,e];have:=st_flag (v+1) 0 (by omega) (by omega);simpa[KK]using this
 have o:bits .and .u64 S 2147483647=0:=by rw[c,e];have:=st_waiters (v+1) 0 (by omega) (by omega);simpa[KK]using this
 have p:IntKind.i32.wrap V=V:=by rw[IntKind.wrap_i32];omega
 have k:1<V:=by omega
 have l:V<2147483648:=by omega
 have q:(V==1)=false:=by simp;omega
 have r:decide (V=1)=false:=UN (by omega);have s:decide (V<0)=false:=UN (by omega);have t:decide (0<V)=true:=UQ (by omega);have u:(V==0)=false:=by simp;omega
 have x:decide (V=0)=false:=UN (by omega);refine⟨_,(stepG_add_atomic rfl rfl (by k_ne) rfl H.f_addU64 (x_addU64_n L) (x_addU64_b L) (x_addU64_x L) .u64 (x_addU64_f L) rfl rfl b.cellSt (b.thaw 0)).trans (by rw[j];rfl),.inr ⟨110,?_⟩⟩;replace a:WgLive L.tWg Wg (w2.setCell (stA Wg) (.int .u64 S)):=⟨_,_,b.setSt _⟩
 clear b c e j;walk_nrm
 u_op xl a
 u_c stepG_region_end xl a
 u_c stepG_ret' xl a
 u_leave1 H.f_uAdd xl a
 u_op xl a
 u_c stepG_region_end xl a
 iterate 2 (u_c stepG_seq xl a)
 u_reg xl a
 iterate 4 (u_op xl a)
 iterate 2 (u_skip xl a)
 u_op xl a
 u_c stepG_region_end xl a
 u_cnd false xl a
 u_c stepG_skip xl a
 u_c stepG_seq xl a
 u_reg xl a
 iterate 4 (u_op xl a)
 u_c stepG_region_end xl a
 u_c stepG_seq xl a
 u_reg xl a
 iterate 4 (u_op xl a)
 u_c stepG_region_end xl a
 iterate 2 (u_c stepG_seq xl a)
 u_reg xl a
 iterate 10 (u_op xl a)
 u_c stepG_region_end xl a
 u_cnd false xl a
 u_c stepG_skip xl a
 iterate 2 (u_c stepG_seq xl a)
 u_reg xl a
 iterate 2 (u_op xl a)
 u_c stepG_region_end xl a
 u_cnd false xl a
 u_c stepG_skip xl a
 iterate 2 (u_c stepG_seq xl a)
 u_reg xl a
 iterate 3 (u_op xl a)
 iterate 2 (u_skip xl a)
 iterate 2 (u_op xl a)
 iterate 4 (u_skip xl a)
 u_op xl a
 u_c stepG_region_end xl a
 u_cnd false xl a
 u_c stepG_skip xl a
 iterate 2 (u_c stepG_seq xl a)
 u_reg xl a
 iterate 3 (u_op xl a)
 iterate 2 (u_skip xl a)
 u_op xl a
 u_c stepG_region_end xl a
 u_cnd true xl a
 u_c stepG_ret' xl a
 refine Goes.stop (λw4 d=>?_);replace a:=xl a d;clear d;refine⟨rfl,_,stepG_unwind_entry (v:=.tuple #[]) (evs:=#[mk .enable]) rfl H.f_enable (x_enable_n L) (x_enable_b L) (x_enable_x L) (x_enable_f L) (by simp[Extern.Race.none_]) (by simp[mk]) (by simp[mk]),mT+1,?_⟩
 u_leave0 H.f_add xl a
 exact f _ a
def Tx(H:WgLib P L)(l:∀w,WgLive L.tWg Wg w->Goes P mn (RL L.tWg Wg) DC0 Fin mT (G (Y0.at (Z0.put ((ops0[i₀]?).bind (·.dst)) (.tuple #[])) (.inRegion ops0 rest0::k₀)) cs) w) (g) (w) (h:XAn L Wg (Y0.at Z0 (.inRegion ops0 (i₀::rest0)::k₀)) cs g w):∃m,Goes P mn (RL L.tWg Wg) DC0 (XW1 P mn L.tWg Wg Fin (XAn L Wg (Y0.at Z0 (.inRegion ops0 (i₀::rest0)::k₀)) cs)) m g w:=by
 lib_facts
 obtain⟨T,rfl,d,o,a⟩:=h;obtain⟨v0,v1,v2,v3,v4,v5,v6,v7,v8,v9,t,u,x,y,z,A,B,C,D,E,F,I,J,K,M,N,O,Q,R,U,V,W,X,Y,Z,aa,ab,af,ag,ak,an,ao,ar,ax,ay,aK,aM,aR,a6,a7,a8,ba,bb,bk,bm,bo,br,bs,bx,bA,bB,bC,b0,b3,b4,b5,b6,b7,b8,b9,ca,cb,cc,cd,cf,cg,ck,cl,cm,cn,cp,cq,cr,cv,rfl⟩:=array84 T d;simp only[Xk,YG,Vw]at o;subst o;refine⟨30,?_⟩;simp only[L7,body_wait,waitFn,WB];u_c stepG_block xl a;u_c stepG_seq xl a
 u_reg xl a
 iterate 3 (u_op xl a)
 u_call H.f_uLoad (nm_uLoad L) uLoadFn xl a
 u_c stepG_seq xl a
 u_reg xl a
 u_op xl a
 u_c stepG_region_end xl a
 u_c stepG_seq xl a
 u_reg xl a
 iterate 3 (u_op xl a)
 refine Goes.stop (λw1 p=>?_);replace a:=xl a p;clear p;refine⟨rfl,λv hv b=>?_⟩;obtain rfl|hvp:=Vr v
 .replace b:WgAt L.tWg Wg w1 0 0:=by simpa using b
  refine⟨_,stepG_load_atomic (v:=0) rfl rfl (by k_ne) rfl H.f_loadU64 (x_loadU64_n L) (x_loadU64_b L) (x_loadU64_x L) .u64 (x_loadU64_f L) rfl b.cellSt,λ_=>⟨80,?_⟩,λh=>absurd rfl h⟩;clear b;walk_nrm
  u_op xl a
  u_c stepG_region_end xl a
  u_c stepG_ret' xl a
  u_leave1 H.f_uLoad xl a
  u_op xl a
  u_c stepG_region_end xl a
  u_c stepG_seq xl a
  u_reg xl a
  iterate 4 (u_op xl a)
  u_c stepG_region_end xl a
  u_c stepG_seq xl a
  u_reg xl a
  iterate 4 (u_op xl a)
  u_c stepG_region_end xl a
  iterate 2 (u_c stepG_seq xl a)
  u_reg xl a
  iterate 2 (u_op xl a)
  u_c stepG_region_end xl a
  u_cond true xl a
  u_c stepG_seq xl a
  u_cond true xl a
  u_c stepG_seq xl a
  u_reg xl a
  refine Goes.stop (λw5 f=>?_);replace a:=xl a f;clear f;refine⟨rfl,_,stepG_mark0 .enable (by simp) rfl rfl (by k_ne) rfl H.f_enable (x_enable_n L) (x_enable_b L) (x_enable_x L) (x_enable_f L),30,?_⟩;walk_nrm
  u_c stepG_region_end xl a
  u_reg xl a
  u_op xl a
  u_conv H.underlying_tWgP H.room_tWg (WgLive.cell0 a).choose_spec xl a
  refine Goes.stop (λw6 i=>?_);replace a:=xl a i;clear i;refine⟨rfl,_,stepG_markAt .acquire (by simp) rfl rfl (by k_ne) rfl H.f_acquire (x_acquire_n L) (x_acquire_b L) (x_acquire_x L) (x_acquire_f L) (by simp[Act.eval,stA]),⟨mT+20,?_⟩⟩;walk_nrm
  u_c stepG_region_end xl a
  iterate 2 (u_c stepG_seq xl a)
  u_reg xl a
  iterate 8 (u_op xl a)
  iterate 2 (u_skip xl a)
  u_op xl a
  u_c stepG_region_end xl a
  u_cond false xl a
  u_c stepG_skip xl a
  u_c stepG_ret' xl a
  u_leave0 H.f_wait xl a
  exact l _ a
 obtain⟨S,c⟩:∃S:Int,(v:Int)*KK=S:=⟨_,rfl⟩
 have a1:S/4294967296=(v:Int):=by rw[<-c];simp only[KK];omega
 have b1:bits .and .u64 S 2147483648=0:=by rw[<-c];have:=st_flag v 0 (by omega) (by omega);simpa[KK]using this
 have b2:bits .and .u64 S 2147483647=0:=by rw[<-c];have:=st_waiters v 0 (by omega) (by omega);simpa[KK]using this
 have c1:IntKind.i32.wrap (v:Int)=(v:Int):=by rw[IntKind.wrap_i32];omega
 have wq:IntKind.u64.wrap (S+1)=S+1:=by rw[IntKind.wrap_u64,<-c];simp only[KK];omega
 have q3:decide ((v:Int)<0)=false:=UN (by omega);have q4:decide (0<(v:Int))=true:=UQ (by omega);have q5:((v:Int)==0)=false:=by simp;omega
 have q6:decide ((v:Int)=0)=false:=UN (by omega);rw[c]at b;refine⟨_,stepG_load_atomic (v:=S) rfl rfl (by k_ne) rfl H.f_loadU64 (x_loadU64_n L) (x_loadU64_b L) (x_loadU64_x L) .u64 (x_loadU64_f L) rfl b.cellSt,λh0=>absurd h0 (by omega),λ_=>⟨80,?_⟩⟩;clear b;walk_nrm
 u_op xl a
 u_c stepG_region_end xl a
 u_c stepG_ret' xl a
 u_leave1 H.f_uLoad xl a
 u_op xl a
 u_c stepG_region_end xl a
 u_c stepG_seq xl a
 u_reg xl a
 iterate 4 (u_op xl a)
 u_c stepG_region_end xl a
 u_c stepG_seq xl a
 u_reg xl a
 iterate 4 (u_op xl a)
 u_c stepG_region_end xl a
 iterate 2 (u_c stepG_seq xl a)
 u_reg xl a
 iterate 2 (u_op xl a)
 u_c stepG_region_end xl a
 u_cnd false xl a
 u_c stepG_skip xl a
 u_c stepG_seq xl a
 u_reg xl a
 iterate 6 (u_op xl a)
 u_call H.f_uCas (nm_uCas L) uCasFn xl a
 u_c stepG_seq xl a
 u_reg xl a
 u_op xl a
 u_c stepG_region_end xl a
 u_c stepG_seq xl a
 u_reg xl a
 iterate 5 (u_op xl a)
 refine Goes.stop (λw2 q=>?_);replace a:=xl a q;clear q;refine⟨rfl,λv' cw b=>⟨λe=>?_,λe=>?_⟩⟩
 .subst e;rw[c]at b⊢;refine⟨_,(stepG_cas_hit (v:=S) (n:=S+1) rfl rfl (by k_ne) rfl H.f_casU64 (x_casU64_n L) (x_casU64_b L) (x_casU64_x L) .u64 (x_casU64_f L) rfl rfl rfl b.cellSt (b.thaw 0)).trans (by rfl),80,?_⟩;replace a:WgLive L.tWg Wg (w2.setCell (stA Wg) (.int .u64 (S+1))):=⟨_,_,b.setSt _⟩
  clear b;walk_nrm
  u_op xl a
  u_c stepG_region_end xl a
  u_c stepG_ret' xl a
  u_leave1 H.f_uCas xl a
  u_c stepG_region_end xl a
  u_cond true xl a
  iterate 2 (u_c stepG_seq xl a)
  u_reg xl a
  iterate 4 (u_op xl a)
  u_c stepG_region_end xl a
  u_cond true xl a
  u_reg xl a
  iterate 3 (u_op xl a)
  u_conv H.underlying_tPU32 H.room_tU32 (WgLive.cell1 a).choose_spec xl a
  refine Goes.stop (λw3 r=>?_);replace a:=xl a r;clear r;refine⟨rfl,_,stepG_markAt .write (by simp) rfl rfl (by k_ne) rfl H.f_raceWrite (x_raceWrite_n L) (x_raceWrite_b L) (x_raceWrite_x L) (x_raceWrite_f L) (ad:=⟨Wg,1,none⟩) (by simp[Act.eval]),60,?_⟩;walk_nrm
  u_c stepG_region_end xl a
  u_c stepG_seq xl a
  u_reg xl a
  u_op xl a
  u_c stepG_region_end xl a
  iterate 2 (u_c stepG_seq xl a)
  u_reg xl a
  iterate 4 (u_op xl a)
  u_skip xl a
  u_op xl a
  u_c stepG_region_end xl a
  u_cond false xl a
  u_c stepG_skip xl a
  u_c stepG_seq xl a
  u_reg xl a
  iterate 4 (u_op xl a)
  refine Goes.stop (λw4 s=>?_);replace a:=xl a s;clear s;refine⟨rfl,rfl,λ⟨st,b⟩=>stepG_semacquire_wait rfl rfl rfl H.f_semacquire (x_semacquire_n L) (x_semacquire_b L) (x_semacquire_x L) (x_semacquire_f L) (by simp[Act.eval,smA]) b.cellSm,λj=>?_⟩;refine⟨_,(stepG_semacquire (n:=1) rfl rfl (by k_ne) rfl H.f_semacquire (x_semacquire_n L) (x_semacquire_b L) (x_semacquire_x L) (x_semacquire_f L) (by simp[Act.eval,smA]) j.cellSm (by k_ne) (j.thaw 1)).trans (by rfl),40,?_⟩;replace a:WgLive L.tWg Wg (w4.setCell (smA Wg) (.int .u32 0)):=⟨_,_,j.setSm 0⟩
  clear j;walk_nrm
  u_c stepG_region_end xl a
  u_c stepG_seq xl a
  u_reg xl a
  iterate 3 (u_op xl a)
  u_call H.f_uLoad (nm_uLoad L) uLoadFn xl a
  u_c stepG_seq xl a
  u_reg xl a
  u_op xl a
  u_c stepG_region_end xl a
  u_c stepG_seq xl a
  u_reg xl a
  iterate 3 (u_op xl a)
  refine Goes.stop (λw5 f=>?_);replace a:=xl a f;clear f;refine⟨rfl,λb=>⟨_,stepG_load_atomic (v:=0) rfl rfl (by k_ne) rfl H.f_loadU64 (x_loadU64_n L) (x_loadU64_b L) (x_loadU64_x L) .u64 (x_loadU64_f L) rfl b.cellSt,40,?_⟩⟩;clear b;walk_nrm
  u_op xl a
  u_c stepG_region_end xl a
  u_c stepG_ret' xl a
  u_leave1 H.f_uLoad xl a
  iterate 2 (u_op xl a)
  u_c stepG_region_end xl a
  u_c stepG_seq xl a
  u_cond true xl a
  u_c stepG_seq xl a
  u_reg xl a
  refine Goes.stop (λw6 i=>?_);replace a:=xl a i;clear i;refine⟨rfl,_,stepG_mark0 .enable (by simp) rfl rfl (by k_ne) rfl H.f_enable (x_enable_n L) (x_enable_b L) (x_enable_x L) (x_enable_f L),30,?_⟩;walk_nrm
  u_c stepG_region_end xl a
  u_reg xl a
  u_op xl a
  u_conv H.underlying_tWgP H.room_tWg (WgLive.cell0 a).choose_spec xl a
  refine Goes.stop (λw7 k=>?_);replace a:=xl a k;clear k;refine⟨rfl,_,stepG_markAt .acquire (by simp) rfl rfl (by k_ne) rfl H.f_acquire (x_acquire_n L) (x_acquire_b L) (x_acquire_x L) (x_acquire_f L) (by simp[Act.eval,stA]),⟨mT+10,?_⟩⟩;walk_nrm
  u_c stepG_region_end xl a
  iterate 2 (u_c stepG_seq xl a)
  u_reg xl a
  u_op xl a
  u_c stepG_region_end xl a
  u_cond false xl a
  u_c stepG_skip xl a
  u_c stepG_ret' xl a
  u_leave0 H.f_wait xl a
  exact l _ a
 refine⟨_,stepG_cas_miss (v:=(v':Int)*KK) (old:=S) (n:=S+1) rfl rfl (by k_ne) rfl H.f_casU64 (x_casU64_n L) (x_casU64_b L) (x_casU64_x L) .u64 (x_casU64_f L) rfl rfl rfl b.cellSt (b.thaw 0) (by rw[<-c];simp only[KK];omega),40,?_⟩;clear b;walk_nrm
 u_op xl a
 u_c stepG_region_end xl a
 u_c stepG_ret' xl a
 u_leave1 H.f_uCas xl a
 u_c stepG_region_end xl a
 u_cond false xl a
 u_c stepG_skip xl a
 u_c stepG_inBlock xl a
 u_c stepG_inLoop xl a
 exact Goes.stop (λw7 k=>⟨_,rfl,by simp,by simp,xl a k⟩)
def Im(H:WgLib P L)(w:x6)(a:WgLive L.tWg Wg w):Goes P mn (RL L.tWg Wg) DC0 (XWd P mn L.tWg Wg (XAn L Wg (Y0.at Z0 (.inRegion ops0 (i₀::rest0)::k₀)) cs)) 20 (G ((base L.wait).at ⟨#[.pointer (some ⟨Wg,0,none⟩),undef,undef,undef,undef,undef,undef,undef,undef,undef,undef,undef,undef,undef,undef,undef,undef,undef,undef,undef,undef,undef,undef,undef,undef,undef,undef,undef,undef,undef,undef,undef,undef,undef,undef,undef,undef,undef,undef,undef,undef,undef,undef,undef,undef,undef,undef,undef,undef,undef,undef,undef,undef,undef,undef,undef,undef,undef,undef,undef,undef,undef,undef,undef,undef,undef,undef,undef,undef,undef,undef,undef,undef,undef,undef,undef,undef,undef,undef,undef,undef,undef,undef,undef],[]⟩ [.code (body_wait L)]) (Y0.at Z0 (.inRegion ops0 (i₀::rest0)::k₀)::cs)) w:=by (lib_facts);simp only[body_wait,waitFn,WB];u_c stepG_seq xl a;(u_cond true xl a);(u_reg xl a);refine Goes.stop (λw1 b=>?_);replace a:=xl a b;clear b;refine⟨rfl,_,stepG_mark0 .disable (by simp) rfl rfl (by k_ne) rfl H.f_disable (x_disable_n L) (x_disable_b L) (x_disable_x L) (x_disable_f L),10,?_⟩;(walk_nrm);(u_c stepG_region_end xl a);(u_c stepG_block xl a);(u_c stepG_loop xl a);exact Goes.stop (λw2 c=>⟨_,rfl,by simp,by simp,xl a c⟩)
end
end Go.Tm
namespace Go.Tm
open Go.Conc Go.ConcN
def blk:Loc->Option Nat
 | .cell a=>some a.block
 | .obj r=>some r
 |_=>none
def JB{B}{d:MemOp}{x}(h:d.act.low B)(a:d.act.touch?=some x){b}(i:blk x.loc=some b):b<B:=by obtain⟨g,fn,pos,f⟩:=d;cases f with|access e=>simp only[MemAct.touch?,Vw]at a;subst a;simp only[MemAct.low]at h;cases j:e.loc<;>simp_all [Loc.low,blk]|mark m=>cases m<;>simp_all [MemAct.touch?,MemAct.low];all_goals (subst a;simp_all [blk])|_=>simp[MemAct.touch?]at a
section
variable (shun sp:Nat->Prop) (c:Nat) (T0:Nat) (own low:Nat->Nat)
structure TI(t:Trace):Prop where
 nr:∀said,¬Race said t
 NF:∀(i:Nat) (op:MemOp) x b,t[i]? =some op->op.act.touch?=some x->blk x.loc=some b->own b≠0->op.g=own b
 wr:∀(i:Nat) x b,touchAt t i=some x->blk x.loc=some b->own b=0->¬sp b->¬shun b->x.write=true->Knows t 0 i/\∀k,b<low k->Knows t k i
 tc:∀(i:Nat) x b,touchAt t i=some x->blk x.loc=some b->own b=0->¬sp b->¬shun b->(∀k,low k<=b)->Knows t 0 i
 sh:∀(i:Nat) (op:MemOp) x,t[i]? =some op->op.act.touch?=some x->∀b,blk x.loc=some b->sp b->x.kind=.atomic\/(x.kind=.said/\((op.g=0/\x.write=false/\(low c≠0->Knows t c i))\/(op.g=c/\c≠0)))
 cl:∀op∈t,op.g=c->low c≠0
 at_:∀(i:Nat) (op:MemOp) x,T0<=i->t[i]? =some op->op.act.touch?=some x->x.kind=.atomic->∃b,blk x.loc=some b/\sp b
 who:∀(i:Nat) (op:MemOp) x,T0<=i->t[i]? =some op->op.act.touch?=some x->op.g=0\/low op.g≠0
 z_:low 0=0
 wu:∀b,sp b->own b=0
def Okx(g:Nat)(x:Touch):Prop:=
 (g=0\/low g≠0)/\∃b,blk x.loc=some b/\
  ((own b=g/\g≠0/\x.kind=.plain)\/
   (own b=0/\¬sp b/\¬shun b/\x.kind=.plain/\((g=0/\(x.write=true->∀k,low k<=b))\/(g≠0/\x.write=false/\b<low g)))\/
   (sp b/\(x.kind=.atomic\/(x.kind=.said/\((g=0/\x.write=false/\low c=0)\/(g=c/\c≠0))))))
end
section
variable {shun sp:Nat->Prop} {c T0:Nat} {own low:Nat->Nat} {t u:Trace}
def NG{d}{a x:Touch}(h:a.conflicts d x){b}(e:blk x.loc=some b):blk a.loc=some b:=by rw[h.1];exact e
def TI.app{g}(h:TI shun sp c T0 own low t)(G:∀f∈u,f.g=g)(hc:g=c->low c≠0)(v:∀f∈u,∀x,f.act.touch?=some x->Okx shun sp c own low g x):TI shun sp c T0 own low (t++u):=by (have old:∀{i:Nat} {a:Touch},touchAt (t++u) i=some a->touchAt t i=some a\/∃f,(t++u)[i]? =some f/\f∈u/\f.act.touch?=some a:=by intro i a M;obtain⟨z,hz,N⟩:=touch_of M;obtain⟨_,Y⟩|⟨_,Z⟩:=getElem?_append_cases hz;exact .inl (by rw[touchAt_of Y];exact N);exact .inr ⟨z,hz,Z,N⟩);(have F:∀{i:Nat} {f:MemOp},(t++u)[i]? =some f->f∈u->Knows (t++u) g i:=by intro i f w aa;have:=knows_own w;rwa[G f aa]at this);refine⟨λO=>?_,λi f x b w p y hn=>?_,λi x b p y P Q hs W=>?_,λi x b p y P Q hs hl=>?_,λi f x w p b y o=>?_,λf H hg=>?_,λi f x hi w p I=>?_,λi f x hi w p=>?_,h.z_,h.wu⟩;refine noRace_append (h.nr O) G λi a M f H x p E=>?_;obtain⟨hg,b,y,d⟩:=v f H x p;have C:=NG E y;obtain⟨oi,A,R⟩:=touch_of M;obtain⟨n,q,_⟩|⟨n,q,h3,_,m⟩|⟨o,m⟩:=d;have:=h.NF i oi a b A R C (by rw[n];exact q);have v:=knows_own A;rwa[this,n]at v;obtain⟨rfl,m⟩|⟨m,s,X⟩:=m;(cases S:x.write with|true=>exact h.tc i a b M C n q h3 (m S)|false=>exact(h.wr i a b M C n q h3 (E.2.2.1.resolve_right (by simp[S]))).1);exact(h.wr i a b M C n q h3 (E.2.2.1.resolve_right (by simp[s]))).2 g X;have B:=h.sh i oi a A R b C o;obtain⟨_,_,_,T⟩:=E;obtain m|⟨m,s⟩:=m;obtain e|e|⟨_,_,e⟩:=T;rcases B with U|⟨U,_⟩<;>rw[U]at e<;>cases e;rw[m]at e;cases e;rw[m]at e;cases e;(have D:a.kind=.said:=by obtain e|e|⟨_,e,_⟩:=T;rcases B with U|⟨U,_⟩<;>rw[U]at e<;>cases e;rw[m]at e;cases e;exact e);obtain e|⟨_,B⟩:=B;rw[e]at D;cases D;obtain⟨rfl,s,X⟩|⟨s,X⟩:=s;obtain⟨e1,e2,_⟩|⟨e1,_⟩:=B;have v:=knows_own A;rwa[e1]at v;exact absurd X (h.cl oi (mem_of_getElem? A) e1);obtain⟨_,_,e⟩|⟨e,_⟩:=B;rw[s];exact e (hc s);have v:=knows_own A;rwa[e,<-s]at v;obtain⟨_,r⟩|⟨_,j⟩:=getElem?_append_cases w;exact h.NF i f x b r p y hn;obtain⟨_,V,l,d⟩:=v f j x p;rw[y]at l;cases l;obtain⟨n,_⟩|⟨n,_⟩|⟨o,_⟩:=d;rw[G f j,n];exact absurd n hn;exact absurd (h.wu _ o) hn;obtain J|⟨f,w,j,K⟩:=old p;obtain⟨n,q⟩:=h.wr i x b J y P Q hs W;exact⟨n.app u,λk L=>(q k L).app u⟩;obtain⟨_,V,l,d⟩:=v f j x K;rw[y]at l;cases l;obtain⟨n,q,_⟩|⟨_,_,_,_,m⟩|⟨n,_⟩:=d;exact absurd (n.symm.trans P) q;obtain⟨rfl,m⟩|⟨_,s,_⟩:=m;exact⟨F w j,λk L=>absurd (m W k) (Xy.2 L)⟩;rw[s]at W;cases W;exact absurd n Q;obtain J|⟨f,w,j,K⟩:=old p;exact(h.tc i x b J y P Q hs hl).app u;obtain⟨_,V,l,d⟩:=v f j x K;rw[y]at l;cases l;obtain⟨n,q,_⟩|⟨_,_,_,_,m⟩|⟨n,_⟩:=d;exact absurd (n.symm.trans P) q;obtain⟨rfl,m⟩|⟨_,_,s⟩:=m;exact F w j;exact absurd (hl g) (Xy.2 s);exact absurd n Q;obtain⟨_,r⟩|⟨_,j⟩:=getElem?_append_cases w;obtain e|⟨e1,e2⟩:=h.sh i f x r p b y o;exact .inl e;exact .inr ⟨e1,e2.imp (λ⟨a,b,c⟩=>⟨a,b,λx=>(c x).app u⟩) id⟩;obtain⟨_,V,l,d⟩:=v f j x p;rw[y]at l;cases l;obtain⟨n,q,_⟩|⟨_,q,_⟩|⟨_,m⟩:=d;exact absurd (n.symm.trans (h.wu _ o)) q;exact absurd o q;obtain m|⟨m,s⟩:=m;exact .inl m;refine .inr ⟨m,s.imp (λ⟨a,b,c⟩=>⟨(G f j).trans a,b,λx=>absurd c x⟩) (λ⟨a,b⟩=>⟨(G f j).trans a,b⟩)⟩;obtain h'|h':=VJ.1 H;exact h.cl f h' hg;exact hc ((G f h').symm.trans hg);obtain⟨_,r⟩|⟨_,j⟩:=getElem?_append_cases w;exact h.at_ i f x hi r p I;obtain⟨_,V,l,d⟩:=v f j x p;obtain⟨_,_,e⟩|⟨_,_,_,e,_⟩|⟨o,_⟩:=d;rw[I]at e;cases e;rw[I]at e;cases e;exact⟨V,l,o⟩;obtain⟨_,r⟩|⟨_,j⟩:=getElem?_append_cases w;exact h.who i f x hi r p;rw[G f j];exact(v f j x p).1
def TI.still(h:TI shun sp c T0 own low t)(s:∀op∈u,op.act.touch?=none)(I:∀op∈u,op.g=c->low c≠0):TI shun sp c T0 own low (t++u):=by (have old:∀{i:Nat} {a:Touch},touchAt (t++u) i=some a->touchAt t i=some a:=by intro i a q;obtain⟨z,J,n⟩:=touch_of q;obtain⟨_,o⟩|⟨_,p⟩:=getElem?_append_cases J;rw[touchAt_of o];exact n;rw[s z p]at n;cases n);(have f:∀{i:Nat} {op:MemOp} {a:Touch},(t++u)[i]? =some op->op.act.touch?=some a->t[i]? =some op:=by intro i op a l q;obtain⟨_,o⟩|⟨_,p⟩:=getElem?_append_cases l;exact o;rw[s op p]at q;cases q);refine⟨λr=>?_,λi op x b l d m s=>h.NF i op x b (f l d) d m s,λi x b d m v w y K=>?_,λi x b d m v w y L=>(h.tc i x b (old d) m v w y L).app u,λi op x l d b m A=>?_,λop B H=>?_,λi op x C l d D=>h.at_ i op x C (f l d) d D,λi op x C l d=>h.who i op x C (f l d) d,h.z_,h.wu⟩;rintro⟨i,j,E,⟨a,b,q,m,F⟩,M,N⟩;exact h.nr r ⟨i,j,E,⟨a,b,old q,old m,F⟩,λe=>M (hb_app u e),λe=>N (hb_app u e)⟩;obtain⟨O,P⟩:=h.wr i x b (old d) m v w y K;exact⟨O.app u,λk G=>(P k G).app u⟩;obtain e|⟨e1,Q⟩:=h.sh i op x (f l d) d b m A;exact .inl e;exact .inr ⟨e1,Q.imp (λ⟨a,b,c⟩=>⟨a,b,λx=>(c x).app u⟩) id⟩;obtain h'|h':=VJ.1 B;exact h.cl op h' H;exact I op h' H
def TI.fork{k s x y}(h:TI shun sp c T0 own low t)(p:x.g=0/\x.act=.go k)(E:y.g=k/\y.act=.start)(F:Deaf t 0=0)(S:Deaf t k=0)(I:k≠0)(A:low k=0)(B:s≠0)(J:c≠0):TI shun sp c T0 own (upd low k s) (t++#[x,y]):=by (have G:∀op∈#[x,y],op.act.touch?=none:=by intro op m;simp only[VH,U8,Vf,Vh]at m;obtain rfl|rfl:=m;rw[p.2];rfl;rw[E.2];rfl);(have old:∀{i:Nat} {a:Touch},touchAt (t++#[x,y]) i=some a->touchAt t i=some a:=by intro i a w;obtain⟨z,U,q⟩:=touch_of w;obtain⟨_,r⟩|⟨_,v⟩:=getElem?_append_cases U;rw[touchAt_of r];exact q;rw[G z v]at q;cases q);(have f:∀{i:Nat} {op:MemOp} {a:Touch},(t++#[x,y])[i]? =some op->op.act.touch?=some a->t[i]? =some op:=by intro i op a l w;obtain⟨_,r⟩|⟨_,v⟩:=getElem?_append_cases l;exact r;rw[G op v]at w;cases w);(have le:∀k',low k'<=upd low k s k':=by intro k';unfold upd;split;rename_i e;rw[e,A];omega;exact UI _);refine⟨λC=>?_,λi op x b l p n G=>h.NF i op x b (f l p) p n G,λi o b d n K L B V=>?_,λi o b d n F L B H=>(h.tc i o b (old d) n F L B λk'=>UJ (le k') (H k')).app _,λi op o l d b n M=>?_,λop m N=>?_,λi op o O l d P=>h.at_ i op o O (f l d) d P,λi op o O l d=>?_,?_,h.wu⟩;rintro⟨i,j,Q,⟨a,b,w,n,R⟩,W,X⟩;exact h.nr C ⟨i,j,Q,⟨a,b,old w,old n,R⟩,λe=>W (hb_app _ e),λe=>X (hb_app _ e)⟩;obtain⟨T,Y⟩:=h.wr i o b (old d) n K L B V;refine⟨T.app _,λk' D=>?_⟩;by_cases e:k'=k;subst e;exact fork_knows p E F S T;rw[upd_ne _ _ e]at D;exact(Y k' D).app _;obtain e|⟨e1,Z⟩:=h.sh i op o (f l d) d b n M;exact .inl e;refine .inr ⟨e1,Z.imp (λ⟨a,b,c'⟩=>⟨a,b,λH=>?_⟩) id⟩;by_cases e:c=k;subst e;have:=knows_own (f l d);rw[a]at this;exact fork_knows p E F S this;rw[upd_ne _ _ e]at H;exact(c' H).app _;have aa:=le c;obtain h'|h':=VJ.1 m;have:=h.cl op h' N;omega;simp only[VH,U8,Vf,Vh]at h';obtain rfl|rfl:=h';exact absurd (p.1.symm.trans N).symm J;have e:=N.symm.trans E.1;rw[e,upd_same];exact B;obtain e|e:=h.who i op o O (f l d) d;exact .inl e;have:=le op.g;exact .inr (by omega);rw[upd_ne _ _ (U4 I)];exact h.z_
def TI.owned{own':Nat->Nat}{B}(h:TI shun sp c T0 own low t)(l:∀(i) x b,touchAt t i=some x->blk x.loc=some b->b<B)(g:∀b,b<B->own' b=own b)(m:∀b,sp b->own' b=0):TI shun sp c T0 own' low t:=by (have lt:∀{i:Nat} {x:Touch} {b:Nat},touchAt t i=some x->blk x.loc=some b->b<B:=by intro i x b a d;exact l i x b a d);refine⟨h.nr,λi n x b e a d k=>?_,λi x b a d f=>?_,λi x b a d f=>?_,h.sh,h.cl,h.at_,h.who,h.z_,m⟩;have j:=lt (by rw[touchAt_of e];exact a) d;rw[g b j]at k⊢;exact h.NF i n x b e a d k;rw[g b (lt a d)]at f;exact h.wr i x b a d f;rw[g b (lt a d)]at f;exact h.tc i x b a d f
end
def Ty(t:Trace)(g:Nat):Prop:=∀i,t.g? i=some g->t.counts i->Knows t 0 i
def TI.past{shun sp c D0 B' own low Shun t u}(h:TI shun sp c t.size own low (t++u))(F:Past Shun D0 t)(G:∀g,low g≠0->Ty (t++u) g) (m:Deaf (t++u) 0=0) (seen:∀n∈t++u,n.act.low B'):Past (λl=>Shun l\/∃b,blk l=some b/\sp b) B' (t++u):=by refine⟨h.nr,λi a I H=>?_,λi g A o r=>?_,m,seen⟩;obtain⟨n,d,k⟩:=touch_of I;obtain⟨hi,f⟩|⟨hi,_⟩:=getElem?_append_cases d;(exact(F.known i a (by rw[touchAt_of f];exact k) H).imp (·.app u) λ⟨x,y⟩=>⟨.inl x,y⟩);obtain e|e:=h.who i n a hi d k;have:=knows_own d;rw[e]at this;exact .inl this;by_cases r:(t++u).counts i;exact .inl (G n.g e i (by simp[Trace.g?,d]) r);(have w:a.kind=.atomic:=by apply VV;intro w;exact r ⟨a,by simp[Trace.act?,d,k],H,.inl w⟩);exact .inr ⟨.inr (h.at_ i n a hi d k w),w⟩;obtain hi|hi:=UK i t.size;obtain⟨j,B,C⟩:=F.over i g (by rw[<-g?_old (u:=u) hi];exact A) o ((counts_old hi).1 r);(have D:j<t.size:=by unfold Trace.g? at B;obtain⟨z,s,_⟩:=Vi.1 B;exact lt_size_of_getElem? s);exact⟨j,by rw[g?_old D];exact B,hb_app u C⟩;obtain⟨n,d,p⟩:=Vi.1 A;have E:=r;obtain⟨x,J,_,_⟩:=E;obtain⟨K,f,k⟩:=touch_of J;rw[d]at f;cases f;obtain e|e:=h.who i n x hi d k;exact absurd (p.symm.trans e) o;rw[p]at e;obtain⟨q,z,s,v,hbe⟩:=G g e i A r;obtain rfl|hbe:=hbe;rw[d]at s;cases s;exact absurd (p.symm.trans v) o;exact⟨q,by simp[Trace.g?,s,v],hbe⟩
inductive iY{α:Type}(r:α->α->Prop):List α->List α->Prop
 |head {a' a:α} {l:List α}:r a' a->iY r (a'::l) (a::l)
 |tail {a:α} {l' l:List α}:iY r l' l->iY r (a::l') (a::l)
def iY.Qf{a}(r:a->a->Prop):Acc (iY r) []:=⟨_,λ_ h=>by cases h⟩
def iY.NH{e r a}(f:Acc r a):∀{l:List e},Acc (iY r) l->Acc (iY r) (a::l):=by induction f with|intro a _ b=>intro l g;induction g with|intro l c d=>refine⟨_,λy i=>?_⟩;cases i with|head h=>exact b _ h ⟨_,c⟩|tail h=>exact d _ h
def iY.wf{b}{r:b->b->Prop}(h:WellFounded r):WellFounded (iY r):=
 ⟨λl=>by
  induction l with
  |nil=>exact iY.Qf r
  |cons a l c=>exact iY.NH (h.apply a) c⟩
theorem iY.set{d r}:∀{l} {i} {a x:d},l[i]? =some a->r x a->iY r (l.set i x) l
 |b::l,0,a,x,h,c=>by simp at h;subst h;exact .head c
 |b::l,i+1,a,x,h,c=>.tail (iY.set (by simpa using h) c)
end Go.Tm
namespace Go.Tm
open Go.Conc Go.ConcN
open Go.ConcR (WgAt stA smA DC0)
structure RK(ty:TypeId)(Wg:Nat)(K:Nat->Prop)(w i1:x6):Prop where
 keep:∀b,K b->i1.heap[b]? =w.heap[b]?
 live:WgLive ty Wg w->WgLive ty Wg i1
 size:w.heap.size<=i1.heap.size
def RK.refl{ty Wg K}(w):RK ty Wg K w w:=⟨λ_ _=>rfl,id,UI _⟩
def RK.trans{ty Wg K a b c}(h:RK ty Wg K a b)(d:RK ty Wg K b c):RK ty Wg K a c:=⟨λx e=>(d.keep x e).trans (h.keep x e),d.live ∘ h.live,UJ h.size d.size⟩
def EvK(Wg:Nat)(K M:Nat->Prop)(e:Event):Prop:=(∀x,(MemAct.ofEvent e).touch?=some x->∃b,blk x.loc=some b/\((x.kind=.plain/\K b/\(x.write=true->M b))\/(b=Wg/\x.kind=.atomic)))/\e.loc≠ .mark .disable/\e.loc≠ .mark .enable/\(∀a,e.loc≠ .mark (.release a))/\∀B,(MemAct.ofEvent e).touch?=none->(MemAct.ofEvent e).low B
def Io(w w':x6)(b:Nat):Prop:=w.heap.size<=b/\b<w'.heap.size
def orK(K:Nat->Prop)(w w':x6)(b:Nat):Prop:=K b\/Io w w' b
def cN{K w w'}(h:w'.heap.size=w.heap.size):orK K w w'=K:=by funext b;apply propext;unfold orK Io;constructor;rintro(x|⟨x,y⟩);exact x;omega;exact .inl
abbrev aL:=(Nat->Prop)->(Nat->Prop)->Zx->x6->Prop
section
variable (P:Program) (mn:Bool) (ty:TypeId) (Wg:Nat)
def Tz(K M:Nat->Prop)(g:Zx)(a:x6):Prop:=∃g' w' es,stepG P mn g a=.go g' w' es/\Eff M a w'/\∀e∈es,EvK Wg (orK K a w') (orK M a w') e
inductive Run(S:aL):(Nat->Prop)->(Nat->Prop)->Zx->x6->Prop
 |stop {K M:Nat->Prop} {g:Zx} {w:x6}:(∀i1,RK ty Wg K w i1->S K M g i1)->Run S K M g w
 |step {K M:Nat->Prop} {g:Zx} {w:x6}:g.status=.running->(∀i1,RK ty Wg K w i1->Tz P mn Wg K M g i1)->(∀i1 g' w' es,RK ty Wg K w i1->stepG P mn g i1=.go g' w' es->Run S (orK K i1 w') (orK M i1 w') g' w')->Run S K M g w
structure Cfg where
 K:Nat->Prop
 M:Nat->Prop
 g:Zx
 w:x6
def AtS(S:aL)(c:Cfg):Prop:=∀a,RK ty Wg c.K c.w a->S c.K c.M c.g a
def Nxt(S:aL)(c' c:Cfg):Prop:=¬AtS ty Wg S c/\∃a g' w' es,RK ty Wg c.K c.w a/\stepG P mn c.g a=.go g' w' es/\c'=⟨orK c.K a w',orK c.M a w',g',w'⟩
end
section
variable {P:Program} {mn:Bool} {ty:TypeId} {Wg:Nat} {S:aL}
def Run.acc{K M g w}(h:Run P mn ty Wg S K M g w):Acc (Nxt P mn ty Wg S) ⟨K,M,g,w⟩:=by induction h with|stop h=>exact⟨_,λ_ b=>absurd h b.1⟩| @step K M g w f h i d=>refine⟨_,λc' b=>?_⟩;obtain⟨_,a,g',w',es,e,c,rfl⟩:=b;exact d a g' w' es e c
def Run.ks{K M g w}(k:g.status=.running) (h:∀f,RK ty Wg K w f->∃g' w' es,stepG P mn g f=.go g' w' es/\Eff M f w'/\(∀e∈es,EvK Wg (orK K f w') (orK M f w') e)/\Run P mn ty Wg S (orK K f w') (orK M f w') g' w'):Run P mn ty Wg S K M g w:=by refine .step k (λf i=>?_) λf g' w' es i j=>?_;obtain⟨g',w',es,a,b,c,_⟩:=h f i;exact⟨g',w',es,a,b,c⟩;obtain⟨m,w2,l,a,b,c,d⟩:=h f i;rw[j]at a;cases a;exact d
def Run.rely{K M g w i1}(h:Run P mn ty Wg S K M g w)(c:RK ty Wg K w i1):Run P mn ty Wg S K M g i1:=by cases h with|stop h=>exact .stop λa b=>h a (c.trans b)|step d h e=>exact .step d (λa b=>h a (c.trans b)) λa g' w' es b=>e a g' w' es (c.trans b)
def Run.qR{K M g w}(h:Run P mn ty Wg S K M g w):S K M g w\/(g.status=.running/\∃g' w' es,stepG P mn g w=.go g' w' es/\Eff M w w'/\(∀e∈es,EvK Wg (orK K w w') (orK M w w') e)/\Run P mn ty Wg S (orK K w w') (orK M w w') g' w'):=by cases h with|stop h=>exact .inl (h w (.refl w))|step d h f=>obtain⟨g',w',es,a,b,c⟩:=h w (.refl w);exact .inr ⟨d,g',w',es,a,b,c,f w g' w' es (.refl w) a⟩
def Run.bind{d K M g w}(h:Run P mn ty Wg S K M g w)(e:∀K M g w,S K M g w->Run P mn ty Wg d K M g w):Run P mn ty Wg d K M g w:=by induction h with| @stop K M g w h=>exact e _ _ _ _ (h w (.refl w))|step f h j i=>exact .step f h λa g' w' es b c=>i a g' w' es b c
end
end Go.Tm
namespace Go.Tm
open Go.Conc Go.ConcN
section
variable {S:Kn} {P:Program} {fs:Array Func} {Pr:Nat->Prop}
def bt.EZ{π:Ren P.globals.size}{w W Y1:x6}(h:bt S Pr π w W)(c:∀R,(∃r,π r R)->Y1.heap[R]? =W.heap[R]?)(e:∀R,Pr R->∃r,π r R)(a:W.heap.size<=Y1.heap.size):bt S Pr π w Y1:=⟨λr R b=>by rw[c R ⟨r,b⟩];exact h.obj r R b,h.vJ,λR d=>UL (h.wY R d) a,h.gw,UJ h.gW a,h.w0⟩
def Cp.EZ{Post π c F CS W Y1}(h:Cp S P fs Pr Post π c F CS W)(a:∀R,(∃r,π r R)->Y1.heap[R]? =W.heap[R]?)(b:∀R,Pr R->∃r,π r R)(d:W.heap.size<=Y1.heap.size):Cp S P fs Pr Post π c F CS Y1:=⟨h.top,h.cs,h.w.EZ a b d,h.flat,h.rG,h.dF⟩
def qS(π:Ren P.globals.size)(R:Nat):Prop:=∃r,π r R
def iV.EZ{c e f d k Post l m F CS}{W Y1:x6}(h:iV S P fs c d k Post e f l m F CS W) (i:∀R,qS e R->Y1.heap[R]? =W.heap[R]?) (n:W.heap.size<=Y1.heap.size):iV S P fs c d k Post e f l m F CS Y1:=
 ⟨h.a.EZ i (λR ⟨r,g⟩=>⟨r,h.la _ _ g⟩) n,h.b.EZ (λR j=>i R ((h.same R).2 j)) (λR j=>j.elim) n,h.la,h.lb,h.base,λr R g=>(i R ⟨r,h.la _ _ g⟩).trans (h.old r R g),h.same⟩
def ya{π c:Ren P.globals.size}{W W':x6}(e:∀r R,c r R->π r R\/W.heap.size<=R)(f:∀R,W.heap.size<=R->R<W'.heap.size->∃r,c r R)(g:Ren.le π c)(h:∀r R,c r R->R<W'.heap.size):qS c=orK (qS π) W W':=by funext R;apply propext;unfold orK Io qS;constructor;rintro⟨r,d⟩;(exact(e r R d).imp (λx=>⟨r,x⟩) λx=>⟨x,h r R d⟩);rintro(⟨r,d⟩|⟨a,b⟩);exact⟨r,g _ _ d⟩;exact f R a b
def AH{d}{π:Ren P.globals.size}{Wg e}(h:lO d π e):EvK Wg (qS π) (λb=>qS π b/\¬d b) e:=by
 obtain⟨i,wr,l⟩:=e;unfold lO at h;cases i with
 |cell A=>obtain⟨rfl,c,j⟩:=h;refine⟨λx a=>?_,by simp,by simp,by simp,λB h=>by simp[MemAct.ofEvent,MemAct.touch?]at h⟩;simp[MemAct.ofEvent,MemAct.touch?]at a;subst a;exact⟨A.block,rfl,.inl ⟨rfl,c,λg=>⟨c,j g⟩⟩⟩
 |obj R=>(obtain⟨k,c,j⟩:=h;simp only at k;subst k;refine⟨λx a=>?_,by simp,by simp,by simp,λB h=>by cases wr<;>simp[MemAct.ofEvent,MemAct.touch?]at h⟩;cases wr<;>(simp[MemAct.ofEvent,MemAct.touch?]at a;subst a));exact⟨R,rfl,.inl ⟨rfl,c,λg=>by cases g⟩⟩;exact⟨R,rfl,.inl ⟨rfl,c,λg=>⟨c,j rfl⟩⟩⟩
 |mark m=>cases m with|extern f=>exact⟨λx a=>by simp[MemAct.ofEvent,MemAct.touch?]at a,by simp,by simp,by simp,λB _=>trivial⟩|noRoom=>exact⟨λx a=>by simp[MemAct.ofEvent,MemAct.touch?]at a,by simp,by simp,by simp,λB _=>trivial⟩|_=>exact h.elim
 |_=>exact h.elim
def vo(V:Tab S P fs)(n:∀f,S.stop f=false)(o:∀g,S.calm g){mn ty Wg Q d l L Post B}(q) (s:∀(i k) (C D) (F) (W),Ren.le q i->iV S P fs d l L Post i k C D F [] W->C.AtE->Run P mn ty Wg Q (qS i) (iV.Own d i) ⟨F,B,.running,none,none⟩ W) {i k} {C D} {F} {CS} {W} (M:Ren.le q i) (h:iV S P fs d l L Post i k C D F CS W):Run P mn ty Wg Q (qS i) (iV.Own d i) ⟨F,CS++B,.running,none,none⟩ W:=by have t:=h.a.rG.acc;induction t generalizing i k D F CS W with|intro c _ X=>by_cases E:c.AtE;have u:=h.a.cs;rw[E.1]at u;cases u;exact s _ _ _ _ _ _ M h E;refine .ks rfl λv m=>?_;(have Y:=h.EZ m.keep m.size;obtain⟨z,N,G,Z,FR,aa,W',ev,hr,H,I,A,o1,o2,o3,J,j⟩:=Y.step V n o E mn;have O:=ya j.old j.new j.le λr R p=>(H.a.w.lt p).2;have T:iV.Own d z=orK (iV.Own d i) v W':=by funext b;apply propext;constructor;intro U;(obtain⟨⟨r,p⟩,_⟩:=id U;exact(o2 b U).imp id λx=>⟨x,(H.a.w.lt p).2⟩);rintro(x|⟨x,y⟩);exact o1 b x;exact o3 b x y);refine⟨_,W',ev,I B,A,λe K=>?_,?_⟩;rw[<-O,<-T];exact AH (J e K);rw[<-O,<-T];exact X G hr (Ren.le_trans M j.le) H
end
section
variable {S:Kn} {P:Program} {fs:Array Func}
def iV.leave(I:Tab S P fs){d f s g Z Post J cB F W}(h:iV S P fs d g Z Post f s J cB F [] W)(t:J.AtE)(C B mn Wg):∃(v V:Zj) (w' W':x6) (ev:Array Event) (πA':Ren P.globals.size),stepG P mn ⟨F,C::B,.running,none,none⟩ W=.go ⟨C.finish V,B,.running,none,none⟩ W' ev/\Post v w'/\aw πA' v V/\Eff (iV.Own d f) W W'/\(∀e∈ev,EvK Wg (orK (qS f) W W') (orK (iV.Own d f) W W') e)/\(∀r R,d r R->W'.heap[R]? =g.heap[R]?)/\bt S (λR=>∃r,d r R) πA' w' W'/\Ren.le f πA':=by (have u:cB.AtE:=by rw[wQ h.b];rw[wQ h.a]at t;exact t);(obtain⟨_,v,V,w',W',ev,πA',a1,a2,K,a4,L,j,a7⟩:=h.a.returns I t C B mn;obtain⟨_,v2,V2,w2,W2,aa,M,b1,b2,z,b4,b5,N,b7⟩:=h.b.returns I u C B mn;rw[K]at z;simp only[GStep.go.injEq]at z;obtain⟨_,e3,_⟩:=z;subst e3;have k:∀r R,d r R->W'.heap[R]? =g.heap[R]? :=by intro r R i;obtain⟨c,Q,e,l,A,D⟩:=h.base r R i;obtain⟨F',m⟩:=j.oD R ⟨r,i⟩ Q e l (by rw[h.old r R i,D]);obtain⟨C1,F1,n,E⟩:=N.fz R Q e l (by rw[h.old r R i,D]);rw[m]at n;simp only[Vw,Obj.cells.injEq,Xx]at n;obtain⟨rfl,rfl⟩:=n;obtain⟨o,O,T,U,p⟩:=b5.obj r R (N.le _ _ (h.lb _ _ i));rw[b1 r R i,A]at T;rw[m]at U;cases T;cases U;cases p with|cells _ _ hf=>rw[m,D,AG E (.refl _) hf]);have X:=ya j.old j.new j.le λr R G=>(L.lt G).2;refine⟨v,V,w',W',ev,πA',K,a1,a4,⟨j.os,j.tape,j.output,j.size,λb A q=>?_⟩,λe H=>?_,k,L,j.le⟩;by_cases Y:∃r,f r b;have:∃r,d r b:=VV λhx=>q ⟨Y,hx⟩;obtain⟨r,i⟩:=this;rw[k r b i,h.old r b i];exact j.keep b A Y;(have hm:(λb=>qS πA' b/\¬∃r,d r b)=orK (iV.Own d f) W W':=by funext b;apply propext;rw[X];constructor;rintro⟨x|x,q⟩;exact .inl ⟨x,q⟩;exact .inr x;rintro(⟨x,q⟩|⟨x,y⟩);exact⟨.inl x,q⟩;refine⟨.inr ⟨x,y⟩,λ⟨r,i⟩=>?_⟩;have:=(h.a.w.lt (h.la _ _ i)).2;omega);have:=AH (Wg:=Wg) (a7 e H);rw[hm,X]at this;exact this
end
end Go.Tm
namespace Go.Tm
open Go.Conc Go.ConcN Go.Conc.Lib
open Go.ConcR (KK WgAt stA smA rd wr mk DC0 Payload)
section
variable (P:Program) (ty:TypeId) (Wg ch:Nat) (z:Zj)
def Still(S:aL)(K M:Nat->Prop)(g:Zx)(w:x6):Prop:=∃m,Goes P false (RK ty Wg K) DC0 (S K M) m g w
def SD4:aL:=λ_ _ g w=>g.status=.running/\mayWake P g=true/\(WgAt ty Wg w 0 0->∃g',stepG P false g w=.go g' (w.setCell (smA Wg) (.int .u32 1)) (semEvents (smA Wg))/\∃q,QuitsD P q 1 g')
def SD3:aL:=λK M g w=>g.status=.running/\(WgAt ty Wg w 1 0->∃g',stepG P false g w=.go g' (w.setCell (stA Wg) (.int .u64 0)) #[wr (stA Wg)]/\Still P ty Wg (SD4 P ty Wg) K M g' (w.setCell (stA Wg) (.int .u64 0)))
def SD2:aL:=λK M g w=>g.status=.running/\(WgAt ty Wg w 1 0->∃g',stepG P false g w=.go g' w #[rd (stA Wg)]/\Still P ty Wg (SD3 P ty Wg) K M g' w)
def SD1:aL:=λK M g w=>g.status=.running/\∀v a:Nat,a<=1->v<2147483647->WgAt ty Wg w ((v+1)*KK+a) 0->∃g',stepG P false g w=.go g' (w.setCell (stA Wg) (.int .u64 (v*KK+a))) #[rd (stA Wg),wr (stA Wg)]/\((v=0/\a=1)->Still P ty Wg (SD2 P ty Wg) K M g' (w.setCell (stA Wg) (.int .u64 (v*KK+a))))/\(¬(v=0/\a=1)->∃q,QuitsD P q 1 g')
def SK1:aL:=λK M g w=>g.status=.running/\∃g',stepG P false g w=.go g' w #[mk .disable]/\Still P ty Wg (SD1 P ty Wg) K M g' w
def SR0:aL:=λK M g w=>g.status=.running/\∃g',stepG P false g w=.go g' w #[mk (.releaseMerge (stA Wg))]/\Still P ty Wg (SK1 P ty Wg) K M g' w
def NI(v:Zj):aL:=let _z:=z;λK M g w=>g.status=.running/\(∃es,es=(#[]:Array Event)/\stepG P false g w=.comm {g with offers:=none} #[scase ch v undef] true .send w es)/\(Run P false ty Wg) (SR0 P ty Wg) K M (Conc.served g undef) w
def SWk(a:Option Zj):aL:=λK M g w=>match a with|some v=>NI P ty Wg ch z v K M g w|none=>SR0 P ty Wg K M g w
def closeEvents:Array Event:=#[⟨.obj ch,false,true⟩,⟨.obj ch,true,true⟩]
def SCl:aL:=λ_ _ g w=>g.status=.running/\mayWake P g=true/\∀s r a,w.heap[ch]? =some (.chan 0 #[] false s r a)->∃g',stepG P false g w=.go g' {w with heap:=w.heap.setIfInBounds ch (.chan 0 #[] true s r a)} (closeEvents ch)/\∃q,QuitsD P q 0 g'
def Qg:aL:=λK M g w=>g.status=.running/\∃g',stepG P false g w=.go g' w #[mk (.acquire (stA Wg))]/\(Run P false ty Wg) (SCl P ch) K M g' w
def SWe:aL:=λK M g w=>g.status=.running/\∃g',stepG P false g w=.go g' w #[mk .enable]/\(Run P false ty Wg) (Qg P ty Wg ch) K M g' w
def SW4:aL:=λK M g w=>g.status=.running/\(WgAt ty Wg w 0 0->∃g',stepG P false g w=.go g' w #[rd (stA Wg)]/\(Run P false ty Wg) (SWe P ty Wg ch) K M g' w)
def SW3:aL:=λK M g w=>g.status=.running/\g.offers=none/\((∃st,WgAt ty Wg w st 0)->stepG P false g w=.go {g with status:=.blocked} w #[])/\(WgAt ty Wg w 0 1->∃g',stepG P false g w=.go g' (w.setCell (smA Wg) (.int .u32 0)) (semEvents (smA Wg))/\(Run P false ty Wg) (SW4 P ty Wg ch) K M g' (w.setCell (smA Wg) (.int .u32 0)))
def SSw:aL:=λK M g w=>g.status=.running/\∃g',stepG P false g w=.go g' w #[mk (.write (smA Wg))]/\(Run P false ty Wg) (SW3 P ty Wg ch) K M g' w
variable (An:aL)
def SW2(a:Nat):aL:=λK M g w=>g.status=.running/\∀v:Nat,v<2147483648->WgAt ty Wg w (v*KK) 0->
 (v=a->∃g',stepG P false g w=.go g' (w.setCell (stA Wg) (.int .u64 (v*KK+1))) #[rd (stA Wg),wr (stA Wg)]/\(Run P false ty Wg) (SSw P ty Wg ch) K M g' (w.setCell (stA Wg) (.int .u64 (v*KK+1))))/\
 (v≠a->∃g',stepG P false g w=.go g' w #[rd (stA Wg)]/\(Run P false ty Wg) An K M g' w)
def SW1:aL:=λK M g w=>g.status=.running/\∀v:Nat,v<2147483648->WgAt ty Wg w (v*KK) 0->∃g',stepG P false g w=.go g' w #[rd (stA Wg)]/\(v=0->(Run P false ty Wg) (SWe P ty Wg ch) K M g' w)/\(v≠0->(Run P false ty Wg) (SW2 P ty Wg ch An v) K M g' w)
def SWd:aL:=λK M g w=>g.status=.running/\∃g',stepG P false g w=.go g' w #[mk .disable]/\(Run P false ty Wg) (SW1 P ty Wg ch An) K M g' w
variable (HV:Nat->Option Zj) (Fin:List Zj->aL) (n:Nat)
def pj:Nat->List Zj->aL
 |0,a=>λK M g w=>g.status=.running/\stepG P true g w=.comm {g with offers:=none} #[rcase ch z] true (.recv true) w #[]/\Fin a K M (Conc.served g (.tuple #[z,.bool false])) w
 |r+1,a=>λK M g w=>g.status=.running/\stepG P true g w=.comm {g with offers:=none} #[rcase ch z] true (.recv true) w #[]/\Fin a K M (Conc.served g (.tuple #[z,.bool false])) w/\∀i v,i<n->HV i=some v->(Run P true ty Wg) (pj r (a++[v])) K M (Conc.served g (.tuple #[v,.bool true])) w
def KO:aL:=λK M g w=>g.status=.running/\∃g' a Kc,stepG P true g w=.spawn g' a w #[]/\a.status=.running/\a.offers=none/\(∀b,Kc b->K b)/\(Run P false ty Wg) (SWd P ty Wg ch An) Kc (λ_=>False) a w/\(Run P true ty Wg) (pj P ty Wg ch z HV Fin n n []) K (λ_=>False) g' w
def SGo(r:Nat)(Nx:aL):aL:=λK M g w=>g.status=.running/\∃g' a Kc,stepG P true g w=.spawn g' a w #[]/\a.status=.running/\a.offers=none/\(∀b,Kc b->K b)/\(Run P false ty Wg) (SWk P ty Wg ch z (HV (n-(r+1)))) Kc (λ_=>False) a w/\(Run P true ty Wg) Nx K (λ_=>False) g' w
def SKe(r:Nat)(Nx:aL):aL:=λK M g w=>g.status=.running/\∃g',stepG P true g w=.go g' w #[mk .enable]/\(Run P true ty Wg) (SGo P ty Wg ch z HV n r Nx) K M g' w
def SSr(r:Nat)(Nx:aL):aL:=λK M g w=>g.status=.running/\∃g',stepG P true g w=.go g' w #[mk (.read (smA Wg))]/\(Run P true ty Wg) (SKe P ty Wg ch z HV n r Nx) K M g' w
def SA1(r:Nat)(Nx:aL):aL:=λK M g w=>g.status=.running/\∀v:Nat,v<2147483647->WgAt ty Wg w (v*KK) 0->∃g',stepG P true g w=.go g' (w.setCell (stA Wg) (.int .u64 ((v+1)*KK))) #[rd (stA Wg),wr (stA Wg)]/\((Run P true ty Wg) (SSr P ty Wg ch z HV n r Nx) K M g' (w.setCell (stA Wg) (.int .u64 ((v+1)*KK)))\/(Run P true ty Wg) (SKe P ty Wg ch z HV n r Nx) K M g' (w.setCell (stA Wg) (.int .u64 ((v+1)*KK))))
def SKd(r:Nat)(Nx:aL):aL:=λK M g w=>g.status=.running/\∃g',stepG P true g w=.go g' w #[mk .disable]/\(Run P true ty Wg) (SA1 P ty Wg ch z HV n r Nx) K M g' w
def SSp:Nat->aL
 |0=>KO P ty Wg ch z An HV Fin n
 |r+1=>SKd P ty Wg ch z HV n r (SSp r)
end
section
variable {P:Program} {ty:TypeId} {Wg ch:Nat} {z:Zj}
def RK.rl{K w i1}(h:RK ty Wg K w i1):RL ty Wg w i1:=h.live
section worker
variable [Payload] {C n0:Nat} {K M:Nat->Prop} {v:Zj}
def RK.rw{w i1}(c:K C)(h:RK ty Wg K w i1):RW ty Wg C n0 0 0 w i1:=⟨λb d=>absurd d (UX _),h.live,λ⟨cs,a,b⟩=>⟨cs,(h.keep C c).trans a,b⟩,cell_of_block (h.keep C c) 0⟩
omit [Payload]in
def NJ{mn}{R R':x6->x6->Prop}{D}{f c:Zx->x6->Prop}(e:∀w a,R' w a->R w a)(i:∀g w,f g w->c g w):∀{m} {g} {w},Goes P mn R D f m g w->Goes P mn R' D c m g w:=by intro m;induction m with|zero=>exactλh a b=>i _ _ (h a (e _ _ b))|succ m j=>intro g w h;obtain h|⟨k,h⟩:=h;exact .inl λa b=>i _ _ (h a (e _ _ b));refine .inr ⟨k,λa b=>?_⟩;have:=h a (e _ _ b);cases d:stepG P mn g a with|go g' w' es=>rw[d,goes_go]at this;rw[goes_go];exact⟨this.1,j this.2⟩|_=>rw[d]at this;exact this.elim
def ni{a}{S:aL}(b:K C){g w}(h:∃m,Goes P false (RW ty Wg C n0 0 0) DC0 a m g w)(c:∀g w,a g w->S K M g w):Still P ty Wg S K M g w:=let⟨m,h⟩:=h;⟨m,NJ (λ_ _ r=>r.rw b) c h⟩
def TA(c:K C)(g w)(h:AtD3 P ty Wg C n0 0 1 g w):SD3 P ty Wg K M g w:=⟨h.1,λx=>let⟨g',a,b⟩:=h.2 x;⟨g',a,ni c b λ_ _ y=>y⟩⟩
def TB(c:K C)(g w)(h:AtD2 P ty Wg C n0 0 1 g w):SD2 P ty Wg K M g w:=⟨h.1,λx=>let⟨g',a,b⟩:=h.2 x;⟨g',a,ni c b (TA c)⟩⟩
def TC(d:K C)(g w)(h:AtD1 P ty Wg C n0 0 1 g w):SD1 P ty Wg K M g w:=⟨h.1,λv f i j k=>let⟨g',a,b,c⟩:=h.2 v f i j k;⟨g',a,λe=>ni d (b e) (TB d),c⟩⟩
def TD(c:K C)(g w)(h:AtK1 P ty Wg C n0 0 1 g w):SK1 P ty Wg K M g w:=⟨h.1,let⟨g',a,b⟩:=h.2;⟨g',a,ni c b (TC c)⟩⟩
def TE(c:K C)(g w)(h:AtR0 P ty Wg C n0 0 1 v g w):SR0 P ty Wg K M g w:=⟨h.1,let⟨g',a,b⟩:=h.2.2;⟨g',a,ni c b (TD c)⟩⟩
end worker
end
end Go.Tm
namespace Go.Tm
open Go.Conc Go.ConcN
section
variable (P:Program) (ty:TypeId) (Wg:Nat)
structure RC where
 mn:Bool
 S:aL
 c:Cfg
 acc:Acc (Nxt P mn ty Wg S) c
def RC.lt(a b:RC P ty Wg):Prop:=a.mn=b.mn/\a.S=b.S/\Nxt P b.mn ty Wg b.S a.c b.c
def RC.wf:WellFounded (RC.lt P ty Wg):=⟨λ⟨mn,S,c,acc⟩=>by (have key:∀c,(h:Acc (Nxt P mn ty Wg S) c)->Acc (RC.lt P ty Wg) ⟨mn,S,c,h⟩:=by intro c h;induction h with|intro c f d=>refine⟨_,?_⟩;rintro⟨e,i,c',a⟩ ⟨e1,b,h⟩;simp only at e1 b h;subst e1;subst b;exact d c' h);exact key c acc⟩
abbrev Rk:=Nat×Nat×RC P ty Wg
def Rk.lt:Rk P ty Wg->Rk P ty Wg->Prop:=Prod.Lex (· < ·) (Prod.Lex (· < ·) (RC.lt P ty Wg))
def Rk.wf:WellFounded (Rk.lt P ty Wg):=(Prod.lex Nat.lt_wfRel (Prod.lex Nat.lt_wfRel ⟨_,RC.wf P ty Wg⟩)).wf
structure cW(mn:Bool)(S:aL)(K M:Nat->Prop)(g:Zx)(w:x6)(x:RC P ty Wg):Prop where
 mn_:x.mn=mn
 S_:x.S=S
 K_:x.c.K=K
 M_:x.c.M=M
 g_:x.c.g=g
 rk:RK ty Wg K x.c.w w
 run:Run P mn ty Wg S K M g x.c.w
end
section
variable {P:Program} {ty:TypeId} {Wg:Nat} {mn:Bool} {S:aL} {K M:Nat->Prop} {g:Zx} {w i1:x6}
def cW.of(h:Run P mn ty Wg S K M g w):∃x,cW P ty Wg mn S K M g w x:=⟨⟨mn,S,⟨K,M,g,w⟩,h.acc⟩,rfl,rfl,rfl,rfl,rfl,.refl _,h⟩
def cW.rely{x}(h:cW P ty Wg mn S K M g w x)(r:RK ty Wg K w i1):cW P ty Wg mn S K M g i1 x:={h with rk:=h.rk.trans r}
def cW.now{x}(h:cW P ty Wg mn S K M g w x):Run P mn ty Wg S K M g w:=h.run.rely h.rk
def cW.qR{x}(h:cW P ty Wg mn S K M g w x):S K M g w\/(g.status=.running/\∃g' w' es k,stepG P mn g w=.go g' w' es/\Eff M w w'/\(∀e∈es,EvK Wg (orK K w w') (orK M w w') e)/\cW P ty Wg mn S (orK K w w') (orK M w w') g' w' k/\RC.lt P ty Wg k x):=by by_cases l:AtS ty Wg S x.c;left;have:=l w (by rw[h.K_];exact h.rk);rw[h.K_,h.M_,h.g_]at this;exact this;have n:=h.run;cases n with|stop i=>exact .inl (i w h.rk)|step d f j=>obtain⟨g',w',es,a,b,c⟩:=f w h.rk;have m:=j w g' w' es h.rk a;refine .inr ⟨d,g',w',es,⟨mn,S,⟨_,_,g',w'⟩,m.acc⟩,a,b,c,⟨rfl,rfl,rfl,rfl,rfl,.refl _,m⟩,h.mn_.symm,h.S_.symm,?_⟩;have e1:=h.mn_;have o:=h.S_;have e3:=h.K_;have e4:=h.M_;have e5:=h.g_;refine⟨by rw[o];exact l,w,g',w',es,by rw[e3];exact h.rk,by rw[e1,e5];exact a,by rw[e3,e4]⟩
def cW.mK{x}(h:cW P ty Wg mn S K M g w x):(∀i1,RK ty Wg K w i1->S K M g i1)\/(g.status=.running/\∃g' w' es l,stepG P mn g w=.go g' w' es/\Eff M w w'/\(∀e∈es,EvK Wg (orK K w w') (orK M w w') e)/\cW P ty Wg mn S (orK K w w') (orK M w w') g' w' l/\RC.lt P ty Wg l x):=by by_cases m:AtS ty Wg S x.c;left;intro i1 d;have:=m i1 (by rw[h.K_];exact h.rk.trans d);rw[h.K_,h.M_,h.g_]at this;exact this;have o:=h.run;cases o with|stop j=>exact .inl λi1 d=>j i1 (h.rk.trans d)|step f i k=>obtain⟨g',w',es,a,b,c⟩:=i w h.rk;have n:=k w g' w' es h.rk a;refine .inr ⟨f,g',w',es,⟨mn,S,⟨_,_,g',w'⟩,n.acc⟩,a,b,c,⟨rfl,rfl,rfl,rfl,rfl,.refl _,n⟩,h.mn_.symm,h.S_.symm,?_⟩;have e1:=h.mn_;have p:=h.S_;have e3:=h.K_;have e4:=h.M_;have e5:=h.g_;refine⟨by rw[p];exact m,w,g',w',es,by rw[e3];exact h.rk,by rw[e1,e5];exact a,by rw[e3,e4]⟩
def cW.status(a:∀K M g w,S K M g w->g.status=.running){x}(h:cW P ty Wg mn S K M g w x):g.status=.running:=by obtain h|h:=h.qR;exact a _ _ _ _ h;exact h.1
end
section
variable {P:Program} {mn:Bool} {ty:TypeId} {Wg:Nat} {S:aL} {K M:Nat->Prop} {w:x6} {b:Frame} {a:Act} {k:List Item} {cs:List Frame} {ops:Array Oper} {i:Nat} {rest:List Nat} {o:Oper}
def Run.still{g g'}(e:g.status=.running)(h:∀c,stepG P mn g c=.go g' c #[])(f:(Run P mn ty Wg S) K M g' w):(Run P mn ty Wg S) K M g w:=.ks e λc d=>⟨g',c,#[],h c,Eff.refl _ _,by simp,by rw[cN rfl,cN rfl];exact f.rely d⟩
def Run.value(f:ops[i]? =some o)(g:Region.wanted o (yielded ops a.tmps)=true)(j:b.kind≠ .early) (h:∀c,RK ty Wg K w c->∃v w',(execOp a.eval o).run P c=.ok (.value v) w'/\Eff M c w'/\(∀e∈(execOp a.eval o).events P c #[],EvK Wg (orK K c w') (orK M c w') e)/\(Run P mn ty Wg S) (orK K c w') (orK M c w') (G (b.at (a.put o.dst v) (.inRegion ops rest::k)) cs) w'):(Run P mn ty Wg S) K M (G (b.at a (.inRegion ops (i::rest)::k)) cs) w:=
 .ks rfl λc d=>by obtain⟨v,w',l,m,n,p⟩:=h c d;exact⟨_,w',_,stepG_value f g j l,m,λe q=>n e (mem_seen q),p⟩
def Run.none(f:ops[i]? =some o)(g:Region.wanted o (yielded ops a.tmps)=true)(j:b.kind≠ .early) (h:∀c,RK ty Wg K w c->∃w',(execOp a.eval o).run P c=.ok .skip w'/\Eff M c w'/\(∀e∈(execOp a.eval o).events P c #[],EvK Wg (orK K c w') (orK M c w') e)/\(Run P mn ty Wg S) (orK K c w') (orK M c w') (G (b.at (a.put o.dst undef) (.inRegion ops rest::k)) cs) w'):(Run P mn ty Wg S) K M (G (b.at a (.inRegion ops (i::rest)::k)) cs) w:=
 .ks rfl λc d=>by obtain⟨w',l,m,n,p⟩:=h c d;exact⟨_,w',_,stepG_none f g j l,m,λe q=>n e (mem_seen q),p⟩
def Run.pure(v)(e:ops[i]? =some o)(f:Region.wanted o (yielded ops a.tmps)=true)(g:b.kind≠ .early)(h:∀c,(execOp a.eval o).run P c=.ok (.value v) c)(j:∀c,(execOp a.eval o).events P c #[]=#[]) (l:(Run P mn ty Wg S) K M (G (b.at (a.put o.dst v) (.inRegion ops rest::k)) cs) w):(Run P mn ty Wg S) K M (G (b.at a (.inRegion ops (i::rest)::k)) cs) w:=
 .value e f g λc d=>⟨v,c,h c,Eff.refl _ _,by rw[j];simp,by rw[cN rfl,cN rfl];exact l.rely d⟩
def Fp{t:TypeId}{d:TypeDesc}(c:P.underlying t=some d)(w:x6):(isAgg t).run P w=.ok (match d with| .struct _| .array _ _=>true|_=>false) w:=by unfold isAgg;rw[Sem.run_bind,run_underlying c w];cases d<;>simp
def yn{t d}(c:P.underlying t=some d)(w es):(isAgg t).events P w es=es:=by unfold isAgg underlying;simp only[Sem.events_bind];simp[c];cases d<;>simp
def td{K M A}(h:K A.block):EvK Wg K M ⟨.cell A,false,false⟩:=by refine⟨λx c=>?_,by simp,by simp,by simp,λB h=>by simp[MemAct.ofEvent,MemAct.touch?]at h⟩;simp[MemAct.ofEvent,MemAct.touch?]at c;subst c;exact⟨A.block,rfl,.inl ⟨rfl,h,λe=>by cases e⟩⟩
def AU{K M A}(h:K A.block)(d:M A.block):EvK Wg K M ⟨.cell A,true,false⟩:=by refine⟨λx c=>?_,by simp,by simp,by simp,λB h=>by simp[MemAct.ofEvent,MemAct.touch?]at h⟩;simp[MemAct.ofEvent,MemAct.touch?]at c;subst c;exact⟨A.block,rfl,.inl ⟨rfl,h,λ_=>d⟩⟩
def Run.Fq(q:ops[i]? =some o)(r:Region.wanted o (yielded ops a.tmps)=true)(s:b.kind≠ .early){t:TypeId}{x:Operand}(g:o.op=.load t x){A:Addr}(m:a.eval x=.pointer (some A))(z:A.spot=Option.none){d:TypeDesc}(n:P.underlying t=some d)(u:(match d with| .struct _| .array _ _=>true|_=>false)=false) (h:K A.block) {v:Zj} (p:w.cell? A=some v) (y:(Run P mn ty Wg S) K M (G (b.at (a.put o.dst v) (.inRegion ops rest::k)) cs) w):(Run P mn ty Wg S) K M (G (b.at a (.inRegion ops (i::rest)::k)) cs) w:=by (have f:∀i1,(isAgg t).run P i1=.ok false i1:=λi1=>by rw[Fp n i1,u]);(refine .value q r s λi1 c=>⟨v,i1,?_,Eff.refl _ _,?_,by rw[cN rfl,cN rfl];exact y.rely c⟩);(have j:i1.cell? A=some v:=by rw[<-p];unfold World.cell?;rw[c.keep A.block h]);unfold execOp;simp[g,m,Instr.loadAt,Instr.sureAddr,loadVar,Sem.run_bind,f,j];(have j:i1.cell? A=some v:=by rw[<-p];unfold World.cell?;rw[c.keep A.block h]);rw[cN rfl,cN rfl];intro e l;unfold execOp at l;simp[g,m,Instr.loadAt,Instr.sureAddr,loadVar,Sem.events_bind,f,yn n,j]at l;subst l;exact td h
theorem fT(A)(f:A.spot=Option.none):∀(n i) (acc) (w) (es),(∀j,j<n->(w.cell? (A.add (i+j))).isSome)->∀e∈(loadCellsFrom A i n acc).events P w es,e∈es\/∃B,B.block=A.block/\e=(⟨.cell B,false,false⟩:Event)
 |0,i,acc,w,es,_=>λe c=>.inl (by simpa[loadCellsFrom]using c)
 |n+1,i,acc,w,es,h=>λe c=>by
  obtain⟨v,d⟩:=YJ.1 (h 0 (by omega));rw[VK]at d;simp only[loadCellsFrom,Sem.events_bind,run_load,d,Result.evThen_ok,events_load]at c;have g:(A.add i).block=A.block:=by unfold Addr.add;split<;>rfl
  rcases fT A f n (i+1) _ w _ (λj l=>by have:=h (j+1) (by omega);rwa[show i+(j+1)=i+1+j by omega]at this) e c with h1|h1
  .obtain h1|rfl:=Xb.1 h1
   .exact .inl h1
   .exact .inr ⟨_,g,rfl⟩
  .exact .inr h1
def Run.te(D:ops[i]? =some o)(E:Region.wanted o (yielded ops a.tmps)=true)(F:b.kind≠ .early){t:TypeId}{x:Operand}(m:o.op=.load t x){g:Nat}(y:a.eval x=.pointer (some ⟨g,0,Option.none⟩)){d:TypeDesc}(r:P.underlying t=some d) (z:(match d with| .struct _| .array _ _=>true|_=>false)=true) (s:K g) {e:TypeId} {c:Zq} {fr:Nat×Nat} (A:w.heap[g]? =some (.cells c e fr)) (C:(P.info? t).map (·.size)=some c.size) (H:(Run P mn ty Wg S) K M (G (b.at (a.put o.dst (.agg c)) (.inRegion ops rest::k)) cs) w):(Run P mn ty Wg S) K M (G (b.at a (.inRegion ops (i::rest)::k)) cs) w:=by (refine .value D E F λi1 f=>⟨.agg c,i1,?_,Eff.refl _ _,?_,by rw[cN rfl,cN rfl];exact H.rely f⟩);have h:=(f.keep g s).trans A;unfold execOp;simp[m,y,Instr.loadAt,Instr.sureAddr,run_loadVar_row i1 g e t c fr d h r z C];have h:=(f.keep g s).trans A;(rw[cN rfl,cN rfl];intro ev u;have n:(isAgg t).run P i1=.ok true i1:=by rw[Fp r i1,z]);(obtain⟨inf,p,v⟩:=Vi.1 C;unfold execOp at u;simp[m,y,Instr.loadAt,Instr.sureAddr,loadVar,Sem.events_bind,n,yn r,sizeOf,typeInfo,p,v]at u;have l:∀j,j<c.size->(i1.cell? ((⟨g,0,Option.none⟩:Addr).add (0+j))).isSome:=λj I=>by (have q:(⟨g,0,Option.none⟩:Addr).add (0+j)=⟨g,j,Option.none⟩:=by unfold Addr.add;split<;>simp_all);rw[q,cell_of_row i1 g j c e fr h];simp[I]);have:=fT (P:=P) ⟨g,0,Option.none⟩ rfl _ 0 #[] i1 #[] l ev u;obtain J|⟨B,L,rfl⟩:=this;simp at J;exact td (by rw[L];exact s)
def Run.fresh{ob}(v:Nat->Zj)(n:ops[i]? =some o)(p:Region.wanted o (yielded ops a.tmps)=true)(q:b.kind≠ .early) (r:∀i1,(execOp a.eval o).run P i1=.ok (.value (v i1.heap.size)) {i1 with heap:=i1.heap.push ob}) (s:∀i1,(execOp a.eval o).events P i1 #[]=#[]) (t:∀(m) (w'),w.heap.size<=m->(∀b,K b->w'.heap[b]? =w.heap[b]?)->w'.heap[m]? =some ob->w'.heap.size=m+1->(WgLive ty Wg w->WgLive ty Wg w')->(Run P mn ty Wg S) (λb=>K b\/b=m) (λb=>M b\/b=m) (G (b.at (a.put o.dst (v m)) (.inRegion ops rest::k)) cs) w') (l:∀b,K b->b<w.heap.size):(Run P mn ty Wg S) K M (G (b.at a (.inRegion ops (i::rest)::k)) cs) w:=by (refine .value n p q λi1 c=>?_;have e:({i1 with heap:=i1.heap.push ob}:x6).heap.size=i1.heap.size+1:=by simp);(have f:∀X:Nat->Prop,orK X i1 {i1 with heap:=i1.heap.push ob}=λb=>X b\/b=i1.heap.size:=by intro X;funext b;apply propext;unfold orK Io;rw[e];constructor;rintro(h|⟨x,y⟩);exact .inl h;exact .inr (by omega);rintro(h|rfl);exact .inl h;exact .inr ⟨UI _,by omega⟩);(have d:∀b,b<i1.heap.size->(i1.heap.push ob)[b]? =i1.heap[b]? :=λb g=>by rw[VD,UG (by omega)]);refine⟨_,_,r i1,⟨rfl,rfl,rfl,by omega,λb g _=>d b g⟩,by rw[s];simp,?_⟩;rw[f,f];refine t i1.heap.size _ c.size (λb g=>(d b (UL (l b g) c.size)).trans (c.keep b g)) (by simp) e λu=>?_;obtain⟨st,sm,j⟩:=c.live u;refine⟨st,sm,j.of_block (d Wg ?_)⟩;exact(UO.1 (show i1.heap[Wg]? =some _ from j)).1
end
section
variable {P:Program}
def setRow_size(w:x6)(g c):(w.setRow g c).heap.size=w.heap.size:=by unfold World.setRow;simp
def pq(w:x6)(g b c)(h:b≠g):(w.setRow g c).heap[b]? =w.heap[b]? :=by unfold World.setRow;simp only[];rw[VF,UG (U4 h)]
def setRow_os(w:x6)(g c):(w.setRow g c).os=w.os/\(w.setRow g c).tape=w.tape/\(w.setRow g c).output=w.output:=by exact⟨rfl,rfl,rfl⟩
def C6(g t):∀(c) (i) (cur) (w) (es),w.heap[g]? =some (.cells cur t (0,0))->i+c.length<=cur.size->(∀v∈c,v.oneCell'=true)->∀ev∈(storeCells ⟨g,0,none⟩ c i).events P w es,ev∈es\/∃B,B.block=g/\ev=(⟨.cell B,true,false⟩:Event):=by intro c;induction c with|nil=>intro i cur w es _ _ _ ev h;exact .inl (by simpa[storeCells]using h)|cons v c r=>(intro i cur w es e j l ev h;have s:i<cur.size:=by simp at j;omega);(have m:(⟨g,0,none⟩:Addr).add i=⟨g,i,none⟩:=by unfold Addr.add;split<;>simp_all);(have n:=l v (by simp);have p:w.cell? ⟨g,i,none⟩=some cur[i]:=by simp[World.cell?,e,s]);(have q:w.frozen? ⟨g,i,none⟩=false:=by simp[World.frozen?,e]);(have d:(store ((⟨g,0,none⟩:Addr).add i) v).run P w=.ok () (w.setRow g (cur.setIfInBounds i v)):=by rw[m,run_store P w _ v _ n,p];simp[q,setCell_eq_setRow w g i cur t (0,0) v e]);(have f:(store ((⟨g,0,none⟩:Addr).add i) v).events P w es=es.push ⟨.cell ⟨g,i,none⟩,true,false⟩:=by rw[m,events_store P w es _ v _ n,p];simp only[q,U7,U5];rfl);simp only[storeCells,Sem.events_bind,d,Result.evThen_ok,f]at h;rcases r (i+1) _ _ _ (setRow_heap w g cur _ t _ e) (by simp at j⊢;omega) (λx u=>l x (by simp[u])) ev h with h2|h2;obtain h2|rfl:=Xb.1 h2;exact .inl h2;exact .inr ⟨_,rfl,rfl⟩;exact .inr h2
variable {mn:Bool} {ty:TypeId} {Wg:Nat} {S:aL} {K M:Nat->Prop} {w:x6} {b:Frame} {a:Act} {k:List Item} {cs:List Frame} {ops:Array Oper} {i:Nat} {rest:List Nat} {o:Oper}
def yu(t A v):storeVar t A v=storeVar t A (.agg v.cells):=by unfold storeVar;rfl
def Run.store(J:ops[i]? =some o)(L:Region.wanted o (yielded ops a.tmps)=true)(N:b.kind≠ .early){t x y}(l:o.op=.store t x y){g}(A:a.eval x=.pointer (some ⟨g,0,Option.none⟩)){e old cells}(C:(a.eval y).cells=cells) (O:w.heap[g]? =some (.cells old e (0,0))) (D:(P.info? t).map (·.size)=some cells.size) (m:old.size=cells.size) (E:cells.all (·.oneCell')=true) (F:K g) (H:M g) (r:g≠Wg) (Q:∀w',(∀b,K b->b≠g->w'.heap[b]? =w.heap[b]?)->w'.heap[g]? =some (.cells cells e (0,0))->w.heap.size<=w'.heap.size->(WgLive ty Wg w->WgLive ty Wg w')->Run P mn ty Wg S K M (G (b.at (a.put o.dst undef) (.inRegion ops rest::k)) cs) w'):Run P mn ty Wg S K M (G (b.at a (.inRegion ops (i::rest)::k)) cs) w:=by refine .none J L N λc d=>?_;have h:=(d.keep g F).trans O;have n:=run_storeVar_row (P:=P) c g e t old cells h D m E;have f:=setRow_size c g cells;refine⟨c.setRow g cells,?_,⟨(setRow_os _ _ _).1,(setRow_os _ _ _).2.1,(setRow_os _ _ _).2.2,by omega,λI _ s=>pq _ _ _ _ λe=>s (e▸H)⟩,λev j=>?_,?_⟩;unfold execOp;simp only[l,A,Instr.storeAt,Instr.sureAddr];simp[Sem.run_bind,yu t _ (a.eval y),C,n];unfold execOp at j;obtain⟨inf,p,q⟩:=Vi.1 D;simp[l,A,Instr.storeAt,Instr.sureAddr,Sem.events_bind,storeVar,C,sizeOf,typeInfo,p,q]at j;rcases C6 g e cells.toList 0 old c #[] h (by simp;omega) (λv R=>(Array.all_eq_true_iff_forall_mem.1 E) v (by simpa using R)) ev j with h2|⟨B,hB,rfl⟩;simp at h2;rw[cN f,cN f];exact AU (by rw[hB];exact F) (by rw[hB];exact H);rw[cN f,cN f];refine Q _ (λI s u=>(pq _ _ _ _ u).trans (d.keep I s)) (setRow_heap c g old _ e _ h) (by rw[f];exact d.size) λT=>?_;obtain⟨st,sm,z⟩:=d.live T;exact⟨st,sm,z.of_block (pq _ _ _ _ (U4 r))⟩
end
def cZ(zc:List Zj)(k:Nat):List Zj:=(List.replicate k zc).flatten
def jC(zc k):(cZ zc k).length=k*zc.length:=by unfold cZ;induction k with|zero=>simp|succ k c=>simp[List.replicate_succ,c,Xd];omega
def Fu(zc a b)(h:b<=a):(cZ zc a).drop (b*zc.length)=cZ zc (a-b):=by obtain⟨k,rfl⟩:=Xw h;unfold cZ;rw[<-List.replicate_append_replicate,List.flatten_append,List.drop_append_of_le_length (by rw[<-cZ,jC];exact UI _)];have:((List.replicate b zc).flatten).drop (b*zc.length)=[]:=Vn (by rw[<-cZ,jC];exact UI _);rw[this];simp
def nn(z k):(Builtin.zeroCells z k).toList=cZ z.toList k:=by unfold Builtin.zeroCells;simp only[Array.toList_map,Array.toList_range];induction k with|zero=>simp[cZ]|succ k d=>(have e:cZ z.toList (k+1)=cZ z.toList k++z.toList:=by unfold cZ;rw[List.replicate_succ',List.flatten_append];simp);rw[e,<-d,Xd,Nat.one_mul,List.range_add,WN];congr 1;rw[List.map_map];apply Ym;simp;intro i g f;(simp only[WA,Function.comp,Yr,Yb];have c:i<z.size:=by simpa using f);rw[show(k*z.size+i)%z.size=i from by rw[W6,Nat.add_mul_mod_self_right,Nat.mod_eq_of_lt c]];simp[c]
inductive aW{α:Type}:Sem α->Prop
 |pure (a):aW (.pure a)
 |halt (h):aW (.halt h)
 |load (a) {k}:(∀v,aW (k v))->aW (.load .plain a k)
 |store (a v) {k}:aW k->aW (.store .plain a v k)
 |new (o) {k}:(∀r,aW (k r))->aW (.new o k)
 |shape (r) {k}:(∀x,aW (k x))->aW (.shape r k)
 |frozen (a) {k}:(∀x,aW (k x))->aW (.frozen a k)
 |choose (q) {k}:(∀x,aW (k x))->aW (.choose q k)
 |program {k}:(∀x,aW (k x))->aW (.program k)
 |mark (m) {k}:aW k->aW (.mark m k)
def aW.bind{d e s}{f:d->Sem e}(h:aW s)(g:∀a,aW (f a)):aW (s>>= f):=by show aW (s.bind f);induction h with|pure a=>exact g a|halt h=>exact .halt h|load a _ c=>exact .load a c|store a v _ c=>exact .store a v c|new o _ c=>exact .new o c|shape r _ c=>exact .shape r c|frozen a _ c=>exact .frozen a c|choose q _ c=>exact .choose q c|program _ c=>exact .program c|mark m _ c=>exact .mark m c
def aW.cells{g}{s:Sem g}(h:aW s):∀(P) (w) (es),∀ev∈(s.runT P w es).2,ev∈es\/∀A,ev.loc=.cell A->ev.sync=false:=by
 induction h with
 |pure a=>exactλP w es ev h=>.inl h
 |halt a=>exactλP w es ev h=>.inl h
 |load a _ d=>intro P w es ev h;simp only[Sem.runT]at h;split at h;obtain h|h:=d _ P _ _ ev h;obtain h|rfl:=Xb.1 h;exact .inl h;exact .inr λ_ _=>rfl;exact .inr h;split at h;obtain h|h:=d _ P _ _ ev h;obtain h|h:=VJ.1 h;exact .inl h;obtain⟨_,_,rfl⟩:=XO.1 h;exact .inr λ_ _=>rfl;exact .inr h;exact .inl h
 | @store a v k _ d=>intro P w es ev h;by_cases f:(∀c,v≠ .agg c)/\(∀c,v≠ .tuple c);rw[jb P a v k w es f.1 f.2]at h;split at h;split at h;exact .inl h;obtain h|h:=d P _ _ ev h;obtain h|rfl:=Xb.1 h;exact .inl h;exact .inr λ_ _=>rfl;exact .inr h;split at h;obtain h|h:=d P _ _ ev h;obtain h|h:=VJ.1 h;exact .inl h;obtain⟨_,_,rfl⟩:=XO.1 h;exact .inr λ_ _=>rfl;exact .inr h;exact .inl h;cases v<;>first|(simp at f;done)|exact .inl h
 |new o _ d=>exactλP w es ev h=>d _ P _ _ ev h
 |shape r _ d=>exactλP w es ev h=>d _ P _ _ ev h
 |frozen a _ d=>exactλP w es ev h=>d _ P _ _ ev h
 |choose q _ d=>intro P w es ev h;simp only[Sem.runT]at h;split at h;exact d _ P _ _ ev h;exact d _ P _ _ ev h
 |program _ d=>exactλP w es ev h=>d _ P _ _ ev h
 |mark m _ d=>intro P w es ev h;obtain h|h:=d P _ _ ev h;obtain h|rfl:=Xb.1 h;exact .inl h;(exact .inr λA e=>by cases e);exact .inr h
theorem ku(a):∀(n i) (acc),aW (loadCellsFrom a i n acc)
 |0,_,_=>.pure _
 |n+1,i,acc=>aW.bind (.load _ λv=>.pure v) λv=>ku a n (i+1) _
theorem np(a):∀(c) (i),aW (storeCells a c i)
 | [],_=>.pure _
 |v::c,i=>aW.bind (.store _ _ (.pure _)) λ_=>np a c (i+1)
def uv(t):aW (underlying t):=by unfold underlying;refine aW.bind (.program λ_=>.pure _) λp=>?_;split;exact .pure _;exact .halt _
def lD(t):aW (typeInfo t):=by unfold typeInfo;refine aW.bind (.program λ_=>.pure _) λp=>?_;split;exact .pure _;exact .halt _
def Da(t):aW (Go.sizeOf t):=by unfold Go.sizeOf;exact aW.bind (lD t) λ_=>.pure _
def wH(t):aW (zeroValue t):=by unfold zeroValue;refine aW.bind (lD t) λi=>?_;split;exact .pure _;exact .halt _
def uw(size n x):aW (Builtin.firstCells size n x):=by unfold Builtin.firstCells;split;exact ku _ _ _ _;exact .pure _;exact .pure _;exact .halt _
def Fv(v):aW (asInt v):=by unfold asInt asIntOf;refine aW.bind ?_ λ_=>.pure _;split;exact .pure _;exact .halt _;exact .halt _
def Fw(v):aW (Builtin.lenOf v):=by unfold Builtin.lenOf;split;exact .pure _;exact .pure _;exact .halt _
def Fy{c}(e):aW (runtimePanic e:Sem c):=by unfold runtimePanic;repeat' (first|exact .pure _|exact .halt _|exact .program λ_=>.pure _|exact .new _ λ_=>.pure _|refine aW.bind ?_ λ_=>?_|split)
def zK(n):aW (askRoom n):=by unfold askRoom;split;exact .mark _ (.pure _);exact .pure _
def ux(a n):aW (Builtin.holdsCells a n):=by unfold Builtin.holdsCells;refine aW.bind (.shape _ λ_=>.pure _) λx=>?_;split<;>exact .pure _
def yx{c}(a):aW (Pure.pure a:Sem c):=.pure a
def Fz{c}(m):aW (stuck m:Sem c):=.halt _
def th{c}(m):aW (unsupported m:Sem c):=.halt _
def Db(q):aW (choose q):=.choose _ λ_=>.pure _
def Iz(m):aW (mark m):=.mark _ (.pure _)
def Dc(e c):aW (newRow e c):=by unfold newRow;exact aW.bind (.new _ λ_=>.pure _) λ_=>.pure _
def KX{d c}[Decidable c]{s t:Sem d}(h:aW s)(e:aW t):aW (if c then s else t):=by split<;>assumption
def Dd(a):aW (frozen a):=.frozen _ λ_=>.pure _
def yy(a b n x v):aW (Builtin.mayShare a b n x v):=by unfold Builtin.mayShare;repeat' (with_reducible first|exact yx _|exact ux _ _|exact Dd _|refine aW.bind ?_ λ_=>?_|split|dsimp only)
def De(ts t as):aW (Builtin.append_ ts t as):=by
 unfold Builtin.append_;repeat' (with_reducible first
  |exact yx _|exact Fz _|exact th _|exact Fy _|exact uv _|exact lD _|exact Da _|exact wH _|exact uw _ _ _|exact np _ _ _
  |exact Db _|exact Iz _|exact Dc _ _|exact Fv _|exact Fw _|exact zK _|exact yy _ _ _ _ _
  |refine KX ?_ ?_|refine aW.bind ?_ λ_=>?_|split|dsimp only)
def ma(w:x6)(base:Nat)(e:TypeId)(zc:List Zj)(v:Zj)(n:Nat)(xs:List Zj):Prop:=xs.length=n*zc.length/\((v=.slice none 0 0/\n=0)\/∃g cap,v=.slice (some ⟨g,0,none⟩) n cap/\base<=g/\w.heap[g]? =some (.cells (xs++cZ zc (cap-n)).toArray e (0,0))/\n<=cap/\cap<=maxLen/\0<n)
def ma.owns{w base e zc v n xs}(h:ma w base e zc v n xs):w.ownsRow base e zc.length v n xs:=by refine⟨h.1,h.2.imp id ?_⟩;rintro⟨g,cap,rfl,c,d,f,j⟩;refine⟨g,cap,_,rfl,c,d,f,j.1,?_,?_⟩;simp only[U9,U6,jC,h.1,<-Xd];congr 1;omega;rw[<-h.1];simp
def ma.keep{w w' base e zc v n xs}(h:ma w base e zc v n xs)(c:∀g,v.ownBlock=some g->w'.heap[g]? =w.heap[g]?):ma w' base e zc v n xs:=by refine⟨h.1,h.2.imp id ?_⟩;rintro⟨g,cap,rfl,d,f,j,l⟩;exact⟨g,cap,rfl,d,(c g rfl).trans f,j,l⟩
section
variable {P:Program}
def oq(w base t ty e i z zc bytes)(H:P.underlying t=some (.slice e))(I:P.info? e=some i)(T:i.zero=some z) (d:i.size=zc.length) (J:i.bytes=bytes) (L:z.cells.toList=zc) (V:0<zc.length) (v) (n) (xs) (f:ma w base e zc v n xs) (a) (m c) (news) (x:news.length=m*zc.length) (h:∀j u,news[j]? =some u->w.cell? (a.add j)=some u) (W:∀u∈news,u.oneCell'=true) (y:n+m<=maxLen) (p:(n+m)*bytes<=140737488355328) (r:base<=w.heap.size) (Z:0<m):∃F w',(Builtin.append_ #[t,t] ty #[v,.slice (some a) m c]).run P w=.ok F w'/\ma w' base e zc F (n+m) (xs++news)/\w.grownBy w' v.ownBlock/\((F.ownBlock=v.ownBlock/\w'.heap.size=w.heap.size)\/(F.ownBlock=some w.heap.size/\w'.heap.size=w.heap.size+1/\∀b,b<w.heap.size->w'.heap[b]? =w.heap[b]?)):=by
 subst J;have G:n+m<=9223372036854775807:=by simp only[maxLen]at y;omega
 have q:(xs++news).length=(n+m)*zc.length:=by rw[U6,f.1,x,Xd]
 have grown:∀(old:Nat),ma (w.drew.alloc (.cells (xs.toArray++news.toArray++Builtin.zeroCells z.cells (grownCap w (n+m) old e-(n+m))) e)) base e zc
  (.slice (some ⟨w.heap.size,0,none⟩) (n+m) (grownCap w (n+m) old e)) (n+m) (xs++news):=by
  intro old;refine⟨q,.inr ⟨w.heap.size,_,rfl,r,?_,grownCap_ge w (n+m) old e,grownCap_le_maxLen w (n+m) old e y,by omega⟩⟩;have e0:xs.toArray++news.toArray++Builtin.zeroCells z.cells (grownCap w (n+m) old e-(n+m))=(xs++news++cZ zc (grownCap w (n+m) old e-(n+m))).toArray:=by apply XE;simp only[Array.toList_append,nn,L]
  rw[<-e0];exact heap_alloc_new w.drew _
 have gb:∀(old:Nat) (row:Option Nat),w.grownBy (w.drew.alloc (.cells (xs.toArray++news.toArray++Builtin.zeroCells z.cells (grownCap w (n+m) old e-(n+m))) e)) row:=λold row=>⟨rfl,rfl,rfl,by simp,λk N _=>heap_alloc_old w.drew _ k N⟩
 obtain⟨rfl,rfl⟩|⟨g,cap,rfl,O,U,X,Q⟩:=f.2;have Y:=Vx (by simpa using f.1);subst Y;have A:=run_append_nil (P:=P) w t ty e i z H I T a m c news (by rw[x,d]) h (by omega) (by omega) (by have B:=p;simp only[UR]at B;omega);have C:=grown 0;have D:=gb 0 (Value.ownBlock (.slice none 0 0));simp only[UR,Wp,Wa]at C D⊢;exact⟨_,_,A,C,D,.inr ⟨rfl,by simp,λb B=>heap_alloc_old w.drew _ b B⟩⟩;by_cases l:n+m<=cap;have R:((xs++cZ zc (cap-n)).toArray).size=cap*zc.length:=by simp only[U9,U6,jC,f.1,<-Xd];congr 1;omega
 have E:n*i.size+news.length<=((xs++cZ zc (cap-n)).toArray).size:=by rw[x,R,d,<-Xd];exact XQ _ l
 have A:=run_append_room (P:=P) w t ty e i H I g n cap _ U a m c news (by rw[x,d]) h W l E;refine⟨_,_,A,⟨q,.inr ⟨g,cap,rfl,O,?_,l,Q.1,by omega⟩⟩,⟨rfl,rfl,rfl,by simp,λk _ N=>setRow_other w g k _ (λe=>N (by simp[Value.ownBlock,e]))⟩,.inl ⟨rfl,by simp⟩⟩;rw[setRow_heap w g _ _ e _ U];congr 2;apply XE;simp only[V5];rw[d,<-f.1];rw[List.take_left,YK,YK,<-Xo,List.drop_left,x,Fu zc _ _ (by omega)];congr 1;omega;have s:=f.owns.cells (g:=g) rfl;have A:=run_append_grow (P:=P) w t ty e i z H I T ⟨g,0,none⟩ n cap xs (by rw[f.1,d]) s a m c news (by rw[x,d]) h (by omega) (by omega) (growslice_fits (by omega) p);exact⟨_,_,A,grown cap,gb cap _,.inr ⟨rfl,by simp,λb B=>heap_alloc_old w.drew _ b B⟩⟩
variable {mn:Bool} {ty:TypeId} {Wg:Nat} {S:aL} {K M:Nat->Prop} {w:x6} {b:Frame} {a:Act} {k:List Item} {cs:List Frame} {ops:Array Oper} {i:Nat} {rest:List Nat} {o:Oper}
def FC{K M m}(h:Conc.Neutral m):EvK Wg K M ⟨.mark m,false,true⟩:=by have e:m=.noRoom:=h;subst e;exact⟨λx c=>by simp[MemAct.ofEvent,MemAct.touch?]at c,by simp,by simp,by simp,λB _=>trivial⟩
def Run.append(ho:ops[i]? =some o)(hw:Region.wanted o (yielded ops a.tmps)=true)(hk:b.kind≠ .early){s x t}(N:o.op=.call {callee:=.builtin .append,args:=#[s,x],argTypes:=#[t,t]}) {v} {ad} {m c} (hs:a.eval s=v) (hx:a.eval x=.slice (some ad) m c) {base} {e} {inf} {z} {zc} {bytes} (ht:P.underlying t=some (.slice e)) (hi:P.info? e=some inf) (hz:inf.zero=some z) (y:inf.size=zc.length) (O:inf.bytes=bytes) (Y:z.cells.toList=zc) (Z:0<zc.length) {n} {xs news} (Q:ma w base e zc v n xs) (B:∀g,v.ownBlock=some g->K g/\M g/\g≠Wg) (R:K ad.block) (hl:news.length=m*zc.length) (E:∀j u,news[j]? =some u->w.cell? (ad.add j)=some u) (h1:∀u∈news,u.oneCell'=true) (T:n+m<=maxLen) (p:(n+m)*bytes<=140737488355328) (F:base<=w.heap.size) (hm:0<m) (aa:∀b,K b->b<w.heap.size) (ab:Wg<w.heap.size) (hn:∀(U X) H w',ma w' base e zc H (n+m) (xs++news)->(∀g,H.ownBlock=some g->U g/\X g/\g≠Wg/\(some g=v.ownBlock\/w.heap.size<=g))->(∀b,K b->some b≠v.ownBlock->w'.heap[b]? =w.heap[b]?)->w.heap.size<=w'.heap.size->(WgLive ty Wg w->WgLive ty Wg w')->(∀b,K b->U b)->(∀b,U b->K b\/w.heap.size<=b)->(∀b,U b->b<w'.heap.size)->(∀b,M b->X b)->(∀b,X b->M b\/w.heap.size<=b)->Run P mn ty Wg S U X (G (b.at (a.put o.dst H) (.inRegion ops rest::k)) cs) w'):Run P mn ty Wg S K M (G (b.at a (.inRegion ops (i::rest)::k)) cs) w:=by (refine .value ho hw hk λi1 d=>?_;have l:=Q.keep λg C=>d.keep g (B g C).1;have V:∀j,(ad.add j).block=ad.block:=λj=>by unfold Addr.add;split<;>rfl);(have f:∀j u,news[j]? =some u->i1.cell? (ad.add j)=some u:=λj u hu=>(World.cell?_of_block (d.keep _ (by rw[V];exact R))).trans (E j u hu);obtain⟨H,w',hr,af,C,I⟩:=oq (P:=P) i1 base t o.type e inf z zc bytes ht hi hz y O Y Z v n xs l ad m c news hl f h1 T p (UJ F d.size) hm;have q:∀b,K b->b<i1.heap.size:=λb hb=>UL (aa b hb) d.size;have W:(execOp a.eval o).run P i1=.ok (.value H) w':=by unfold execOp;simp only[N,resolve,invoke,builtin,Sem.run_bind,Sem.run_pure,Result.andThen_ok,List.map_toArray,Yl,List.map_nil,hs,hx,hr]);refine⟨H,w',W,⟨C.os,C.tape,C.output,C.size,λb hb ag=>C.block b hb λe=>?_⟩,λev J=>?_,?_⟩;exact ag (B b e.symm).2.1;rw[events_append_op s x t N hs hx]at J;(rcases events_append_where (P:=P) i1 base t o.type e inf z zc.length bytes ht hi hz y O v n xs l.owns ad m c news hl f h1 T p ev J with⟨A,hA,r⟩|⟨mk,rfl,ak⟩);obtain⟨ay,wr,sy⟩:=ev;(simp only at hA r;subst hA;have L:sy=false:=by rcases(De #[t,t] o.type #[v,.slice (some ad) m c]).cells P i1 #[] _ J with h|h;simp at h;exact h A rfl);subst L;obtain⟨rfl,hb⟩|hb:=r;exact td (.inl (by rw[hb];exact R));have:=B A.block hb.symm;(cases wr with|false=>exact td (.inl this.1)|true=>exact AU (.inl this.1) (.inl this.2.1));exact FC ak;have an:=C.block Wg (UL ab d.size) λe=>(B Wg e.symm).2.2 rfl;refine hn _ _ H w' af (λg D=>?_) (λb hb ao=>(C.block b (q b hb) ao).trans (d.keep b hb)) (UJ d.size C.size) (λar=>?_) (λb hb=>.inl hb) (λb hb=>hb.imp id λx=>UJ d.size x.1) (λb hb=>hb.elim (λx=>UL (q b x) C.size) λx=>x.2) (λb hb=>.inl hb) (λb hb=>hb.imp id λx=>UJ d.size x.1);obtain⟨e1,_⟩|⟨e1,e2,_⟩:=I;rw[e1]at D;have:=B g D;exact⟨.inl this.1,.inl this.2.1,this.2.2,.inl D.symm⟩;rw[e1]at D;cases D;exact⟨.inr ⟨UI _,by omega⟩,.inr ⟨UI _,by omega⟩,by have:=d.size;omega,.inr d.size⟩;obtain⟨st,sm,ax⟩:=d.live ar;exact⟨st,sm,ax.of_block an⟩
end
section
variable {P:Program} {mn:Bool} {ty:TypeId} {Wg:Nat} {S:aL}
def EvK.mono{K f M g:Nat->Prop}{e}(h:EvK Wg K M e)(i:∀b,K b->f b)(j:∀b,M b->g b):EvK Wg f g e:=by refine⟨λx k=>?_,h.2⟩;obtain⟨b,l,m⟩:=h.1 x k;refine⟨b,l,m.imp (λ⟨a,c,d⟩=>⟨a,i b c,λn=>j b (d n)⟩) id⟩
def tj{K a:Nat->Prop}(h:∀b,K b->a b)(w w' b)(c:orK K w w' b):orK a w w' b:=c.imp (h b) id
def RH(S:aL)(B:Nat->Prop)(C0:x6):aL:=λK M g w=>∃a c,S a c g w/\(∀b,a b->K b)/\(∀b,c b->M b)/\(∀b,K b->b<w.heap.size)/\(∀b,B b->K b/\¬M b/\w.heap[b]? =C0.heap[b]?)/\(WgLive ty Wg C0->WgLive ty Wg w)/\C0.heap.size<=w.heap.size
def Run.frame{B C0 c d g w}(h:Run P mn ty Wg S c d g w):∀{Y2 Z2},(∀b,c b->Y2 b)->(∀b,d b->Z2 b)->(∀b,Y2 b->b<w.heap.size)->(∀b,B b->Y2 b/\¬Z2 b/\w.heap[b]? =C0.heap[b]?)->(WgLive ty Wg C0->WgLive ty Wg w)->(Wg<w.heap.size/\¬Z2 Wg)->C0.heap.size<=w.heap.size->Run P mn ty Wg (RH (ty:=ty) (Wg:=Wg) S B C0) Y2 Z2 g w:=by
 induction h with
 | @stop c d g w h=>(intro Y2 Z2 l j o q r i s;refine .stop λi1 a=>⟨c,d,h i1 ⟨λb hb=>a.keep b (l b hb),a.live,a.size⟩,l,j,λb hb=>UL (o b hb) a.size,λb hb=>?_,λx=>a.live (r x),UJ s a.size⟩);obtain⟨a1,p,t⟩:=q b hb;exact⟨a1,p,(a.keep b a1).trans t⟩
 | @step c d g w u m A C=>(intro Y2 Z2 l j o q r i s;have rk:∀i1,RK ty Wg Y2 w i1->RK ty Wg c w i1:=λi1 a=>⟨λb hb=>a.keep b (l b hb),a.live,a.size⟩);refine .ks u λi1 a=>?_;obtain⟨g',w',es,e1,f,e3⟩:=m i1 (rk i1 a);refine⟨g',w',es,e1,⟨f.os,f.tape,f.output,f.size,λb hb D=>f.keep b hb λx=>D (j b x)⟩,λe E=>(e3 e E).mono (tj l i1 w') (tj j i1 w'),?_⟩;have k:=UL i.1 a.size;have v:=f.keep Wg k λx=>i.2 (j Wg x);refine C i1 g' w' es (rk i1 a) e1 (tj l i1 w') (tj j i1 w') (λb hb=>?_) (λb hb=>?_) (λx=>?_) ⟨UL k f.size,λx=>?_⟩ (UJ (UJ s a.size) f.size);obtain hb|hb:=hb;exact UL (UL (o b hb) a.size) f.size;exact hb.2;obtain⟨a1,p,t⟩:=q b hb;have n:=UL (o b a1) a.size;refine⟨.inl a1,λx=>x.elim p λy=>absurd y.1 (Xy.2 n),?_⟩;rw[f.keep b n λx=>p (j b x),a.keep b a1,t];obtain⟨st,sm,z⟩:=a.live (r x);exact⟨st,sm,z.of_block v⟩;exact x.elim i.2 λy=>absurd y.1 (Xy.2 k)
end
end Go.Tm

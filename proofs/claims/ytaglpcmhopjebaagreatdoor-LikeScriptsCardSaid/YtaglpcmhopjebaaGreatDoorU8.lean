import Derived.Conc.WgGenN3
import Derived.Conc.Beside
import Derived.Conc.CrowdTrace
import Derived.Test.YtaglpcmhopjebaaGreatDoorU7
set_option linter.all false
set_option maxRecDepth 100000
set_option maxHeartbeats 20000000
namespace Go.Tm
open Go.Conc Go.ConcN Go.RowKit Go.Conc.Lib Go.ConcR.Gen Go.ConcN.Gen
open Go.ConcR (KK wgBlock WgAt stA smA rd wr mk Payload Aside2 DC0)
def RL(ty:TypeId)(Wg:Nat)(w a:World):Prop:=WgLive ty Wg w->WgLive ty Wg a
def xl{ty Wg w w₁}(h:WgLive ty Wg w)(r:RL ty Wg w w₁):WgLive ty Wg w₁:=r h
section
variable (P:Program) (mn:Bool) (ty:TypeId) (Wg:Nat) (Fin:Goroutine->World->Prop)
def XKe(g:Goroutine)(w:World):Prop:=g.status=.running/\∃g',stepG P mn g w=.go g' w #[mk .enable]/\∃m,(Goes P mn (RL ty Wg) DC0) Fin m g' w
def XSr(g:Goroutine)(w:World):Prop:=g.status=.running/\∃g',stepG P mn g w=.go g' w #[mk (.read (smA Wg))]/\∃m,(Goes P mn (RL ty Wg) DC0) (XKe P mn ty Wg Fin) m g' w
def XA1(g:Goroutine)(w:World):Prop:=g.status=.running/\∀v:Nat,v<2147483647->WgAt ty Wg w (v*KK) 0->∃g',stepG P mn g w=.go g' (w.setCell (stA Wg) (.int .u64 ((v+1)*KK))) #[rd (stA Wg),wr (stA Wg)]/\((∃m,(Goes P mn (RL ty Wg) DC0) (XSr P mn ty Wg Fin) m g' (w.setCell (stA Wg) (.int .u64 ((v+1)*KK))))\/∃m,(Goes P mn (RL ty Wg) DC0) (XKe P mn ty Wg Fin) m g' (w.setCell (stA Wg) (.int .u64 ((v+1)*KK))))
def XKd(g:Goroutine)(w:World):Prop:=g.status=.running/\∃g',stepG P mn g w=.go g' w #[mk .disable]/\∃m,(Goes P mn (RL ty Wg) DC0) (XA1 P mn ty Wg Fin) m g' w
def SQ(g:Goroutine)(w:World):Prop:=g.status=.running/\∃g',stepG P mn g w=.go g' w #[mk (.acquire (stA Wg))]/\∃m,(Goes P mn (RL ty Wg) DC0) Fin m g' w
def XWe(g:Goroutine)(w:World):Prop:=g.status=.running/\∃g',stepG P mn g w=.go g' w #[mk .enable]/\∃m,(Goes P mn (RL ty Wg) DC0) (SQ P mn ty Wg Fin) m g' w
def XW4(g:Goroutine)(w:World):Prop:=g.status=.running/\(WgAt ty Wg w 0 0->∃g',stepG P mn g w=.go g' w #[rd (stA Wg)]/\∃m,(Goes P mn (RL ty Wg) DC0) (XWe P mn ty Wg Fin) m g' w)
def XW3(g:Goroutine)(w:World):Prop:=g.status=.running/\g.offers=none/\((∃st,WgAt ty Wg w st 0)->stepG P mn g w=.go {g with status:=.blocked} w #[])/\(WgAt ty Wg w 0 1->∃g',stepG P mn g w=.go g' (w.setCell (smA Wg) (.int .u32 0)) (semEvents (smA Wg))/\∃m,(Goes P mn (RL ty Wg) DC0) (XW4 P mn ty Wg Fin) m g' (w.setCell (smA Wg) (.int .u32 0)))
def XSw(g:Goroutine)(w:World):Prop:=g.status=.running/\∃g',stepG P mn g w=.go g' w #[mk (.write (smA Wg))]/\∃m,(Goes P mn (RL ty Wg) DC0) (XW3 P mn ty Wg Fin) m g' w
variable (Anch:Goroutine->World->Prop)
def XW2(a:Nat)(g:Goroutine)(w:World):Prop:=
 g.status=.running/\∀v:Nat,v<2147483648->WgAt ty Wg w (v*KK) 0->
  (v=a->∃g',stepG P mn g w=.go g' (w.setCell (stA Wg) (.int .u64 (v*KK+1))) #[rd (stA Wg),wr (stA Wg)]/\∃m,(Goes P mn (RL ty Wg) DC0) (XSw P mn ty Wg Fin) m g' (w.setCell (stA Wg) (.int .u64 (v*KK+1))))/\
  (v≠a->∃g',stepG P mn g w=.go g' w #[rd (stA Wg)]/\∃m,(Goes P mn (RL ty Wg) DC0) Anch m g' w)
def XW1(g:Goroutine)(w:World):Prop:=g.status=.running/\∀v:Nat,v<2147483648->WgAt ty Wg w (v*KK) 0->∃g',stepG P mn g w=.go g' w #[rd (stA Wg)]/\(v=0->∃m,(Goes P mn (RL ty Wg) DC0) (XWe P mn ty Wg Fin) m g' w)/\(v≠0->∃m,(Goes P mn (RL ty Wg) DC0) (XW2 P mn ty Wg Fin Anch v) m g' w)
def XWd(g:Goroutine)(w:World):Prop:=g.status=.running/\∃g',stepG P mn g w=.go g' w #[mk .disable]/\∃m,(Goes P mn (RL ty Wg) DC0) Anch m g' w
def XAn(L:WgLink)(Wg:Nat)(c:Frame)(cs:List Frame)(g:Goroutine)(w:World):Prop:=∃T:Array Value,g=G ((base L.wait).at ⟨T,[]⟩ [.code (L7 L),.inLoop (L7 L),.inBlock 0]) (c::cs)/\T.size=84/\T[0]? =some (.pointer (some ⟨Wg,0,none⟩))/\WgLive L.tWg Wg w
end
section
variable {L:WgLink} {P:Program} {mn:Bool} {Wg:Nat} {Fin:Goroutine->World->Prop} {b₀:Frame} {a₀:Act} {ops₀:Array Oper} {i₀:Nat} {rest₀:List Nat} {k₀:List Item} {cs:List Frame} {mT:Nat}
def TS(H:WgLib P L)(f:∀w,WgLive L.tWg Wg w->Goes P mn (RL L.tWg Wg) DC0 Fin mT (G (b₀.at (a₀.put ((ops₀[i₀]?).bind (·.dst)) (.tuple #[])) (.inRegion ops₀ rest₀::k₀)) cs) w)(w:World)(a:WgLive L.tWg Wg w):Goes P mn (RL L.tWg Wg) DC0 (XKd P mn L.tWg Wg Fin) 20 (G ((base L.add).at ⟨#[.pointer (some ⟨Wg,0,none⟩),.int .i64 1,undef,undef,undef,undef,undef,undef,undef,undef,undef,undef,undef,undef,undef,undef,undef,undef,undef,undef,undef,undef,undef,undef,undef,undef,undef,undef,undef,undef,undef,undef,undef,undef,undef,undef,undef,undef,undef,undef,undef,undef,undef,undef,undef,undef,undef,undef,undef,undef,undef,undef,undef,undef,undef,undef,undef,undef,undef,undef,undef,undef,undef,undef,undef,undef,undef,undef,undef,undef,undef,undef,undef,undef,undef,undef,undef,undef,undef,undef,undef,undef,undef,undef,undef,undef,undef,undef,undef,undef,undef,undef,undef,undef,undef,undef,undef,undef,undef,undef,undef,undef,undef,undef,undef,undef,undef,undef,undef,undef,undef,undef,undef,undef,undef,undef,undef],[]⟩ [.code (body_add L)]) (b₀.at a₀ (.inRegion ops₀ (i₀::rest₀)::k₀)::cs)) w:=by
 lib_facts
 simp only[body_add,addFn,VY];u_c stepG_seq xl a
 u_cond true xl a
 iterate 2 (u_c stepG_seq xl a)
 u_reg xl a
 iterate 2 (u_op xl a)
 u_c stepG_region_end xl a
 u_cond false xl a
 u_c stepG_skip xl a
 u_c stepG_seq xl a
 u_reg xl a
 refine Goes.stop (λw1 g=>?_);replace a:=xl a g;clear g;refine⟨rfl,_,stepG_mark0 .disable (by simp) rfl rfl (by k_ne) rfl H.f_disable (x_disable_n L) (x_disable_b L) (x_disable_x L) (x_disable_f L),60,?_⟩;walk_nrm
 u_c stepG_region_end xl a
 u_reg xl a
 u_defer xl a
 u_c stepG_region_end xl a
 u_c stepG_seq xl a
 u_reg xl a
 u_op xl a
 u_c stepG_region_end xl a
 iterate 2 (u_c stepG_seq xl a)
 u_reg xl a
 u_bub xl a
 u_c stepG_region_end xl a
 u_cond false xl a
 u_c stepG_skip xl a
 u_c stepG_seq xl a
 u_reg xl a
 iterate 6 (u_op xl a)
 u_call H.f_uAdd (nm_uAdd L) uAddFn xl a
 u_c stepG_seq xl a
 u_reg xl a
 u_op xl a
 u_c stepG_region_end xl a
 u_c stepG_seq xl a
 u_reg xl a
 iterate 4 (u_op xl a)
 refine Goes.stop (λw2 h=>?_);replace a:=xl a h;clear h;refine⟨rfl,λv m b=>?_⟩;obtain rfl|hvp:=U4 v
 ·replace b:WgAt L.tWg Wg w2 0 0:=by simpa using b
  have z:(((0:Nat):Int)+1)*KK=KK:=by simp
  rw[z];have e0:IntKind.u64.wrap (0+4294967296)=KK:=by decide
  refine⟨_,(stepG_add_atomic rfl rfl (by k_ne) rfl H.f_addU64 (x_addU64_n L) (x_addU64_b L) (x_addU64_x L) .u64 (x_addU64_f L) rfl rfl b.cellSt (b.thaw 0)).trans (by rw[e0];rfl),.inl ⟨110,?_⟩⟩;replace a:WgLive L.tWg Wg (w2.setCell (stA Wg) (.int .u64 KK)):=⟨_,_,b.setSt _⟩
  clear b;simp only[KK]at a⊢;walk_nrm
  u_op xl a
  u_c stepG_region_end xl a
  u_c stepG_ret' xl a
  u_leave1 H.f_uAdd xl a
  u_op xl a
  u_c stepG_region_end xl a
  iterate 2 (u_c stepG_seq xl a)
  u_reg xl a
  iterate 4 (u_op xl a)
  iterate 2 (u_skip xl a)
  u_op xl a
  u_c stepG_region_end xl a
  u_cond false xl a
  u_c stepG_skip xl a
  u_c stepG_seq xl a
  u_reg xl a
  iterate 4 (u_op xl a)
  u_c stepG_region_end xl a
  u_c stepG_seq xl a
  u_reg xl a
  iterate 4 (u_op xl a)
  u_c stepG_region_end xl a
  iterate 2 (u_c stepG_seq xl a)
  u_reg xl a
  iterate 10 (u_op xl a)
  u_c stepG_region_end xl a
  u_cond true xl a
  u_reg xl a
  iterate 3 (u_op xl a)
  u_conv H.underlying_tPU32 H.room_tU32 (WgLive.cell1 a).choose_spec xl a
  refine Goes.stop (λw3 i=>?_);replace a:=xl a i;clear i;refine⟨rfl,_,stepG_markAt .read (by simp) rfl rfl (by k_ne) rfl H.f_raceRead (x_raceRead_n L) (x_raceRead_b L) (x_raceRead_x L) (x_raceRead_f L) (ad:=⟨Wg,1,none⟩) (by simp[Act.eval]),60,?_⟩;walk_nrm
  u_c stepG_region_end xl a
  iterate 2 (u_c stepG_seq xl a)
  u_reg xl a
  iterate 2 (u_op xl a)
  u_c stepG_region_end xl a
  u_cond false xl a
  u_c stepG_skip xl a
  iterate 2 (u_c stepG_seq xl a)
  u_reg xl a
  iterate 3 (u_op xl a)
  iterate 2 (u_skip xl a)
  iterate 2 (u_op xl a)
  iterate 4 (u_skip xl a)
  u_op xl a
  u_c stepG_region_end xl a
  u_cond false xl a
  u_c stepG_skip xl a
  iterate 2 (u_c stepG_seq xl a)
  u_reg xl a
  iterate 3 (u_op xl a)
  iterate 2 (u_skip xl a)
  u_op xl a
  u_c stepG_region_end xl a
  u_cond true xl a
  u_c stepG_ret' xl a
  refine Goes.stop (λw4 d=>?_);replace a:=xl a d;clear d;refine⟨rfl,_,stepG_unwind_entry (v:=.tuple #[]) (evs:=#[mk .enable]) rfl H.f_enable (x_enable_n L) (x_enable_b L) (x_enable_x L) (x_enable_f L) (by simp[Extern.Race.none_]) (by simp[mk]) (by simp[mk]),mT+1,?_⟩
  u_leave0 H.f_add xl a
  exact f _ a
 obtain⟨V,e⟩:∃V:Int,V=(v:Int)+1:=⟨_,rfl⟩
 obtain⟨S,c⟩:∃S:Int,S=V*KK:=⟨_,rfl⟩
 have j:IntKind.u64.wrap ((v:Int)*KK+4294967296)=S:=by rw[IntKind.wrap_u64,c,e];simp only[KK];omega
 rw[<-e,<-c];have a1:S/4294967296=V:=by rw[c];simp only[KK];omega
 have n:bits .and .u64 S 2147483648=0:=by rw[c,e];have:=st_flag (v+1) 0 (by omega) (by omega);simpa[KK]using this
 have o:bits .and .u64 S 2147483647=0:=by rw[c,e];have:=st_waiters (v+1) 0 (by omega) (by omega);simpa[KK]using this
 have p:IntKind.i32.wrap V=V:=by rw[IntKind.wrap_i32];omega
 have k:1<V:=by omega
 have l:V<2147483648:=by omega
 have q:(V==1)=false:=by simp;omega
 have r:decide (V=1)=false:=Uj (by omega);have s:decide (V<0)=false:=Uj (by omega);have t:decide (0<V)=true:=Um (by omega);have u:(V==0)=false:=by simp;omega
 have x:decide (V=0)=false:=Uj (by omega);refine⟨_,(stepG_add_atomic rfl rfl (by k_ne) rfl H.f_addU64 (x_addU64_n L) (x_addU64_b L) (x_addU64_x L) .u64 (x_addU64_f L) rfl rfl b.cellSt (b.thaw 0)).trans (by rw[j];rfl),.inr ⟨110,?_⟩⟩;replace a:WgLive L.tWg Wg (w2.setCell (stA Wg) (.int .u64 S)):=⟨_,_,b.setSt _⟩
 clear b c e j;walk_nrm
 u_op xl a
 u_c stepG_region_end xl a
 u_c stepG_ret' xl a
 u_leave1 H.f_uAdd xl a
 u_op xl a
 u_c stepG_region_end xl a
 iterate 2 (u_c stepG_seq xl a)
 u_reg xl a
 iterate 4 (u_op xl a)
 iterate 2 (u_skip xl a)
 u_op xl a
 u_c stepG_region_end xl a
 u_cnd false xl a
 u_c stepG_skip xl a
 u_c stepG_seq xl a
 u_reg xl a
 iterate 4 (u_op xl a)
 u_c stepG_region_end xl a
 u_c stepG_seq xl a
 u_reg xl a
 iterate 4 (u_op xl a)
 u_c stepG_region_end xl a
 iterate 2 (u_c stepG_seq xl a)
 u_reg xl a
 iterate 10 (u_op xl a)
 u_c stepG_region_end xl a
 u_cnd false xl a
 u_c stepG_skip xl a
 iterate 2 (u_c stepG_seq xl a)
 u_reg xl a
 iterate 2 (u_op xl a)
 u_c stepG_region_end xl a
 u_cnd false xl a
 u_c stepG_skip xl a
 iterate 2 (u_c stepG_seq xl a)
 u_reg xl a
 iterate 3 (u_op xl a)
 iterate 2 (u_skip xl a)
 iterate 2 (u_op xl a)
 iterate 4 (u_skip xl a)
 u_op xl a
 u_c stepG_region_end xl a
 u_cnd false xl a
 u_c stepG_skip xl a
 iterate 2 (u_c stepG_seq xl a)
 u_reg xl a
 iterate 3 (u_op xl a)
 iterate 2 (u_skip xl a)
 u_op xl a
 u_c stepG_region_end xl a
 u_cnd true xl a
 u_c stepG_ret' xl a
 refine Goes.stop (λw4 d=>?_);replace a:=xl a d;clear d;refine⟨rfl,_,stepG_unwind_entry (v:=.tuple #[]) (evs:=#[mk .enable]) rfl H.f_enable (x_enable_n L) (x_enable_b L) (x_enable_x L) (x_enable_f L) (by simp[Extern.Race.none_]) (by simp[mk]) (by simp[mk]),mT+1,?_⟩
 u_leave0 H.f_add xl a
 exact f _ a
def SS(H:WgLib P L)(l:∀w,WgLive L.tWg Wg w->Goes P mn (RL L.tWg Wg) DC0 Fin mT (G (b₀.at (a₀.put ((ops₀[i₀]?).bind (·.dst)) (.tuple #[])) (.inRegion ops₀ rest₀::k₀)) cs) w) (g) (w) (h:XAn L Wg (b₀.at a₀ (.inRegion ops₀ (i₀::rest₀)::k₀)) cs g w):∃m,Goes P mn (RL L.tWg Wg) DC0 (XW1 P mn L.tWg Wg Fin (XAn L Wg (b₀.at a₀ (.inRegion ops₀ (i₀::rest₀)::k₀)) cs)) m g w:=by
 lib_facts
 obtain⟨T,rfl,d,o,a⟩:=h;obtain⟨v0,v1,v2,v3,v4,v5,v6,v7,v8,v9,t,u,x,y,z,A,B,C,D,E,F,I,J,K,M,N,O,Q,R,U,V,W,X,Y,Z,aa,ab,af,ag,ak,an,ao,ar,ax,ay,aM,a6,a7,a8,ba,bb,bk,bm,bo,bp,bq,br,bs,bx,bA,bB,bC,b0,b3,b4,b5,b6,b7,b8,ca,cb,cc,cd,cf,cg,ck,cl,cm,cn,cp,cq,cr,cv,cw,rfl⟩:=array84 T d;simp only[Wx,XW,UX]at o;subst o;refine⟨30,?_⟩;simp only[L7,body_wait,waitFn,VY];u_c stepG_block xl a;u_c stepG_seq xl a
 u_reg xl a
 iterate 3 (u_op xl a)
 u_call H.f_uLoad (nm_uLoad L) uLoadFn xl a
 u_c stepG_seq xl a
 u_reg xl a
 u_op xl a
 u_c stepG_region_end xl a
 u_c stepG_seq xl a
 u_reg xl a
 iterate 3 (u_op xl a)
 refine Goes.stop (λw1 p=>?_);replace a:=xl a p;clear p;refine⟨rfl,λv hv b=>?_⟩;obtain rfl|hvp:=U4 v
 ·replace b:WgAt L.tWg Wg w1 0 0:=by simpa using b
  refine⟨_,stepG_load_atomic (v:=0) rfl rfl (by k_ne) rfl H.f_loadU64 (x_loadU64_n L) (x_loadU64_b L) (x_loadU64_x L) .u64 (x_loadU64_f L) rfl b.cellSt,λ_=>⟨80,?_⟩,λh=>absurd rfl h⟩;clear b;walk_nrm
  u_op xl a
  u_c stepG_region_end xl a
  u_c stepG_ret' xl a
  u_leave1 H.f_uLoad xl a
  u_op xl a
  u_c stepG_region_end xl a
  u_c stepG_seq xl a
  u_reg xl a
  iterate 4 (u_op xl a)
  u_c stepG_region_end xl a
  u_c stepG_seq xl a
  u_reg xl a
  iterate 4 (u_op xl a)
  u_c stepG_region_end xl a
  iterate 2 (u_c stepG_seq xl a)
  u_reg xl a
  iterate 2 (u_op xl a)
  u_c stepG_region_end xl a
  u_cond true xl a
  u_c stepG_seq xl a
  u_cond true xl a
  u_c stepG_seq xl a
  u_reg xl a
  refine Goes.stop (λw5 f=>?_);replace a:=xl a f;clear f;refine⟨rfl,_,stepG_mark0 .enable (by simp) rfl rfl (by k_ne) rfl H.f_enable (x_enable_n L) (x_enable_b L) (x_enable_x L) (x_enable_f L),30,?_⟩;walk_nrm
  u_c stepG_region_end xl a
  u_reg xl a
  u_op xl a
  u_conv H.underlying_tWgP H.room_tWg (WgLive.cell0 a).choose_spec xl a
  refine Goes.stop (λw6 i=>?_);replace a:=xl a i;clear i;refine⟨rfl,_,stepG_markAt .acquire (by simp) rfl rfl (by k_ne) rfl H.f_acquire (x_acquire_n L) (x_acquire_b L) (x_acquire_x L) (x_acquire_f L) (by simp[Act.eval,stA]),⟨mT+20,?_⟩⟩;walk_nrm
  u_c stepG_region_end xl a
  iterate 2 (u_c stepG_seq xl a)
  u_reg xl a
  iterate 8 (u_op xl a)
  iterate 2 (u_skip xl a)
  u_op xl a
  u_c stepG_region_end xl a
  u_cond false xl a
  u_c stepG_skip xl a
  u_c stepG_ret' xl a
  u_leave0 H.f_wait xl a
  exact l _ a
 obtain⟨S,c⟩:∃S:Int,(v:Int)*KK=S:=⟨_,rfl⟩
 have a1:S/4294967296=(v:Int):=by rw[<-c];simp only[KK];omega
 have b1:bits .and .u64 S 2147483648=0:=by rw[<-c];have:=st_flag v 0 (by omega) (by omega);simpa[KK]using this
 have b2:bits .and .u64 S 2147483647=0:=by rw[<-c];have:=st_waiters v 0 (by omega) (by omega);simpa[KK]using this
 have c1:IntKind.i32.wrap (v:Int)=(v:Int):=by rw[IntKind.wrap_i32];omega
 have wq:IntKind.u64.wrap (S+1)=S+1:=by rw[IntKind.wrap_u64,<-c];simp only[KK];omega
 have q3:decide ((v:Int)<0)=false:=Uj (by omega);have q4:decide (0<(v:Int))=true:=Um (by omega);have q5:((v:Int)==0)=false:=by simp;omega
 have q6:decide ((v:Int)=0)=false:=Uj (by omega);rw[c]at b;refine⟨_,stepG_load_atomic (v:=S) rfl rfl (by k_ne) rfl H.f_loadU64 (x_loadU64_n L) (x_loadU64_b L) (x_loadU64_x L) .u64 (x_loadU64_f L) rfl b.cellSt,λh0=>absurd h0 (by omega),λ_=>⟨80,?_⟩⟩;clear b;walk_nrm
 u_op xl a
 u_c stepG_region_end xl a
 u_c stepG_ret' xl a
 u_leave1 H.f_uLoad xl a
 u_op xl a
 u_c stepG_region_end xl a
 u_c stepG_seq xl a
 u_reg xl a
 iterate 4 (u_op xl a)
 u_c stepG_region_end xl a
 u_c stepG_seq xl a
 u_reg xl a
 iterate 4 (u_op xl a)
 u_c stepG_region_end xl a
 iterate 2 (u_c stepG_seq xl a)
 u_reg xl a
 iterate 2 (u_op xl a)
 u_c stepG_region_end xl a
 u_cnd false xl a
 u_c stepG_skip xl a
 u_c stepG_seq xl a
 u_reg xl a
 iterate 6 (u_op xl a)
 u_call H.f_uCas (nm_uCas L) uCasFn xl a
 u_c stepG_seq xl a
 u_reg xl a
 u_op xl a
 u_c stepG_region_end xl a
 u_c stepG_seq xl a
 u_reg xl a
 iterate 5 (u_op xl a)
 refine Goes.stop (λw2 q=>?_);replace a:=xl a q;clear q;refine⟨rfl,λv' cx b=>⟨λe=>?_,λe=>?_⟩⟩
 ·subst e;rw[c]at b⊢;refine⟨_,(stepG_cas_hit (v:=S) (n:=S+1) rfl rfl (by k_ne) rfl H.f_casU64 (x_casU64_n L) (x_casU64_b L) (x_casU64_x L) .u64 (x_casU64_f L) rfl rfl rfl b.cellSt (b.thaw 0)).trans (by rfl),80,?_⟩;replace a:WgLive L.tWg Wg (w2.setCell (stA Wg) (.int .u64 (S+1))):=⟨_,_,b.setSt _⟩
  clear b;walk_nrm
  u_op xl a
  u_c stepG_region_end xl a
  u_c stepG_ret' xl a
  u_leave1 H.f_uCas xl a
  u_c stepG_region_end xl a
  u_cond true xl a
  iterate 2 (u_c stepG_seq xl a)
  u_reg xl a
  iterate 4 (u_op xl a)
  u_c stepG_region_end xl a
  u_cond true xl a
  u_reg xl a
  iterate 3 (u_op xl a)
  u_conv H.underlying_tPU32 H.room_tU32 (WgLive.cell1 a).choose_spec xl a
  refine Goes.stop (λw3 r=>?_);replace a:=xl a r;clear r;refine⟨rfl,_,stepG_markAt .write (by simp) rfl rfl (by k_ne) rfl H.f_raceWrite (x_raceWrite_n L) (x_raceWrite_b L) (x_raceWrite_x L) (x_raceWrite_f L) (ad:=⟨Wg,1,none⟩) (by simp[Act.eval]),60,?_⟩;walk_nrm
  u_c stepG_region_end xl a
  u_c stepG_seq xl a
  u_reg xl a
  u_op xl a
  u_c stepG_region_end xl a
  iterate 2 (u_c stepG_seq xl a)
  u_reg xl a
  iterate 4 (u_op xl a)
  u_skip xl a
  u_op xl a
  u_c stepG_region_end xl a
  u_cond false xl a
  u_c stepG_skip xl a
  u_c stepG_seq xl a
  u_reg xl a
  iterate 4 (u_op xl a)
  refine Goes.stop (λw4 s=>?_);replace a:=xl a s;clear s;refine⟨rfl,rfl,λ⟨st,b⟩=>stepG_semacquire_wait rfl rfl rfl H.f_semacquire (x_semacquire_n L) (x_semacquire_b L) (x_semacquire_x L) (x_semacquire_f L) (by simp[Act.eval,smA]) b.cellSm,λj=>?_⟩;refine⟨_,(stepG_semacquire (n:=1) rfl rfl (by k_ne) rfl H.f_semacquire (x_semacquire_n L) (x_semacquire_b L) (x_semacquire_x L) (x_semacquire_f L) (by simp[Act.eval,smA]) j.cellSm (by k_ne) (j.thaw 1)).trans (by rfl),40,?_⟩;replace a:WgLive L.tWg Wg (w4.setCell (smA Wg) (.int .u32 0)):=⟨_,_,j.setSm 0⟩
  clear j;walk_nrm
  u_c stepG_region_end xl a
  u_c stepG_seq xl a
  u_reg xl a
  iterate 3 (u_op xl a)
  u_call H.f_uLoad (nm_uLoad L) uLoadFn xl a
  u_c stepG_seq xl a
  u_reg xl a
  u_op xl a
  u_c stepG_region_end xl a
  u_c stepG_seq xl a
  u_reg xl a
  iterate 3 (u_op xl a)
  refine Goes.stop (λw5 f=>?_);replace a:=xl a f;clear f;refine⟨rfl,λb=>⟨_,stepG_load_atomic (v:=0) rfl rfl (by k_ne) rfl H.f_loadU64 (x_loadU64_n L) (x_loadU64_b L) (x_loadU64_x L) .u64 (x_loadU64_f L) rfl b.cellSt,40,?_⟩⟩;clear b;walk_nrm
  u_op xl a
  u_c stepG_region_end xl a
  u_c stepG_ret' xl a
  u_leave1 H.f_uLoad xl a
  iterate 2 (u_op xl a)
  u_c stepG_region_end xl a
  u_c stepG_seq xl a
  u_cond true xl a
  u_c stepG_seq xl a
  u_reg xl a
  refine Goes.stop (λw6 i=>?_);replace a:=xl a i;clear i;refine⟨rfl,_,stepG_mark0 .enable (by simp) rfl rfl (by k_ne) rfl H.f_enable (x_enable_n L) (x_enable_b L) (x_enable_x L) (x_enable_f L),30,?_⟩;walk_nrm
  u_c stepG_region_end xl a
  u_reg xl a
  u_op xl a
  u_conv H.underlying_tWgP H.room_tWg (WgLive.cell0 a).choose_spec xl a
  refine Goes.stop (λw7 k=>?_);replace a:=xl a k;clear k;refine⟨rfl,_,stepG_markAt .acquire (by simp) rfl rfl (by k_ne) rfl H.f_acquire (x_acquire_n L) (x_acquire_b L) (x_acquire_x L) (x_acquire_f L) (by simp[Act.eval,stA]),⟨mT+10,?_⟩⟩;walk_nrm
  u_c stepG_region_end xl a
  iterate 2 (u_c stepG_seq xl a)
  u_reg xl a
  u_op xl a
  u_c stepG_region_end xl a
  u_cond false xl a
  u_c stepG_skip xl a
  u_c stepG_ret' xl a
  u_leave0 H.f_wait xl a
  exact l _ a
 refine⟨_,stepG_cas_miss (v:=(v':Int)*KK) (old:=S) (n:=S+1) rfl rfl (by k_ne) rfl H.f_casU64 (x_casU64_n L) (x_casU64_b L) (x_casU64_x L) .u64 (x_casU64_f L) rfl rfl rfl b.cellSt (b.thaw 0) (by rw[<-c];simp only[KK];omega),40,?_⟩;clear b;walk_nrm
 u_op xl a
 u_c stepG_region_end xl a
 u_c stepG_ret' xl a
 u_leave1 H.f_uCas xl a
 u_c stepG_region_end xl a
 u_cond false xl a
 u_c stepG_skip xl a
 u_c stepG_inBlock xl a
 u_c stepG_inLoop xl a
 exact Goes.stop (λw7 k=>⟨_,rfl,by simp,by simp,xl a k⟩)
def Hs(H:WgLib P L)(w:World)(a:WgLive L.tWg Wg w):Goes P mn (RL L.tWg Wg) DC0 (XWd P mn L.tWg Wg (XAn L Wg (b₀.at a₀ (.inRegion ops₀ (i₀::rest₀)::k₀)) cs)) 20 (G ((base L.wait).at ⟨#[.pointer (some ⟨Wg,0,none⟩),undef,undef,undef,undef,undef,undef,undef,undef,undef,undef,undef,undef,undef,undef,undef,undef,undef,undef,undef,undef,undef,undef,undef,undef,undef,undef,undef,undef,undef,undef,undef,undef,undef,undef,undef,undef,undef,undef,undef,undef,undef,undef,undef,undef,undef,undef,undef,undef,undef,undef,undef,undef,undef,undef,undef,undef,undef,undef,undef,undef,undef,undef,undef,undef,undef,undef,undef,undef,undef,undef,undef,undef,undef,undef,undef,undef,undef,undef,undef,undef,undef,undef,undef],[]⟩ [.code (body_wait L)]) (b₀.at a₀ (.inRegion ops₀ (i₀::rest₀)::k₀)::cs)) w:=by (lib_facts);simp only[body_wait,waitFn,VY];u_c stepG_seq xl a;(u_cond true xl a);(u_reg xl a);refine Goes.stop (λw1 b=>?_);replace a:=xl a b;clear b;refine⟨rfl,_,stepG_mark0 .disable (by simp) rfl rfl (by k_ne) rfl H.f_disable (x_disable_n L) (x_disable_b L) (x_disable_x L) (x_disable_f L),10,?_⟩;(walk_nrm);(u_c stepG_region_end xl a);(u_c stepG_block xl a);(u_c stepG_loop xl a);exact Goes.stop (λw2 c=>⟨_,rfl,by simp,by simp,xl a c⟩)
end
end Go.Tm
namespace Go.Tm
open Go.Conc Go.ConcN
def blk:Loc->Option Nat
 | .cell a=>some a.block
 | .obj r=>some r
 |_=>none
def Ji{B}{d:MemOp}{x}(h:d.act.low B)(a:d.act.touch?=some x){b}(i:blk x.loc=some b):b<B:=by obtain⟨g,fn,pos,f⟩:=d;cases f with|access e=>simp only[MemAct.touch?,UX]at a;subst a;simp only[MemAct.low]at h;cases j:e.loc<;>simp_all [Loc.low,blk]|mark m=>cases m<;>simp_all [MemAct.touch?,MemAct.low];all_goals (subst a;simp_all [blk])|_=>simp[MemAct.touch?]at a
section
variable (shun sp:Nat->Prop) (c:Nat) (T0:Nat) (own low:Nat->Nat)
structure TI(t:Trace):Prop where
 nr:∀said,¬Race said t
 M9:∀(i:Nat) (op:MemOp) x b,t[i]? =some op->op.act.touch?=some x->blk x.loc=some b->own b≠0->op.g=own b
 wr:∀(i:Nat) x b,touchAt t i=some x->blk x.loc=some b->own b=0->¬sp b->¬shun b->x.write=true->Knows t 0 i/\∀k,b<low k->Knows t k i
 tc:∀(i:Nat) x b,touchAt t i=some x->blk x.loc=some b->own b=0->¬sp b->¬shun b->(∀k,low k<=b)->Knows t 0 i
 sh:∀(i:Nat) (op:MemOp) x,t[i]? =some op->op.act.touch?=some x->∀b,blk x.loc=some b->sp b->x.kind=.atomic\/(x.kind=.said/\((op.g=0/\x.write=false/\(low c≠0->Knows t c i))\/(op.g=c/\c≠0)))
 cl:∀op∈t,op.g=c->low c≠0
 at_:∀(i:Nat) (op:MemOp) x,T0<=i->t[i]? =some op->op.act.touch?=some x->x.kind=.atomic->∃b,blk x.loc=some b/\sp b
 who:∀(i:Nat) (op:MemOp) x,T0<=i->t[i]? =some op->op.act.touch?=some x->op.g=0\/low op.g≠0
 z_:low 0=0
 vP:∀b,sp b->own b=0
def Okx(g:Nat)(x:Touch):Prop:=
 (g=0\/low g≠0)/\∃b,blk x.loc=some b/\
  ((own b=g/\g≠0/\x.kind=.plain)\/
   (own b=0/\¬sp b/\¬shun b/\x.kind=.plain/\((g=0/\(x.write=true->∀k,low k<=b))\/(g≠0/\x.write=false/\b<low g)))\/
   (sp b/\(x.kind=.atomic\/(x.kind=.said/\((g=0/\x.write=false/\low c=0)\/(g=c/\c≠0))))))
end
section
variable {shun sp:Nat->Prop} {c T0:Nat} {own low:Nat->Nat} {t u:Trace}
def Na{d}{a x:Touch}(h:a.conflicts d x){b}(e:blk x.loc=some b):blk a.loc=some b:=by rw[h.1];exact e
def TI.app{g}(h:TI shun sp c T0 own low t)(G:∀f∈u,f.g=g)(hc:g=c->low c≠0)(v:∀f∈u,∀x,f.act.touch?=some x->Okx shun sp c own low g x):TI shun sp c T0 own low (t++u):=by (have old:∀{i:Nat} {a:Touch},touchAt (t++u) i=some a->touchAt t i=some a\/∃f,(t++u)[i]? =some f/\f∈u/\f.act.touch?=some a:=by intro i a M;obtain⟨z,hz,N⟩:=touch_of M;obtain⟨_,Y⟩|⟨_,Z⟩:=getElem?_append_cases hz;exact .inl (by rw[touchAt_of Y];exact N);exact .inr ⟨z,hz,Z,N⟩);(have F:∀{i:Nat} {f:MemOp},(t++u)[i]? =some f->f∈u->Knows (t++u) g i:=by intro i f w aa;have:=knows_own w;rwa[G f aa]at this);refine⟨λO=>?_,λi f x b w p y hn=>?_,λi x b p y P Q hs W=>?_,λi x b p y P Q hs hl=>?_,λi f x w p b y o=>?_,λf H hg=>?_,λi f x hi w p I=>?_,λi f x hi w p=>?_,h.z_,h.vP⟩;refine noRace_append (h.nr O) G λi a M f H x p E=>?_;obtain⟨hg,b,y,d⟩:=v f H x p;have C:=Na E y;obtain⟨oi,A,R⟩:=touch_of M;obtain⟨n,q,_⟩|⟨n,q,h3,_,m⟩|⟨o,m⟩:=d;have:=h.M9 i oi a b A R C (by rw[n];exact q);have v:=knows_own A;rwa[this,n]at v;obtain⟨rfl,m⟩|⟨m,s,X⟩:=m;(cases S:x.write with|true=>exact h.tc i a b M C n q h3 (m S)|false=>exact(h.wr i a b M C n q h3 (E.2.2.1.resolve_right (by simp[S]))).1);exact(h.wr i a b M C n q h3 (E.2.2.1.resolve_right (by simp[s]))).2 g X;have B:=h.sh i oi a A R b C o;obtain⟨_,_,_,T⟩:=E;obtain m|⟨m,s⟩:=m;obtain e|e|⟨_,_,e⟩:=T;rcases B with U|⟨U,_⟩<;>rw[U]at e<;>cases e;rw[m]at e;cases e;rw[m]at e;cases e;(have D:a.kind=.said:=by obtain e|e|⟨_,e,_⟩:=T;rcases B with U|⟨U,_⟩<;>rw[U]at e<;>cases e;rw[m]at e;cases e;exact e);obtain e|⟨_,B⟩:=B;rw[e]at D;cases D;obtain⟨rfl,s,X⟩|⟨s,X⟩:=s;obtain⟨e1,e2,_⟩|⟨e1,_⟩:=B;have v:=knows_own A;rwa[e1]at v;exact absurd X (h.cl oi (mem_of_getElem? A) e1);obtain⟨_,_,e⟩|⟨e,_⟩:=B;rw[s];exact e (hc s);have v:=knows_own A;rwa[e,<-s]at v;obtain⟨_,r⟩|⟨_,j⟩:=getElem?_append_cases w;exact h.M9 i f x b r p y hn;obtain⟨_,V,l,d⟩:=v f j x p;rw[y]at l;cases l;obtain⟨n,_⟩|⟨n,_⟩|⟨o,_⟩:=d;rw[G f j,n];exact absurd n hn;exact absurd (h.vP _ o) hn;obtain J|⟨f,w,j,K⟩:=old p;obtain⟨n,q⟩:=h.wr i x b J y P Q hs W;exact⟨n.app u,λk L=>(q k L).app u⟩;obtain⟨_,V,l,d⟩:=v f j x K;rw[y]at l;cases l;obtain⟨n,q,_⟩|⟨_,_,_,_,m⟩|⟨n,_⟩:=d;exact absurd (n.symm.trans P) q;obtain⟨rfl,m⟩|⟨_,s,_⟩:=m;exact⟨F w j,λk L=>absurd (m W k) (Xf.2 L)⟩;rw[s]at W;cases W;exact absurd n Q;obtain J|⟨f,w,j,K⟩:=old p;exact(h.tc i x b J y P Q hs hl).app u;obtain⟨_,V,l,d⟩:=v f j x K;rw[y]at l;cases l;obtain⟨n,q,_⟩|⟨_,_,_,_,m⟩|⟨n,_⟩:=d;exact absurd (n.symm.trans P) q;obtain⟨rfl,m⟩|⟨_,_,s⟩:=m;exact F w j;exact absurd (hl g) (Xf.2 s);exact absurd n Q;obtain⟨_,r⟩|⟨_,j⟩:=getElem?_append_cases w;obtain e|⟨e1,e2⟩:=h.sh i f x r p b y o;exact .inl e;exact .inr ⟨e1,e2.imp (λ⟨a,b,c⟩=>⟨a,b,λx=>(c x).app u⟩) id⟩;obtain⟨_,V,l,d⟩:=v f j x p;rw[y]at l;cases l;obtain⟨n,q,_⟩|⟨_,q,_⟩|⟨_,m⟩:=d;exact absurd (n.symm.trans (h.vP _ o)) q;exact absurd o q;obtain m|⟨m,s⟩:=m;exact .inl m;refine .inr ⟨m,s.imp (λ⟨a,b,c⟩=>⟨(G f j).trans a,b,λx=>absurd c x⟩) (λ⟨a,b⟩=>⟨(G f j).trans a,b⟩)⟩;obtain h'|h':=Vf.1 H;exact h.cl f h' hg;exact hc ((G f h').symm.trans hg);obtain⟨_,r⟩|⟨_,j⟩:=getElem?_append_cases w;exact h.at_ i f x hi r p I;obtain⟨_,V,l,d⟩:=v f j x p;obtain⟨_,_,e⟩|⟨_,_,_,e,_⟩|⟨o,_⟩:=d;rw[I]at e;cases e;rw[I]at e;cases e;exact⟨V,l,o⟩;obtain⟨_,r⟩|⟨_,j⟩:=getElem?_append_cases w;exact h.who i f x hi r p;rw[G f j];exact(v f j x p).1
def TI.still(h:TI shun sp c T0 own low t)(s:∀op∈u,op.act.touch?=none)(H:∀op∈u,op.g=c->low c≠0):TI shun sp c T0 own low (t++u):=by (have old:∀{i:Nat} {a:Touch},touchAt (t++u) i=some a->touchAt t i=some a:=by intro i a q;obtain⟨z,I,n⟩:=touch_of q;obtain⟨_,o⟩|⟨_,p⟩:=getElem?_append_cases I;rw[touchAt_of o];exact n;rw[s z p]at n;cases n);(have f:∀{i:Nat} {op:MemOp} {a:Touch},(t++u)[i]? =some op->op.act.touch?=some a->t[i]? =some op:=by intro i op a l q;obtain⟨_,o⟩|⟨_,p⟩:=getElem?_append_cases l;exact o;rw[s op p]at q;cases q);refine⟨λr=>?_,λi op x b l d m s=>h.M9 i op x b (f l d) d m s,λi x b d m v w y J=>?_,λi x b d m v w y K=>(h.tc i x b (old d) m v w y K).app u,λi op x l d b m A=>?_,λop B G=>?_,λi op x hi l d C=>h.at_ i op x hi (f l d) d C,λi op x hi l d=>h.who i op x hi (f l d) d,h.z_,h.vP⟩;rintro⟨i,j,D,⟨a,b,q,m,E⟩,L,M⟩;exact h.nr r ⟨i,j,D,⟨a,b,old q,old m,E⟩,λe=>L (hb_app u e),λe=>M (hb_app u e)⟩;obtain⟨N,O⟩:=h.wr i x b (old d) m v w y J;exact⟨N.app u,λk F=>(O k F).app u⟩;obtain e|⟨e1,P⟩:=h.sh i op x (f l d) d b m A;exact .inl e;exact .inr ⟨e1,P.imp (λ⟨a,b,c⟩=>⟨a,b,λx=>(c x).app u⟩) id⟩;obtain h'|h':=Vf.1 B;exact h.cl op h' G;exact H op h' G
def TI.fork{k s x y}(h:TI shun sp c T0 own low t)(o:x.g=0/\x.act=.go k)(D:y.g=k/\y.act=.start)(E:Deaf t 0=0)(Q:Deaf t k=0)(H:k≠0)(w:low k=0)(A:s≠0)(I:c≠0):TI shun sp c T0 own (upd low k s) (t++#[x,y]):=by (have F:∀op∈#[x,y],op.act.touch?=none:=by intro op m;simp only[U8,UC,UR,US]at m;obtain rfl|rfl:=m;rw[o.2];rfl;rw[D.2];rfl);(have old:∀{i:Nat} {a:Touch},touchAt (t++#[x,y]) i=some a->touchAt t i=some a:=by intro i a v;obtain⟨z,S,p⟩:=touch_of v;obtain⟨_,q⟩|⟨_,r⟩:=getElem?_append_cases S;rw[touchAt_of q];exact p;rw[F z r]at p;cases p);(have f:∀{i:Nat} {op:MemOp} {a:Touch},(t++#[x,y])[i]? =some op->op.act.touch?=some a->t[i]? =some op:=by intro i op a l v;obtain⟨_,q⟩|⟨_,r⟩:=getElem?_append_cases l;exact q;rw[F op r]at v;cases v);(have le:∀k',low k'<=upd low k s k':=by intro k';unfold upd;split;rename_i e;rw[e,w];omega;exact Ue _);refine⟨λB=>?_,λi op x b l o n F=>h.M9 i op x b (f l o) o n F,λi x' b d n J K A T=>?_,λi x' b d n E K A G=>(h.tc i x' b (old d) n E K A λk'=>Uf (le k') (G k')).app _,λi op x' l d b n L=>?_,λop m M=>?_,λi op x' hi l d N=>h.at_ i op x' hi (f l d) d N,λi op x' hi l d=>?_,?_,h.vP⟩;rintro⟨i,j,O,⟨a,b,v,n,P⟩,U,V⟩;exact h.nr B ⟨i,j,O,⟨a,b,old v,old n,P⟩,λe=>U (hb_app _ e),λe=>V (hb_app _ e)⟩;obtain⟨R,W⟩:=h.wr i x' b (old d) n J K A T;refine⟨R.app _,λk' C=>?_⟩;by_cases e:k'=k;subst e;exact fork_knows o D E Q R;rw[upd_ne _ _ e]at C;exact(W k' C).app _;obtain e|⟨e1,X⟩:=h.sh i op x' (f l d) d b n L;exact .inl e;refine .inr ⟨e1,X.imp (λ⟨a,b,c'⟩=>⟨a,b,λG=>?_⟩) id⟩;by_cases e:c=k;subst e;have:=knows_own (f l d);rw[a]at this;exact fork_knows o D E Q this;rw[upd_ne _ _ e]at G;exact(c' G).app _;have Y:=le c;obtain h'|h':=Vf.1 m;have:=h.cl op h' M;omega;simp only[U8,UC,UR,US]at h';obtain rfl|rfl:=h';exact absurd (o.1.symm.trans M).symm I;have e:=M.symm.trans D.1;rw[e,upd_same];exact A;obtain e|e:=h.who i op x' hi (f l d) d;exact .inl e;have:=le op.g;exact .inr (by omega);rw[upd_ne _ _ (Ux H)];exact h.z_
def TI.owned{own':Nat->Nat}{B}(h:TI shun sp c T0 own low t)(l:∀(i) x b,touchAt t i=some x->blk x.loc=some b->b<B)(g:∀b,b<B->own' b=own b)(m:∀b,sp b->own' b=0):TI shun sp c T0 own' low t:=by (have lt:∀{i:Nat} {x:Touch} {b:Nat},touchAt t i=some x->blk x.loc=some b->b<B:=by intro i x b a d;exact l i x b a d);refine⟨h.nr,λi n x b e a d k=>?_,λi x b a d f=>?_,λi x b a d f=>?_,h.sh,h.cl,h.at_,h.who,h.z_,m⟩;have j:=lt (by rw[touchAt_of e];exact a) d;rw[g b j]at k⊢;exact h.M9 i n x b e a d k;rw[g b (lt a d)]at f;exact h.wr i x b a d f;rw[g b (lt a d)]at f;exact h.tc i x b a d f
end
def SU(t:Trace)(g:Nat):Prop:=∀i,t.g? i=some g->t.counts i->Knows t 0 i
def TI.past{shun sp c B₀ B' own low Shun t u}(h:TI shun sp c t.size own low (t++u))(F:Past Shun B₀ t)(G:∀g,low g≠0->SU (t++u) g) (m:Deaf (t++u) 0=0) (seen:∀n∈t++u,n.act.low B'):Past (λl=>Shun l\/∃b,blk l=some b/\sp b) B' (t++u):=by refine⟨h.nr,λi a I H=>?_,λi g A o r=>?_,m,seen⟩;obtain⟨n,d,k⟩:=touch_of I;obtain⟨hi,f⟩|⟨hi,_⟩:=getElem?_append_cases d;(exact(F.known i a (by rw[touchAt_of f];exact k) H).imp (·.app u) λ⟨x,y⟩=>⟨.inl x,y⟩);obtain e|e:=h.who i n a hi d k;have:=knows_own d;rw[e]at this;exact .inl this;by_cases r:(t++u).counts i;exact .inl (G n.g e i (by simp[Trace.g?,d]) r);(have w:a.kind=.atomic:=by apply Vq;intro w;exact r ⟨a,by simp[Trace.act?,d,k],H,.inl w⟩);exact .inr ⟨.inr (h.at_ i n a hi d k w),w⟩;obtain hi|hi:=Uh i t.size;obtain⟨j,B,C⟩:=F.over i g (by rw[<-g?_old (u:=u) hi];exact A) o ((counts_old hi).1 r);(have D:j<t.size:=by unfold Trace.g? at B;obtain⟨z,s,_⟩:=UN.1 B;exact lt_size_of_getElem? s);exact⟨j,by rw[g?_old D];exact B,hb_app u C⟩;obtain⟨n,d,p⟩:=UN.1 A;have E:=r;obtain⟨x,J,_,_⟩:=E;obtain⟨K,f,k⟩:=touch_of J;rw[d]at f;cases f;obtain e|e:=h.who i n x hi d k;exact absurd (p.symm.trans e) o;rw[p]at e;obtain⟨q,z,s,v,hbe⟩:=G g e i A r;obtain rfl|hbe:=hbe;rw[d]at s;cases s;exact absurd (p.symm.trans v) o;exact⟨q,by simp[Trace.g?,s,v],hbe⟩
inductive iP{α:Type}(r:α->α->Prop):List α->List α->Prop
 |head {a' a:α} {l:List α}:r a' a->iP r (a'::l) (a::l)
 |tail {a:α} {l' l:List α}:iP r l' l->iP r (a::l') (a::l)
def iP.PG{a}(r:a->a->Prop):Acc (iP r) []:=⟨_,λ_ h=>by cases h⟩
def iP.Nb{e r a}(f:Acc r a):∀{l:List e},Acc (iP r) l->Acc (iP r) (a::l):=by induction f with|intro a _ b=>intro l g;induction g with|intro l c d=>refine⟨_,λy i=>?_⟩;cases i with|head h=>exact b _ h ⟨_,c⟩|tail h=>exact d _ h
def iP.wf{b}{r:b->b->Prop}(h:WellFounded r):WellFounded (iP r):=
 ⟨λl=>by
  induction l with
  |nil=>exact iP.PG r
  |cons a l c=>exact iP.Nb (h.apply a) c⟩
theorem iP.set{d r}:∀{l} {i} {a x:d},l[i]? =some a->r x a->iP r (l.set i x) l
 |b::l,0,a,x,h,c=>by simp at h;subst h;exact .head c
 |b::l,i+1,a,x,h,c=>.tail (iP.set (by simpa using h) c)
end Go.Tm
namespace Go.Tm
open Go.Conc Go.ConcN
open Go.ConcR (WgAt stA smA DC0)
structure RK(ty:TypeId)(Wg:Nat)(K:Nat->Prop)(w w₁:World):Prop where
 keep:∀b,K b->w₁.heap[b]? =w.heap[b]?
 live:WgLive ty Wg w->WgLive ty Wg w₁
 size:w.heap.size<=w₁.heap.size
def RK.refl{ty Wg K}(w):RK ty Wg K w w:=⟨λ_ _=>rfl,id,Ue _⟩
def RK.trans{ty Wg K a b c}(h:RK ty Wg K a b)(d:RK ty Wg K b c):RK ty Wg K a c:=⟨λx e=>(d.keep x e).trans (h.keep x e),d.live ∘ h.live,Uf h.size d.size⟩
def EvK(Wg:Nat)(K M:Nat->Prop)(e:Event):Prop:=(∀x,(MemAct.ofEvent e).touch?=some x->∃b,blk x.loc=some b/\((x.kind=.plain/\K b/\(x.write=true->M b))\/(b=Wg/\x.kind=.atomic)))/\e.loc≠ .mark .disable/\e.loc≠ .mark .enable/\(∀a,e.loc≠ .mark (.release a))/\∀B,(MemAct.ofEvent e).touch?=none->(MemAct.ofEvent e).low B
def Ht(w w':World)(b:Nat):Prop:=w.heap.size<=b/\b<w'.heap.size
def orK(K:Nat->Prop)(w w':World)(b:Nat):Prop:=K b\/Ht w w' b
def cP{K w w'}(h:w'.heap.size=w.heap.size):orK K w w'=K:=by funext b;apply propext;unfold orK Ht;constructor;rintro(x|⟨x,y⟩);exact x;omega;exact .inl
abbrev aJ:=(Nat->Prop)->(Nat->Prop)->Goroutine->World->Prop
section
variable (P:Program) (mn:Bool) (ty:TypeId) (Wg:Nat)
def SV(K M:Nat->Prop)(g:Goroutine)(a:World):Prop:=∃g' w' es,stepG P mn g a=.go g' w' es/\Eff M a w'/\∀e∈es,EvK Wg (orK K a w') (orK M a w') e
inductive Run(S:aJ):(Nat->Prop)->(Nat->Prop)->Goroutine->World->Prop
 |stop {K M:Nat->Prop} {g:Goroutine} {w:World}:(∀w₁,RK ty Wg K w w₁->S K M g w₁)->Run S K M g w
 |step {K M:Nat->Prop} {g:Goroutine} {w:World}:g.status=.running->(∀w₁,RK ty Wg K w w₁->SV P mn Wg K M g w₁)->(∀w₁ g' w' es,RK ty Wg K w w₁->stepG P mn g w₁=.go g' w' es->Run S (orK K w₁ w') (orK M w₁ w') g' w')->Run S K M g w
structure Cfg where
 K:Nat->Prop
 M:Nat->Prop
 g:Goroutine
 w:World
def AtS(S:aJ)(c:Cfg):Prop:=∀a,RK ty Wg c.K c.w a->S c.K c.M c.g a
def Nxt(S:aJ)(c' c:Cfg):Prop:=¬AtS ty Wg S c/\∃a g' w' es,RK ty Wg c.K c.w a/\stepG P mn c.g a=.go g' w' es/\c'=⟨orK c.K a w',orK c.M a w',g',w'⟩
end
section
variable {P:Program} {mn:Bool} {ty:TypeId} {Wg:Nat} {S:aJ}
def Run.acc{K M g w}(h:Run P mn ty Wg S K M g w):Acc (Nxt P mn ty Wg S) ⟨K,M,g,w⟩:=by induction h with|stop h=>exact⟨_,λ_ b=>absurd h b.1⟩| @step K M g w f h i d=>refine⟨_,λc' b=>?_⟩;obtain⟨_,a,g',w',es,e,c,rfl⟩:=b;exact d a g' w' es e c
def Run.jX{K M g w}(k:g.status=.running) (h:∀f,RK ty Wg K w f->∃g' w' es,stepG P mn g f=.go g' w' es/\Eff M f w'/\(∀e∈es,EvK Wg (orK K f w') (orK M f w') e)/\Run P mn ty Wg S (orK K f w') (orK M f w') g' w'):Run P mn ty Wg S K M g w:=by refine .step k (λf i=>?_) λf g' w' es i j=>?_;obtain⟨g',w',es,a,b,c,_⟩:=h f i;exact⟨g',w',es,a,b,c⟩;obtain⟨m,w2,l,a,b,c,d⟩:=h f i;rw[j]at a;cases a;exact d
def Run.rely{K M g w w₁}(h:Run P mn ty Wg S K M g w)(c:RK ty Wg K w w₁):Run P mn ty Wg S K M g w₁:=by cases h with|stop h=>exact .stop λa b=>h a (c.trans b)|step d h e=>exact .step d (λa b=>h a (c.trans b)) λa g' w' es b=>e a g' w' es (c.trans b)
def Run.ql{K M g w}(h:Run P mn ty Wg S K M g w):S K M g w\/(g.status=.running/\∃g' w' es,stepG P mn g w=.go g' w' es/\Eff M w w'/\(∀e∈es,EvK Wg (orK K w w') (orK M w w') e)/\Run P mn ty Wg S (orK K w w') (orK M w w') g' w'):=by cases h with|stop h=>exact .inl (h w (.refl w))|step d h f=>obtain⟨g',w',es,a,b,c⟩:=h w (.refl w);exact .inr ⟨d,g',w',es,a,b,c,f w g' w' es (.refl w) a⟩
def Run.bind{d K M g w}(h:Run P mn ty Wg S K M g w)(e:∀K M g w,S K M g w->Run P mn ty Wg d K M g w):Run P mn ty Wg d K M g w:=by induction h with| @stop K M g w h=>exact e _ _ _ _ (h w (.refl w))|step f h j i=>exact .step f h λa g' w' es b c=>i a g' w' es b c
end
end Go.Tm
namespace Go.Tm
open Go.Conc Go.ConcN
section
variable {S:Kn} {P:Program} {fs:Array Func} {Pr:Nat->Prop}
def bw.Ey{π:Ren P.globals.size}{w W W₁:World}(h:bw S Pr π w W)(c:∀R,(∃r,π r R)->W₁.heap[R]? =W.heap[R]?)(e:∀R,Pr R->∃r,π r R)(a:W.heap.size<=W₁.heap.size):bw S Pr π w W₁:=⟨λr R b=>by rw[c R ⟨r,b⟩];exact h.obj r R b,h.vt,λR d=>Ui (h.wI R d) a,h.gw,Uf h.gW a,h.w0⟩
def Cp.Ey{Post π c F CS W W₁}(h:Cp S P fs Pr Post π c F CS W)(a:∀R,(∃r,π r R)->W₁.heap[R]? =W.heap[R]?)(b:∀R,Pr R->∃r,π r R)(d:W.heap.size<=W₁.heap.size):Cp S P fs Pr Post π c F CS W₁:=⟨h.top,h.cs,h.w.Ey a b d,h.flat,h.ra,h.dF⟩
def qm(π:Ren P.globals.size)(R:Nat):Prop:=∃r,π r R
def iN.Ey{c e f d k Post l m F CS}{W W₁:World}(h:iN S P fs c d k Post e f l m F CS W) (i:∀R,qm e R->W₁.heap[R]? =W.heap[R]?) (n:W.heap.size<=W₁.heap.size):iN S P fs c d k Post e f l m F CS W₁:=
 ⟨h.a.Ey i (λR ⟨r,g⟩=>⟨r,h.la _ _ g⟩) n,h.b.Ey (λR j=>i R ((h.same R).2 j)) (λR j=>j.elim) n,h.la,h.lb,h.base,λr R g=>(i R ⟨r,h.la _ _ g⟩).trans (h.old r R g),h.same⟩
def xL{π c:Ren P.globals.size}{W W':World}(e:∀r R,c r R->π r R\/W.heap.size<=R)(f:∀R,W.heap.size<=R->R<W'.heap.size->∃r,c r R)(g:Ren.le π c)(h:∀r R,c r R->R<W'.heap.size):qm c=orK (qm π) W W':=by funext R;apply propext;unfold orK Ht qm;constructor;rintro⟨r,d⟩;(exact(e r R d).imp (λx=>⟨r,x⟩) λx=>⟨x,h r R d⟩);rintro(⟨r,d⟩|⟨a,b⟩);exact⟨r,g _ _ d⟩;exact f R a b
def Ap{d}{π:Ren P.globals.size}{Wg e}(h:lu d π e):EvK Wg (qm π) (λb=>qm π b/\¬d b) e:=by
 obtain⟨i,wr,l⟩:=e;unfold lu at h;cases i with
 |cell A=>obtain⟨rfl,c,j⟩:=h;refine⟨λx a=>?_,by simp,by simp,by simp,λB h=>by simp[MemAct.ofEvent,MemAct.touch?]at h⟩;simp[MemAct.ofEvent,MemAct.touch?]at a;subst a;exact⟨A.block,rfl,.inl ⟨rfl,c,λg=>⟨c,j g⟩⟩⟩
 |obj R=>(obtain⟨k,c,j⟩:=h;simp only at k;subst k;refine⟨λx a=>?_,by simp,by simp,by simp,λB h=>by cases wr<;>simp[MemAct.ofEvent,MemAct.touch?]at h⟩;cases wr<;>(simp[MemAct.ofEvent,MemAct.touch?]at a;subst a));exact⟨R,rfl,.inl ⟨rfl,c,λg=>by cases g⟩⟩;exact⟨R,rfl,.inl ⟨rfl,c,λg=>⟨c,j rfl⟩⟩⟩
 |mark m=>cases m with|extern f=>exact⟨λx a=>by simp[MemAct.ofEvent,MemAct.touch?]at a,by simp,by simp,by simp,λB _=>trivial⟩|noRoom=>exact⟨λx a=>by simp[MemAct.ofEvent,MemAct.touch?]at a,by simp,by simp,by simp,λB _=>trivial⟩|_=>exact h.elim
 |_=>exact h.elim
def uW(V:Tab S P fs)(n:∀f,S.stop f=false)(o:∀g,S.calm g){mn ty Wg Q d l L Post B}(q) (s:∀(i k) (C D) (F) (W),Ren.le q i->iN S P fs d l L Post i k C D F [] W->C.AtE->Run P mn ty Wg Q (qm i) (iN.Own d i) ⟨F,B,.running,none,none⟩ W) {i k} {C D} {F} {CS} {W} (M:Ren.le q i) (h:iN S P fs d l L Post i k C D F CS W):Run P mn ty Wg Q (qm i) (iN.Own d i) ⟨F,CS++B,.running,none,none⟩ W:=by have t:=h.a.ra.acc;induction t generalizing i k D F CS W with|intro c _ X=>by_cases E:c.AtE;have u:=h.a.cs;rw[E.1]at u;cases u;exact s _ _ _ _ _ _ M h E;refine .jX rfl λv m=>?_;(have Y:=h.Ey m.keep m.size;obtain⟨z,N,G,Z,FR,aa,W',ev,hr,H,I,A,o1,o2,o3,J,j⟩:=Y.step V n o E mn;have O:=xL j.old j.new j.le λr R p=>(H.a.w.lt p).2;have T:iN.Own d z=orK (iN.Own d i) v W':=by funext b;apply propext;constructor;intro U;(obtain⟨⟨r,p⟩,_⟩:=id U;exact(o2 b U).imp id λx=>⟨x,(H.a.w.lt p).2⟩);rintro(x|⟨x,y⟩);exact o1 b x;exact o3 b x y);refine⟨_,W',ev,I B,A,λe K=>?_,?_⟩;rw[<-O,<-T];exact Ap (J e K);rw[<-O,<-T];exact X G hr (Ren.le_trans M j.le) H
end
end Go.Tm

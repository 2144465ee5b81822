import Derived.Test.YtaglpcmhopjebaaGreatDoorS6
set_option linter.all false
set_option maxRecDepth 100000
set_option maxHeartbeats 20000000
namespace Go.Tm
open Go.Conc Go.ConcN Go.Conc.Lib
open Go.ConcR (KK WgAt stA smA rd wr mk DC0)
structure nB(ty:TypeId)(Wg:Nat)(K:Nat->Prop)(Fx:World->Prop):Prop where
 rely:∀w Z1,RK ty Wg K w Z1->Fx w->Fx Z1
 set:∀w a v,a.block=Wg->Fx w->Fx (w.setCell a v)
def xP{ty Wg K b o}(e:K b)(f:b≠Wg):nB ty Wg K (λw=>w.heap[b]? =some o):=⟨λw d h c=>(h.keep b e).trans c,λw a v i c=>by rw[dQ w a v b (by rw[i];exact f)];exact c⟩
def nB.and{ty Wg K F G}(h:nB ty Wg K F)(c:nB ty Wg K G):nB ty Wg K (λw=>F w/\G w):=⟨λw b r x=>⟨h.rely w b r x.1,c.rely w b r x.2⟩,λw a v d x=>⟨h.set w a v d x.1,c.set w a v d x.2⟩⟩
def nB.all{ty Wg K}{d:Type}{F:d->World->Prop}(h:∀a,nB ty Wg K (F a)):nB ty Wg K (λw=>∀a,F a w):=⟨λw c r x a=>(h a).rely w c r (x a),λw a v e x b=>(h b).set w a v e (x b)⟩
def nB.const{ty Wg K}(p):nB ty Wg K (λ_=>p):=⟨λ_ _ _ x=>x,λ_ _ _ _ x=>x⟩
section
variable {P:Program} {mn:Bool} {ty:TypeId} {Wg ch:Nat} {z:Value} {K M:Nat->Prop} {Fn:Goroutine->World->Prop} {Fx:World->Prop}
def dL(fx:nB ty Wg K Fx){e}{S:aL}{g w}(h:∃m,Goes P mn (RL ty Wg) DC0 e m g w)(d:Fx w)(f:∀g w,e g w->Fx w->S K M g w):Run P mn ty Wg S K M g w:=by obtain⟨m,h⟩:=h;induction m generalizing g w with|zero=>exact .stop λa b=>f _ _ (h a b.rl) (fx.rely w a b d)|succ m i=>obtain h|⟨j,h⟩:=h;exact .stop λa b=>f _ _ (h a b.rl) (fx.rely w a b d);refine .jY j λa b=>?_;have:=h a b.rl;cases c:stepG P mn g a with|go g' w' es=>rw[c,goes_go]at this;obtain⟨⟨rfl,rfl⟩,k⟩:=this;refine⟨g',w',#[],rfl,Eff.refl _ _,by simp,?_⟩;rw[cu rfl,cu rfl];exact i (fx.rely w w' b d) k|_=>rw[c]at this;exact this.elim
def xQ(fx:nB ty Wg K Fx){c S g w}(h:∃m,Goes P mn (RL ty Wg) DC0 c m g w)(f:Fx w)(i:∀g w,c g w->Fx w->Run P mn ty Wg S K M g w):Run P mn ty Wg S K M g w:=by refine(dL (K:=K) (M:=M) (S:=λd e g w=>d=K/\e=M/\c g w/\Fx w) fx h f λg w a b=>⟨rfl,rfl,a,b⟩).bind ?_;rintro d e g w ⟨rfl,rfl,a,b⟩;exact i g w a b
section closer
variable (fx:nB ty Wg K Fx) (hF:∀g w,Fn g w->Fx w->Run P false ty Wg (SCl P ch) K M g w)
include fx hF
def Sg(g:Goroutine)(w:World)(h:R4 P false ty Wg Fn g w)(c:Fx w):Pb P ty Wg ch K M g w:=⟨h.1,let⟨g',a,b⟩:=h.2;⟨g',a,xQ fx b c hF⟩⟩
def Si(g:Goroutine)(w:World)(h:XWe P false ty Wg Fn g w)(c:Fx w):SWe P ty Wg ch K M g w:=⟨h.1,let⟨g',a,b⟩:=h.2;⟨g',a,dL fx b c (Sg fx hF)⟩⟩
def Tf(g:Goroutine)(w:World)(h:XW4 P false ty Wg Fn g w)(c:Fx w):SW4 P ty Wg ch K M g w:=⟨h.1,λx=>let⟨g',a,b⟩:=h.2 x;⟨g',a,dL fx b c (Si fx hF)⟩⟩
def Tg(g:Goroutine)(w:World)(h:XW3 P false ty Wg Fn g w)(c:Fx w):SW3 P ty Wg ch K M g w:=⟨h.1,h.2.1,h.2.2.1,λx=>let⟨g',a,b⟩:=h.2.2.2 x;⟨g',a,dL fx b (fx.set _ _ _ rfl c) (Tf fx hF)⟩⟩
def Th(g:Goroutine)(w:World)(h:XSw P false ty Wg Fn g w)(c:Fx w):SSw P ty Wg ch K M g w:=⟨h.1,let⟨g',a,b⟩:=h.2;⟨g',a,dL fx b c (Tg fx hF)⟩⟩
def AnF(K M:Nat->Prop)(Fx:World->Prop)(Anch:Goroutine->World->Prop):aL:=λa b g w=>a=K/\b=M/\Anch g w/\Fx w
variable {Anch:Goroutine->World->Prop}
def Ti(f:Nat)(g:Goroutine)(w:World)(h:XW2 P false ty Wg Fn Anch f g w)(i:Fx w):SW2 P ty Wg ch (AnF K M Fx Anch) f K M g w:=
 ⟨h.1,λv j k=>let⟨a,b⟩:=h.2 v j k
  ⟨λe=>let⟨g',c,d⟩:=a e;⟨g',c,dL fx d (fx.set _ _ _ rfl i) (Th fx hF)⟩,λe=>let⟨g',c,d⟩:=b e;⟨g',c,dL fx d i λg w x y=>⟨rfl,rfl,x,y⟩⟩⟩⟩
def Tj(g:Goroutine)(w:World)(h:XW1 P false ty Wg Fn Anch g w)(d:Fx w):SW1 P ty Wg ch (AnF K M Fx Anch) K M g w:=⟨h.1,λv f i=>let⟨g',a,b,c⟩:=h.2 v f i;⟨g',a,λe=>dL fx (b e) d (Si fx hF),λe=>dL fx (c e) d (Ti fx hF v)⟩⟩
def MY(c:∀g w,Anch g w->∃m,Goes P false (RL ty Wg) DC0 (XW1 P false ty Wg Fn Anch) m g w)(a b:Nat->Prop)(g:Goroutine)(w:World)(h:AnF K M Fx Anch a b g w):Run P false ty Wg (SW1 P ty Wg ch (AnF K M Fx Anch)) a b g w:=by obtain⟨rfl,rfl,h,d⟩:=h;exact dL fx (c g w h) d (Tj fx hF)
def Tk(c:∀g w,Anch g w->∃m,Goes P false (RL ty Wg) DC0 (XW1 P false ty Wg Fn Anch) m g w)(g:Goroutine)(w:World)(h:XWd P false ty Wg Anch g w)(d:Fx w):SWd P ty Wg ch (AnF K M Fx Anch) K M g w:=⟨h.1,let⟨g',a,b⟩:=h.2;⟨g',a,xQ fx b d λg w x y=>MY fx hF c K M g w ⟨rfl,rfl,x,y⟩⟩⟩
end closer
section vU
variable {HV:Nat->Option Value} {n r:Nat} {Nx:aL} (fx:nB ty Wg K Fx) (hF:∀g w,Fn g w->Fx w->Run P true ty Wg (SGo P ty Wg ch z HV n r Nx) K M g w)
include fx hF
def Sj(g:Goroutine)(w:World)(h:XKe P true ty Wg Fn g w)(c:Fx w):SKe P ty Wg ch z HV n r Nx K M g w:=⟨h.1,let⟨g',a,b⟩:=h.2;⟨g',a,xQ fx b c hF⟩⟩
def Tl(g:Goroutine)(w:World)(h:XSr P true ty Wg Fn g w)(c:Fx w):SSr P ty Wg ch z HV n r Nx K M g w:=⟨h.1,let⟨g',a,b⟩:=h.2;⟨g',a,dL fx b c (Sj fx hF)⟩⟩
def Tn(g:Goroutine)(w:World)(h:XA1 P true ty Wg Fn g w)(c:Fx w):SA1 P ty Wg ch z HV n r Nx K M g w:=⟨h.1,λv d e=>let⟨g',a,b⟩:=h.2 v d e;⟨g',a,b.elim (λb=>.inl (dL fx b (fx.set _ _ _ rfl c) (Tl fx hF))) λb=>.inr (dL fx b (fx.set _ _ _ rfl c) (Sj fx hF))⟩⟩
def To(g:Goroutine)(w:World)(h:XKd P true ty Wg Fn g w)(c:Fx w):SKd P ty Wg ch z HV n r Nx K M g w:=⟨h.1,let⟨g',a,b⟩:=h.2;⟨g',a,dL fx b c (Tn fx hF)⟩⟩
end vU
end
end Go.Tm
namespace Go.Tm
open Go.Conc Go.ConcN Go.Conc.Lib
open Go.ConcR (KK WgAt stA smA rd wr mk DC0 Bk)
section
variable {P:Program} {ty:TypeId} {Wg ch:Nat} {z:Value} {An:aL} {HV:Nat->Option Value} {Fin:List Value->aL} {n:Nat} {hv:Option Value}
def Ch(K M g w)(h:SWk P ty Wg ch z hv K M g w):g.status=.running:=by unfold SWk at h;split at h<;>exact h.1
def Ag(r a K M g w)(h:oQ P ty Wg ch z HV Fin n r a K M g w):g.status=.running:=by cases r<;>exact h.1
def cE{mn K D}{a:Goroutine->World->Prop}(b:∀g w,a g w->g.status=.running){m g w}(h:Goes P mn (RK ty Wg K) D a m g w):g.status=.running:=Goes.running b w (.refl w) h
def mM{mn K D c m g w Z1}(h:Goes P mn (RK ty Wg K) D c m g w)(r:RK ty Wg K w Z1):Goes P mn (RK ty Wg K) D c m g Z1:=Goes.rely (R:=RK ty Wg K) (λ_ _ _ a b=>a.trans b) h r
def WSit.status{D ρ g w}(h:WSit P ty Wg ch z hv D ρ g w):(D.s≠7/\(g.status=.running\/g.status=.finished))\/(D.s=7/\∃a v,g=parked a #[scase ch v bi] .send):=by cases h with|run h=>exact .inl ⟨by simp,.inl (h.status Ch)⟩|blk _ h=>exact .inr ⟨rfl,_,_,rfl⟩|r0 h=>exact .inl ⟨by simp,.inl (h.status λ_ _ _ _ x=>x.1)⟩|k1 h=>exact .inl ⟨by simp,.inl (cE (λ_ _ x=>x.1) h)⟩|d1 h=>exact .inl ⟨by simp,.inl (cE (λ_ _ x=>x.1) h)⟩|d2 h=>exact .inl ⟨by simp,.inl (cE (λ_ _ x=>x.1) h)⟩|d3 h=>exact .inl ⟨by simp,.inl (cE (λ_ _ x=>x.1) h)⟩|d4 h=>exact .inl ⟨by simp,.inl (cE (λ_ _ x=>x.1) h)⟩|quit h=>exact .inl ⟨by simp,h.status⟩
def WSit.busy{D ρ g w}(h:WSit P ty Wg ch z hv D ρ g w)(a:D.s≠7)(b:D.s≠0):g.status=.running:=by cases h with|run h=>exact h.status Ch|blk _ h=>exact absurd rfl a|r0 h=>exact h.status λ_ _ _ _ x=>x.1|k1 h=>exact cE (λ_ _ x=>x.1) h|d1 h=>exact cE (λ_ _ x=>x.1) h|d2 h=>exact cE (λ_ _ x=>x.1) h|d3 h=>exact cE (λ_ _ x=>x.1) h|d4 h=>exact cE (λ_ _ x=>x.1) h|quit h=>exact absurd rfl b
def WSit.rely{D ρ g w w'}(h:WSit P ty Wg ch z hv D ρ g w)(r:RK ty Wg D.K w w'):WSit P ty Wg ch z hv D ρ g w':=by cases h with|run h=>exact .run (h.rely r)|blk e h=>exact .blk e (h.rely r)|r0 h=>exact .r0 (h.rely r)|k1 h=>exact .k1 (mM h r)|d1 h=>exact .d1 (mM h r)|d2 h=>exact .d2 (mM h r)|d3 h=>exact .d3 (mM h r)|d4 h=>exact .d4 (mM h r)|quit h=>exact .quit h
def WSit.woken{D ρ g w}(h:WSit P ty Wg ch z hv D ρ g w)(a c)(w':World)(b:D.s=7->∃s r d,w'.heap[ch]? =some (.chan 0 #[] false s r d)):woken P a c w' g=g:=by obtain⟨_,h⟩|⟨e,f,v,rfl⟩:=h.status;unfold Go.Conc.woken;split;exact again_running _ h;rfl;obtain⟨s,r,d,b⟩:=b e;exact woken_send_open a c b
def fJ.status{mt j d K M ρ g w}(h:fJ P ty Wg ch z An HV Fin n mt j d K M ρ g w):(g.status=.running/\∀r a,mt≠ .rb r a)\/∃r a b,mt=.rb r a/\g=parked b #[rcase ch z] (.recv true):=by cases h with|kd _ h=>exact .inl ⟨h.status λ_ _ _ _ x=>x.1,by simp⟩|a1 _ h=>exact .inl ⟨h.status λ_ _ _ _ x=>x.1,by simp⟩|sr _ h=>exact .inl ⟨h.status λ_ _ _ _ x=>x.1,by simp⟩|ke _ h=>exact .inl ⟨h.status λ_ _ _ _ x=>x.1,by simp⟩|go _ h=>exact .inl ⟨h.status λ_ _ _ _ x=>x.1,by simp⟩|gc h=>exact .inl ⟨h.status λ_ _ _ _ x=>x.1,by simp⟩|rc _ h=>exact .inl ⟨h.status (Ag _ _),by simp⟩|rb _ h=>exact .inr ⟨_,_,_,rfl,rfl⟩|rw _ h=>exact .inl ⟨rfl,by simp⟩
def fJ.rely{mt j d K M ρ g w w'}(h:fJ P ty Wg ch z An HV Fin n mt j d K M ρ g w)(r:RK ty Wg K w w'):fJ P ty Wg ch z An HV Fin n mt j d K M ρ g w':=by cases h with|kd a h=>exact .kd a (h.rely r)|a1 a h=>exact .a1 a (h.rely r)|sr a h=>exact .sr a (h.rely r)|ke a h=>exact .ke a (h.rely r)|go a h=>exact .go a (h.rely r)|gc h=>exact .gc (h.rely r)|rc a h=>exact .rc a (h.rely r)|rb a h=>exact .rb a λb c=>h b (r.trans c)|rw a h=>exact .rw a λb c=>h b (r.trans c)
def fJ.woken{mt j d K M ρ g w}(h:fJ P ty Wg ch z An HV Fin n mt j d K M ρ g w)(a c)(w':World)(b:∃s r e,w'.heap[ch]? =some (.chan 0 #[] false s r e)):woken P a c w' g=g:=by obtain⟨h,_⟩|⟨_,_,_,_,rfl⟩:=h.status;unfold Go.Conc.woken;split;exact again_running _ (.inl h);rfl;obtain⟨s,r,e,b⟩:=b;exact woken_recv_open a c b
def CSit.rely{v ct d K M ρ g w w'}(h:CSit P ty Wg ch An v ct d K M ρ g w)(r:RK ty Wg K w w'):CSit P ty Wg ch An v ct d K M ρ g w':=by cases h with|wd h=>exact .wd (h.rely r)|w1 h=>exact .w1 (h.rely r)|w2 h=>exact .w2 (h.rely r)|sw h=>exact .sw (h.rely r)|w3 h=>exact .w3 (h.rely r)|blk h=>exact .blk λa b=>h a (r.trans b)|w4 h=>exact .w4 (h.rely r)|we h=>exact .we (h.rely r)|acq h=>exact .acq (h.rely r)|cl h=>exact .cl (h.rely r)|quit h=>exact .quit h
def CSit.Qy{v ct d K M ρ g w}(h:CSit P ty Wg ch An v ct d K M ρ g w)(a):∃ρ',CSit P ty Wg ch An a ct d K M ρ' g w:=by cases h with|wd h=>exact⟨_,.wd h⟩|w1 h=>exact⟨_,.w1 h⟩|w2 h=>exact⟨_,.w2 h⟩|sw h=>exact⟨_,.sw h⟩|w3 h=>exact⟨_,.w3 h⟩| @blk K M g w c h=>exact⟨(_,0,c),.blk h⟩|w4 h=>exact⟨_,.w4 h⟩|we h=>exact⟨_,.we h⟩|acq h=>exact⟨_,.acq h⟩|cl h=>exact⟨_,.cl h⟩| @quit K M g w c q d h=>exact⟨(_,q,c),.quit h⟩
def CSit.status{v ct d K M ρ g w}(h:CSit P ty Wg ch An v ct d K M ρ g w):(ct≠ .blk/\(g.status=.running\/g.status=.finished))\/(ct=.blk/\g.status=.blocked/\g.offers=none):=by cases h with|wd h=>exact .inl ⟨by simp,.inl (h.status λ_ _ _ _ x=>x.1)⟩|w1 h=>exact .inl ⟨by simp,.inl (h.status λ_ _ _ _ x=>x.1)⟩|w2 h=>exact .inl ⟨by simp,.inl (h.status λ_ _ _ _ x=>x.1)⟩|sw h=>exact .inl ⟨by simp,.inl (h.status λ_ _ _ _ x=>x.1)⟩|w3 h=>exact .inl ⟨by simp,.inl (h.status λ_ _ _ _ x=>x.1)⟩| @blk K M g w c h=>exact .inr ⟨rfl,rfl,(h w (.refl w)).2.1⟩|w4 h=>exact .inl ⟨by simp,.inl (h.status λ_ _ _ _ x=>x.1)⟩|we h=>exact .inl ⟨by simp,.inl (h.status λ_ _ _ _ x=>x.1)⟩|acq h=>exact .inl ⟨by simp,.inl (h.status λ_ _ _ _ x=>x.1)⟩|cl h=>exact .inl ⟨by simp,.inl (h.status λ_ _ _ _ x=>x.1)⟩|quit h=>exact .inl ⟨by simp,h.status⟩
def CSit.busy{v ct d K M ρ g w}(h:CSit P ty Wg ch An v ct d K M ρ g w)(a:ct≠ .blk)(b:ct≠ .quit):g.status=.running:=by cases h with|wd h=>exact h.status λ_ _ _ _ x=>x.1|w1 h=>exact h.status λ_ _ _ _ x=>x.1|w2 h=>exact h.status λ_ _ _ _ x=>x.1|sw h=>exact h.status λ_ _ _ _ x=>x.1|w3 h=>exact h.status λ_ _ _ _ x=>x.1|blk h=>exact absurd rfl a|w4 h=>exact h.status λ_ _ _ _ x=>x.1|we h=>exact h.status λ_ _ _ _ x=>x.1|acq h=>exact h.status λ_ _ _ _ x=>x.1|cl h=>exact h.status λ_ _ _ _ x=>x.1|quit h=>exact absurd rfl b
def CSit.woken{v ct d K M ρ g w}(h:CSit P ty Wg ch An v ct d K M ρ g w)(a f w')(j:f.status=.running\/f.status=.finished):∃b ρ',CSit P ty Wg ch An v b d K M ρ' (woken P a f w' g) w/\(b=ct\/(ct=.blk/\b=.w3))/\(mayWake P a=true->b≠ .blk):=by obtain⟨k,o⟩|⟨rfl,o,s⟩:=h.status;refine⟨ct,ρ,?_,.inl rfl,λ_=>k⟩;(have:Go.Conc.woken P a f w' g=g:=by unfold Go.Conc.woken;split;exact again_running _ o;rfl);rw[this];exact h;cases h with| @blk _ _ g w c l=>by_cases m:mayWake P a=true;(have e:Go.Conc.woken P a f w' {g with status:=.blocked}=g:=by (have p:=(l w (.refl w)));unfold Go.Conc.woken;rw[Tv (by rcases j with j|j<;>rw[m,j]<;>rfl)];have i:=p.2.1;obtain⟨gf,gc,q,t,go⟩:=g;simp only at i;subst i;have:q=.running:=p.1;subst this;rfl);rw[e];obtain⟨x,r⟩:=cO.of (P:=P) (mn:=false) (Run.stop l);exact⟨.w3,_,.w3 r,.inr ⟨rfl,rfl⟩,λ_=>by simp⟩;(have e:Go.Conc.woken P a f w' {g with status:=.blocked}={g with status:=.blocked}:=by unfold Go.Conc.woken;rw[Tu (by simp[m])]);rw[e];exact⟨.blk,(jT v .blk,0,c),.blk l,.inl rfl,λh=>absurd h m⟩
end
section
def iu(own:Nat->Nat)(x:Nat)(w w':World)(b:Nat):Nat:=if w.heap.size<=b/\b<w'.heap.size then x else own b
def sI{own x w w' b}(h:b<w.heap.size):iu own x w w' b=own b:=by unfold iu;rw[Tu (by omega)]
def jE{own x w w' b}(h:GU w w' b):iu own x w w' b=x:=by unfold iu;exact Tv h
def EvB(Wg:Nat)(e:Event):Prop:=(∀x,(MemAct.ofEvent e).touch?=some x->blk x.loc=some Wg/\x.kind=.atomic)/\(∀a,e.loc≠ .mark (.release a))/\∀B,Wg<B->(MemAct.ofEvent e).touch?=none->(MemAct.ofEvent e).low B
def Qz(Wg:Nat):Mark->Prop
 | .acquire a| .releaseMerge a=>a.block=Wg
 |_=>True
def iG{Wg:Nat}{m:Mark}(h:∀a,m≠ .release a/\m≠ .read a/\m≠ .write a)(b:Qz Wg m:=by first|exact trivial|exact rfl):EvB Wg (mk m):=by refine⟨λx c=>?_,λa e=>(h a).1 (Loc.mark.inj e),λB d f=>?_⟩;rotate_left;unfold Go.ConcR.mk;(cases m with|acquire a=>show a.block<B;have:a.block=Wg:=b;omega|releaseMerge a=>show a.block<B;have:a.block=Wg:=b;omega|release a=>exact absurd rfl (h a).1|read a=>exact absurd rfl (h a).2.1|write a=>exact absurd rfl (h a).2.2|_=>trivial);unfold Go.ConcR.mk at c;cases m<;>simp[MemAct.ofEvent,MemAct.touch?]at c;exact absurd rfl (h _).2.1;exact absurd rfl (h _).2.2
def eU{Wg a}(d:a.block=Wg)(b):EvB Wg ⟨.cell a,b,true⟩:=by refine⟨λx c=>?_,by simp,λB _ e=>by simp[MemAct.ofEvent,MemAct.touch?]at e⟩;simp[MemAct.ofEvent,MemAct.touch?]at c;subst c;exact⟨by simp[blk,d],rfl⟩
section
variable {P:Program} {ty:TypeId} {Wg ch:Nat} {z:Value} {An:aL} {HV:Nat->Option Value} {Fin:List Value->aL} {n base N0:Nat} {shun:Nat->Prop} {C0:World} {t₀ t:Trace}
def GV{w w':World}{own low:Nat->Nat}{K M:Nat->Prop}{i}(B:0<base)(m:low (base+i)≠0) (o:∀b,K b->b<w.heap.size/\¬spB Wg ch b/\¬shun b/\(own b=base+i\/(own b=0/\b<low (base+i)))) (p:∀b,M b->own b=base+i) (q:Wg<w.heap.size/\ch<w.heap.size) (r:∀b,shun b->b<w.heap.size) {es} (s:∀e∈es,EvK Wg (orK K w w') (orK M w w') e\/EvB Wg e) (fn) (pos):∀k∈MemOp.ofEvents (base+i) fn pos es,∀x,k.act.touch?=some x->Okx shun (spB Wg ch) (base+n) (iu own (base+i) w w') low (base+i) x:=by intro k f x l;obtain⟨e,g,rfl⟩:=Go.Conc.mem_ofEvents f;refine⟨.inr m,?_⟩;obtain h|h:=s e g;obtain⟨b,j,h⟩:=h.1 x l;refine⟨b,j,?_⟩;obtain⟨c,h2,h3⟩|⟨rfl,h2⟩:=h;obtain h2|h2:=h2;obtain⟨k1,u,v,d⟩:=o b h2;have a:iu own (base+i) w w' b=own b:=sI k1;obtain d|⟨d,y⟩:=d;exact .inl ⟨a.trans d,by omega,c⟩;refine .inr (.inl ⟨a.trans d,u,v,c,.inr ⟨by omega,?_,y⟩⟩);(cases A:x.write with|false=>rfl|true=>obtain h3|h3:=h3 A;have:=p b h3;omega;exact absurd h3.1 (by omega));exact .inl ⟨jE h2,by omega,c⟩;exact .inr (.inr ⟨.inl rfl,.inl h2⟩);obtain⟨c,h2⟩:=h.1 x l;exact⟨Wg,c,.inr (.inr ⟨.inl rfl,.inl h2⟩)⟩
def IT{c:MemAct}{B}(d:∀x,c.touch?=some x->∀b,blk x.loc=some b->b<B)(f:c.touch?=none->c.low B):c.low B:=by
 cases c with
 |access e=>have:=d _ rfl;show e.loc.low B;cases g:e.loc<;>first|trivial|exact this _ (by simp[blk,g])
 |mark m=>cases m with|read a=>exact d _ rfl _ rfl|write a=>exact d _ rfl _ rfl|_=>exact f rfl
 |_=>exact f rfl
def xC{es g fn pos B}(f:∀a∈MemOp.ofEvents g fn pos es,∀x,a.act.touch?=some x->∀b,blk x.loc=some b->b<B)(h:∀e∈es,(MemAct.ofEvent e).touch?=none->(MemAct.ofEvent e).low B):∀a∈MemOp.ofEvents g fn pos es,a.act.low B:=by intro a c;refine IT (f a c) λi=>?_;obtain⟨e,d,rfl⟩:=Go.Conc.mem_ofEvents c;exact h e d i
def lH{w w':World}(h:∀a∈t,a.act.low w.heap.size)(c:w.heap.size<=w'.heap.size){u:Trace}(d:∀a∈u,a.act.low w'.heap.size):∀a∈t++u,a.act.low w'.heap.size:=by intro a b;obtain h1|h1:=Us.1 b;exact MemAct.low_mono c (h a h1);exact d a h1
def MN{K M es}(b:∀e∈es,EvK Wg K M e\/EvB Wg e)(g fn pos):∀c∈MemOp.ofEvents g fn pos es,c.act≠ .mark (.release (stA Wg)):=by refine norel_of λe a=>?_;obtain h|h:=b e a;exact h.2.2.2.1 _;exact h.2.1 _
def J2{w w':World}{K M:Nat->Prop}(o:∀b,K b->b<w.heap.size)(p:w.heap.size<=w'.heap.size)(q:Wg<w.heap.size){es}(i:∀e∈es,EvK Wg (orK K w w') M e\/EvB Wg e)(g fn pos):∀j∈MemOp.ofEvents g fn pos es,j.act.low w'.heap.size:=by refine xC (λj d x k b l=>?_) λe a m=>?_;obtain⟨e,a,rfl⟩:=Go.Conc.mem_ofEvents d;obtain h|h:=i e a;obtain⟨r,c,h⟩:=h.1 x k;rw[l]at c;cases c;obtain⟨_,f|f,_⟩|⟨rfl,_⟩:=h;exact TB (o b f) p;exact f.2;omega;have:=(h.1 x k).1;rw[l]at this;cases this;omega;obtain h|h:=i e a;exact h.2.2.2.2 _ m;exact h.2.2 _ (by omega) m
def mu(σ:GSt P ty Wg):List (Rk P ty Wg)×Rk P ty Wg×Nat×Rk P ty Wg:=((List.range n).map σ.R,σ.r0,sumTo base σ.q,σ.rc)
def En(P ty Wg):List (Rk P ty Wg)×Rk P ty Wg×Nat×Rk P ty Wg->List (Rk P ty Wg)×Rk P ty Wg×Nat×Rk P ty Wg->Prop:=Prod.Lex (iQ (Rk.lt P ty Wg)) (Prod.Lex (Rk.lt P ty Wg) (Prod.Lex (· < ·) (Rk.lt P ty Wg)))
def Pc(P ty Wg):WellFounded (En P ty Wg):=(Prod.lex ⟨_,iQ.wf (Rk.wf P ty Wg)⟩ (Prod.lex ⟨_,Rk.wf P ty Wg⟩ (Prod.lex Nat.lt_wfRel ⟨_,Rk.wf P ty Wg⟩))).wf
def Pd{b}(f i)(x:b)(c:i<n):(List.range n).map (upd f i x)=((List.range n).map f).set i x:=by apply List.ext_getElem?;intro k;rw[List.getElem?_set];by_cases h:i=k;subst h;simp[c,upd_same];rw[Tu h];by_cases a:k<n;simp[a,upd_ne f x (TO h)];simp[a]
def jF{σ a i ρ}(b:i<n)(c:a.R=upd σ.R i ρ)(h:Rk.lt P ty Wg ρ (σ.R i)):En P ty Wg (mu (n:=n) (base:=base) a) (mu (n:=n) (base:=base) σ):=by refine Prod.Lex.left _ _ ?_;rw[c,Pd _ _ _ b];exact iQ.set (by simp[b]) h
end
end
section
variable {P:Program} {ty:TypeId} {Wg ch:Nat} {z:Value} {An:aL} {HV:Nat->Option Value} {Fin:List Value->aL} {n base N0:Nat} {shun:Nat->Prop} {C0:World} {t₀ t:Trace} {gs:Array Goroutine} {w w':World} {sl:Option (Nat×Nat)} {σ:GSt P ty Wg}
structure fK(Wg ch base N0:Nat)(shun:Nat->Prop):Prop where
 lI:0<base
 MO:∀b,shun b->b<N0
 wg_:N0<=Wg
 ch_:N0<=ch
 ne_:Wg≠ch
def bO(gs:Array Goroutine)(f x k)(g':Goroutine)(h:k≠x):((gs.map f).setIfInBounds x g')[k]? =(gs[k]?).map f:=by rw[TJ (TO h),T3]
def fC(gs:Array Goroutine)(f x)(g':Goroutine)(h:x<gs.size):((gs.map f).setIfInBounds x g')[x]? =some g':=by rw[Ui];simp[h]
def Ah{D':Nat->WD}{D:Nat->WD}{j}(h:∀i,i<j->((D' i).s<=6/\HV i≠none↔(D i).s<=6/\HV i≠none)){mt:nX} (c:∃l:List Nat,l.Nodup/\(∀i,i∈l↔i<j/\(D i).s<=6/\HV i≠none)/\mt.got=l.filterMap HV):∃l:List Nat,l.Nodup/\(∀i,i∈l↔i<j/\(D' i).s<=6/\HV i≠none)/\mt.got=l.filterMap HV:=by obtain⟨l,d,e,f⟩:=c;refine⟨l,d,λi=>?_,f⟩;rw[e i];constructor;rintro⟨a,b⟩;exact⟨a,(h i a).2 b⟩;rintro⟨a,b⟩;exact⟨a,(h i a).1 b⟩
def fL{ct}(h:ct≠some .quit):eT ct=false:=by cases ct with|none=>rfl|some c=>cases c<;>first|rfl|exact absurd rfl h
def dS{a k r g}{u:Trace}(h:RelBy a t k r)(b:∀c∈u,c.g=g)(d:g≠k):RelBy a (t++u) k r:=RelBy.appOther h b d
def kU{u}(h:AcqAll Wg n base t)(e:∀i r,i<n->RelBy (stA Wg) t (base+i) r->RelBy (stA Wg) (t++u) (base+i) r):AcqAll Wg n base (t++u):=by obtain⟨q,c,f,g,j⟩:=h;have a:=lt_of_act? c;exact⟨q,by rw[act?_old a];exact c,by rw[g?_old a];exact f,(heard_old a).2 g,λi d=>let⟨r,k,b⟩:=j i d;⟨r,e i r d k,b⟩⟩
def kV{u}(h:Cg Wg ch n base t)(k:∀i r,i<n->RelBy (stA Wg) t (base+i) r->RelBy (stA Wg) (t++u) (base+i) r)(l:∀i,t.size<=i->(t++u).g? i=some (base+n)->¬(t++u).counts i):Cg Wg ch n base (t++u):=by obtain⟨q,p,f,m,o,s,v,g,x,y,A⟩:=h;have c:=lt_of_act? f;have d:=lt_of_act? g;refine⟨q,p,by rw[act?_old c];exact f,by rw[g?_old c];exact m,(heard_old c).2 o,λi b=>let⟨r,B,e⟩:=s i b;⟨r,k i r b B,e⟩,v,by rw[act?_old d];exact g,by rw[g?_old d];exact x,(heard_old d).2 y,λi b j=>?_⟩;obtain a|hge:=Ty i t.size;rw[counts_old a];exact A i b (by rw[<-g?_old (u:=u) a];exact j);exact l i hge j
def iZ{u:Trace}{g k}(e:∀b∈u,b.g=g)(c:g≠k):∀i,t.size<=i->(t++u).g? i=some k->¬(t++u).counts i:=by intro i l f;obtain⟨b,h,a⟩:=T4.1 f;obtain⟨j,_⟩|⟨_,d⟩:=getElem?_append_cases h;omega;rw[e b d]at a;exact absurd a c
def GI.worker(G:fK Wg ch base N0 shun)(h:GI P ty Wg ch z An HV Fin n base N0 shun C0 t₀ gs w t σ){i}(S:i<σ.j){g g' es D' ρ' st' sm'} (hg:gs[base+i]? =some g) (br:stepG P false g w=.go g' w' es) (ad:g'.status=.running\/g'.status=.finished) (af:w'.os=w.os/\w'.tape=w.tape/\w'.output=w.output) (x:w.heap.size<=w'.heap.size) (I:∀b,b<w.heap.size->b≠Wg->σ.own b≠base+i->w'.heap[b]? =w.heap[b]?) (hwg:WgAt ty Wg w' st' sm') (ag:∀e∈es,EvK Wg (orK (σ.D i).K w w') (orK (σ.D i).M w w') e\/EvB Wg e) (hK:∀b,D'.K b->orK (σ.D i).K w w' b) (hM:∀b,D'.M b->orK (σ.D i).M w w' b) (hS:WSit P ty Wg ch z (HV i) D' ρ' g' w') (bs:Rk.lt P ty Wg ρ' (σ.R i)) (hd:deafBehind (σ.D i).d es=D'.d) (aM:(σ.D i).s<=5->∀r,RelBy (stA Wg) t (base+i) r->RelBy (stA Wg) (t++MemOp.ofEvents (base+i) g.frame.fn g.frame.place es) (base+i) r) (a6:D'.s<=5->(σ.D i).s<=5\/∃r,RelBy (stA Wg) (t++MemOp.ofEvents (base+i) g.frame.fn g.frame.place es) (base+i) r) (ah:∀p,(p=σ.ct\/(σ.ct=some .blk/\p=some .w3))->(mayWake P g=true->p≠some .blk)->Mode σ.j (upd σ.D i D') σ.mt p st' sm') (ak:D'.s<=6/\HV i≠none↔(σ.D i).s<=6/\HV i≠none) (h7:D'.s≠7):∃gs' o,runT P (crowd gs w sl) (base+i)=(.next (crowd gs' w' sl),MemOp.ofEvents (base+i) g.frame.fn g.frame.place es)/\GI P ty Wg ch z An HV Fin n base N0 shun C0 t₀ gs' w' (t++MemOp.ofEvents (base+i) g.frame.fn g.frame.place es) o/\En P ty Wg (mu (n:=n) (base:=base) o) (mu (n:=n) (base:=base) σ):=by
 have hb:=G.lI;have W:=h.w_;have T:=h.t_;have Q:=h.g_;have bx:=TB S Q.jn;have a7:=(TC.1 hg).1;have bA:(base+i==0)=false:=by simp;omega
 have an:=runT_crowd_go (P:=P) (sl:=sl) (i:=base+i) hg (by rw[bA];exact br);have v:∀op∈MemOp.ofEvents (base+i) g.frame.fn g.frame.place es,op.g=base+i:=λop ao=>by obtain⟨e,_,rfl⟩:=Go.Conc.mem_ofEvents ao;rfl
 have a8:=T.tr.vI Wg (.inl rfl);have ab:=T.tr.vI ch (.inr rfl);have L:=I ch W.sp.2 (TO G.ne_) (by rw[ab];omega);have ar:WgLive ty Wg w':=⟨_,_,hwg⟩
 have U:∀K:Nat->Prop,(∀b,K b->b<w.heap.size/\b≠Wg/\σ.own b≠base+i)->RK ty Wg K w w':=λK ax=>⟨λb f=>I b (ax b f).1 (ax b f).2.1 (ax b f).2.2,λ_=>ar,x⟩
 have N:∀b,shun b->b<w.heap.size:=λb f=>TB (G.MO b f) W.gn;have ba:=W.El i S;obtain⟨p,V,O,bB,bC⟩:∃p V,(p=σ.ct\/(σ.ct=some .blk/\p=some .w3))/\(mayWake P g=true->p≠some .blk)/\
  ∀c,p=some c->∃gc,((gs.map (woken P g g' w')).setIfInBounds (base+i) g')[base+n]? =some gc/\CSit P ty Wg ch An (VW σ.j (upd σ.D i D')) c σ.dc σ.Kc σ.Mc V gc w':=by
  cases y:σ.ct with
  |none=>exact⟨none,σ.rc,.inl rfl,λ_=>by simp,λc e=>by cases e⟩
  |some c=>
   obtain⟨gc,b0,b1⟩:=Q.cl c y;have b2:σ.ct≠none:=by rw[y];simp
   have hr:=U _ λb f=>by obtain⟨a1,C,H,B⟩:=W.kc b2 b f;refine⟨a1,λe=>C (.inl e),?_⟩;rcases B with B|B<;>omega
   obtain⟨c',b8,J,h2,h3⟩:=(b1.rely hr).woken g g' w' ad;obtain⟨b3,h4⟩:=J.Qy (VW σ.j (upd σ.D i D'));refine⟨some c',b3,?_,λe=>by simpa using h3 e,λc2 e=>?_⟩
   .obtain rfl|⟨rfl,rfl⟩:=h2
    .exact .inl rfl
    .exact .inr ⟨rfl,rfl⟩
   .cases e
    refine⟨_,?_,h4⟩;rw[bO _ _ _ _ _ (by omega),b0];rfl
 have A:p=none↔σ.ct=none:=by obtain rfl|⟨a,rfl⟩:=O;rfl;simp[a]
 have X:p=some .quit↔σ.ct=some .quit:=by obtain rfl|⟨a,rfl⟩:=O;rfl;simp[a]
 have bb:p=some .cl↔σ.ct=some .cl:=by obtain rfl|⟨a,rfl⟩:=O;rfl;simp[a]
 have b4:eT p=eT σ.ct:=by obtain rfl|⟨a,rfl⟩:=O;rfl;rw[a];rfl
 have Y:∀m r,m<n->RelBy (stA Wg) t (base+m) r->(m=i->(σ.D i).s<=5)->RelBy (stA Wg) (t++MemOp.ofEvents (base+i) g.frame.fn g.frame.place es) (base+m) r:=λm r _ hr E=>by by_cases e:m=i;subst e;exact aM (E rfl) r hr;exact dS hr v (by omega)
 have l:∀b,b<w.heap.size->iu σ.own (base+i) w w' b=σ.own b:=λb f=>sI f;have xB:(σ.ct=some .cl\/σ.ct=some .quit)->(σ.D i).s<=5:=by intro y;rw[h.m_.xB (by rcases y with y|y<;>rw[y]<;>trivial) i S];omega
 let o:GSt P ty Wg:={σ with D:=upd σ.D i D',R:=upd σ.R i ρ',ct:=p,rc:=V,own:=iu σ.own (base+i) w w',st:=st',sm:=sm'}
 refine⟨_,o,an,⟨?_,?_,?_,ah p O bB,?_⟩,jF bx rfl bs⟩;refine⟨af.1.trans W.os,af.2.1.trans W.tape,af.2.2.trans W.output,Tx W.gn x,λb f=>?_,?_,hwg,⟨TB W.sp.1 x,TB W.sp.2 x⟩,?_,?_,?_,?_,?_,?_,?_,?_,?_,?_,λk=>Tx (W.Ce k) x⟩;rw[I b (TB f W.gn) (by have:=G.wg_;omega) (λe=>by have:=(W.owns b (by omega)).1;omega)];exact W.old b f;obtain⟨s,E⟩:=W.chn;exact⟨s,by rw[L,E];show _=some (Obj.chan 0 #[] (eT p) s s false);rw[b4]⟩;intro m q b f;by_cases e:m=i;subst e;simp only[o,upd_same]at f;obtain hb2|hb2:=hK b f;obtain⟨a1,C,H,B⟩:=W.kw _ S b hb2;refine⟨TB a1 x,C,H,?_⟩;show iu σ.own (base+m) w w' b=base+m\/(iu σ.own (base+m) w w' b=0/\b<σ.low (base+m));rw[l b a1];exact B;refine⟨hb2.2,λe=>?_,λe=>absurd (N b e) (Uu.2 hb2.1),.inl (jE hb2)⟩;obtain e|e:=e;have:=W.sp.1;have:=hb2.1;omega;have:=W.sp.2;have:=hb2.1;omega;have hb2:(σ.D m).K b:=by simpa[o,upd_ne σ.D D' e]using f
 obtain⟨a1,C,H,B⟩:=W.kw m q b hb2;refine⟨TB a1 x,C,H,?_⟩;show iu σ.own (base+i) w w' b=base+m\/(iu σ.own (base+i) w w' b=0/\b<σ.low (base+m));rw[l b a1];exact B;intro m q b f;by_cases e:m=i;subst e;simp only[o,upd_same]at f;obtain hb2|hb2:=hM b f;have:=W.mw _ S b hb2;have F:=(W.owns b (by omega)).2.2.1;show iu σ.own (base+m) w w' b=base+m;rw[l b F];exact this;exact jE hb2;have hb2:(σ.D m).M b:=by simpa[o,upd_ne σ.D D' e]using f
 have:=W.mw m q b hb2;have F:=(W.owns b (by omega)).2.2.1;show iu σ.own (base+i) w w' b=base+m;rw[l b F];exact this;intro b f;obtain⟨a1,C,H,B⟩:=W.k0 b f;exact⟨TB a1 x,C,H,(l b a1).trans B⟩;intro b f;obtain⟨a1,C,H,B,a5⟩:=W.m0 b f;exact⟨TB a1 x,C,H,(l b a1).trans B,a5⟩;intro y b f;obtain⟨a1,C,H,B⟩:=W.kc (λe=>y (A.2 e)) b f;refine⟨TB a1 x,C,H,?_⟩;show iu σ.own (base+i) w w' b=base+n\/(iu σ.own (base+i) w w' b=0/\b<σ.low (base+n));rw[l b a1];exact B;intro y b f;have:=W.mc (λe=>y (A.2 e)) b f;have F:=(W.owns b (by omega)).2.2.1;exact(l b F).trans this;intro b f;by_cases hn:GU w w' b;have e:o.own b=base+i:=jE hn;refine⟨Tx W.gn hn.1,by rw[e];omega,hn.2,λe=>?_⟩;obtain e|e:=e;have:=W.sp.1;have:=hn.1;omega;have:=W.sp.2;have:=hn.1;omega;have e:o.own b=σ.own b:=by show iu σ.own (base+i) w w' b=_;unfold iu;exact Tu hn
 rw[e]at f⊢;obtain⟨a1,C,H,B⟩:=W.owns b f;exact⟨a1,C,TB H x,B⟩;exact W.El;exact W.Em.trans (not_congr A.symm);exact W.Cd;refine⟨?_,?_,?_,jl T.gb λop ao=>by rw[v op ao];have:=Q.jn;omega,?_,?_,?_,?_,?_,?_,?_,?_⟩;obtain⟨u,rfl⟩:=T.pre;exact⟨_,UA ..⟩;have ht:=T.tr.owned (own':=iu σ.own (base+i) w w') T.tb l (λb f=>by obtain rfl|rfl:=f;rw[l _ W.sp.1];exact a8;rw[l _ W.sp.2];exact ab);exact ht.app v (λe=>absurd e (by omega)) (GV hb ba (λb f=>by obtain⟨a1,C,H,B⟩:=W.kw i S b f;exact⟨a1,C,H,B⟩) (W.mw i S) W.sp N ag _ _);exact lH T.seen x (J2 (λb f=>(W.kw i S b f).1) x W.sp.1 ag _ _ _);exact T.norel.app (MN ag _ _ _);exact(Deaf_other t (by omega) _ v).trans T.d0;intro m q;by_cases e:m=i;subst e;simp only[o,upd_same];rw[Deaf_own,T.dw _ S];exact hd;simp only[o,upd_ne σ.D D' e];exact(Deaf_other t (by omega) _ v).trans (T.dw m q);intro y;exact(Deaf_other t (by omega) _ v).trans (T.dc λe=>y (A.2 e));intro k hk J h2;exact(Deaf_other t (g:=k) (g':=base+i) (λe=>J i S e.symm) _ v).trans (T.above k hk J λe=>h2 λe'=>e (A.1 e'));intro m q E;by_cases e:m=i;subst e;simp only[o,upd_same]at E;obtain bk|hr:=a6 E;obtain⟨r,hr⟩:=T.rel _ S bk;exact⟨r,aM bk r hr⟩;exact hr;simp only[o,upd_ne σ.D D' e]at E;obtain⟨r,hr⟩:=T.rel m q E;exact⟨r,dS hr v (by omega)⟩;intro y;have Z:=bb.1 y;exact kU (T.acq Z) λm r q hr=>Y m r q hr λ_=>xB (.inl Z);intro y;have Z:=X.1 y;exact kV (T.cls Z) (λm r q hr=>Y m r q hr λ_=>xB (.inr Z)) (iZ v (by omega));have aa:σ.ct≠some .quit->∃s r tm,w'.heap[ch]? =some (.chan 0 #[] false s r tm):=by intro y;obtain⟨s,E⟩:=W.chn;rw[fL y]at E;exact⟨s,s,false,L.trans E⟩
 refine⟨?_,Q.jn,λy=>Q.cn λe=>y (A.2 e),?_,A.trans Q.mc,?_,?_,bC,?_,?_,?_⟩;have:(if p.isSome then 1 else 0)=(if σ.ct.isSome then 1 else 0):=by obtain rfl|⟨a,rfl⟩:=O;rfl;rw[a];rfl
 simp only[T1,UZ];rw[this];exact Q.size;obtain⟨a,ha,ay⟩:=Q.mn;refine⟨woken P g g' w' a,by rw[bO _ _ _ _ _ (by omega),ha];rfl,?_⟩;have hr:=U _ λb f=>by obtain⟨a1,C,H,B⟩:=W.k0 b f;exact⟨a1,λe=>C (.inl e),by omega⟩
 have e:woken P g g' w' a=a:=by obtain⟨J,_⟩|⟨r,E,g2,J,_⟩:=ay.status;unfold Go.Conc.woken;split;exact again_running _ (.inl J);rfl;exact ay.woken g g' w' (aa (Q.mb ⟨r,E,J⟩).1)
 rw[e];exact ay.rely hr;intro m q;by_cases e:m=i;subst e;refine⟨g',fC _ _ _ _ a7,?_⟩;simp only[o,upd_same];exact hS;obtain⟨gw,b5,bm⟩:=Q.wk m q;refine⟨woken P g g' w' gw,by rw[bO _ _ _ _ _ (by omega),b5];rfl,?_⟩;have hr:=U _ λb f=>by obtain⟨a1,C,H,B⟩:=W.kw m q b f;refine⟨a1,λe=>C (.inl e),?_⟩;rcases B with B|B<;>omega
 have e':=bm.woken g g' w' λbo=>aa λy=>by rw[h.m_.xB (by rw[y];trivial) m q]at bo;cases bo
 simp only[o,upd_ne σ.D D' e,upd_ne σ.R ρ' e];rw[e'];exact bm.rely hr;intro m J h2;simp only[o,upd_ne σ.R ρ' (show m≠i fromλe=>by subst e;exact absurd S (Uu.2 J))];exact Q.unb m J h2;intro k gk J h2 hk;rw[bO _ _ _ _ _ (by omega)]at hk;obtain⟨b6,b7,rfl⟩:=T4.1 hk;have hq:=Q.lv k b6 J h2 b7;rw[woken_quitsD hq,Deaf_other t (by omega) _ v];exact hq;rintro⟨r,E,e⟩;obtain⟨J,h2⟩:=Q.mb ⟨r,E,e⟩;refine⟨λe'=>J (X.1 e'),λm q=>?_⟩;by_cases e':m=i;subst e';simp only[o,upd_same];exact h7;simp only[o,upd_ne σ.D D' e'];exact h2 m q;intro r E e;exact X.2 (Q.mq r E e)
 exact Ah (λm q=>by
  by_cases e:m=i
  .subst e;simp only[o,upd_same];exact ak
  .simp only[o,upd_ne σ.D D' e]) h.v_
end
section
variable {j:Nat} {D:Nat->WD} {D':WD} {mt:nX} {ct ct':Option CTag} {st sm:Int} {i:Nat}
def tV(a:i<j):VW j (upd D i D')+jS (D i)=VW j D+jS D':=sumTo_upd D D' jS a
def Mode.same(r:i<j)(h:Mode j D mt ct st sm)(g:D'.s=(D i).s\/(4<=D'.s/\4<=(D i).s)):Mode j (upd D i D') mt ct st sm:=by
 have x:jS D'=jS (D i):=by unfold jS;obtain e|⟨a,b⟩:=g;rw[e];rw[Tv a,Tv b]
 have m:VW j (upd D i D')=VW j D:=by have:=tV (D':=D') r (D:=D);omega
 have o:uQ j D->uQ j (upd D i D'):=by intro h k f;by_cases e:k=i;subst e;rw[upd_same];obtain e|⟨a,_⟩:=g;rw[e];exact h k f;exact .inl a;rw[upd_ne D D' e];exact h k f
 have p:Ek j D->Ek j (upd D i D'):=by intro h k f;by_cases e:k=i;subst e;rw[upd_same];obtain e|⟨_,b⟩:=g;rw[e];exact h k f;rw[h k f]at b;omega;rw[upd_ne D D' e];exact h k f
 cases h with
 |opn a b c=>rw[<-m];exact .opn a (o b) (by rw[m];exact c)
 |reg a b c=>rw[<-m];exact .reg a (o b) (by rw[m];exact c)
 |last L a b c d=>(have e:(upd D i D' L).s=(D L).s:=by by_cases e:L=i;subst e;rw[upd_same];obtain e|⟨_,b⟩:=g;exact e;rcases c with c|c|c<;>rw[c]at b<;>omega;rw[upd_ne D D' e]);rw[<-e];refine .last L a b (by rw[e];exact c) λk f l=>?_;by_cases q:k=i;subst q;rw[upd_same];have:=d k f l;obtain u|⟨_,v⟩:=g;rw[u];exact this;rw[this]at v;omega;rw[upd_ne D D' q];exact d k f l
 |sema a b c=>exact .sema a b (p c)
 |fin a b=>exact .fin a (p b)
def Mode.retag(h:Mode j D mt ct st sm)(e:ct'=ct\/(ct=some .blk/\ct'=some .w3)):Mode j D mt ct' st sm:=by obtain rfl|⟨rfl,rfl⟩:=e;exact h;cases h with|opn a=>exact a.elim|reg a b c=>exact .reg trivial b c|last L a b c d=>exact .last L trivial b c d|sema a b c=>exact .sema trivial (by simp) c|fin a=>exact a.elim
def Mode.isLast(h:Mode j D mt ct st sm)(f:i<j)(g:(D i).s=3\/(D i).s=2\/(D i).s=1):CTag.reg ct/\(∀k,k<j->k≠i->(D k).s=0)/\st=(if(D i).s=1 then 0 else 1)/\sm=0:=by
 cases h with
 |opn a b=>rcases b i f with x|x<;>omega
 |reg a b=>rcases b i f with x|x<;>omega
 |last L a b c d=>by_cases e:i=L;subst e;exact⟨a,d,rfl,rfl⟩;have:=d i f e;omega
 |sema a b c=>have:=c i f;omega
 |fin a b=>have:=b i f;omega
def GY(a:i<j)(b:4<=(D i).s):1<=VW j D:=by have:=le_sumTo (f:=λi=>jS (D i)) a;have e:jS (D i)=1:=Tv b;unfold VW;omega
def MP(j D):VW j D<=j:=by (have:=sumTo_le (f:=λi=>jS (D i)) (c:=1) (j:=j) λi _=>by unfold jS;split<;>omega);unfold VW;omega
def QA(h:VW j D=1)(c:uQ j D)(d:i<j)(f:4<=(D i).s):∀k,k<j->k≠i->(D k).s=0:=by intro k b a;obtain g|h0:=c k b;exfalso;have l:jS (⟨0,0,λ_=>False,λ_=>False⟩:WD)=0:=rfl;have m:=tV (D':=⟨0,0,λ_=>False,λ_=>False⟩) d (D:=D);have e:jS (D i)=1:=Tv f;have o:=GY (D:=upd D i ⟨0,0,λ_=>False,λ_=>False⟩) b (by rw[upd_ne _ _ a];exact g);omega;exact h0
def Mode.isOpen(h:Mode j D mt ct st sm)(f:i<j)(k:4<=(D i).s):uQ j D/\sm=0/\((CTag.opn ct/\(∀g,ct=some (.w2 g)->VW j D<=g/\1<=g)/\st=((VW j D+mt.pend:Nat):Int)*KK)\/(CTag.reg ct/\st=((VW j D:Nat):Int)*KK+1)):=by cases h with|opn a b c=>exact⟨b,rfl,.inl ⟨a,c,rfl⟩⟩|reg a b c=>exact⟨b,rfl,.inr ⟨a,rfl⟩⟩|last L a b c d=>by_cases e:i=L;subst e;omega;have:=d i f e;omega|sema a b c=>have:=c i f;omega|fin a b=>have:=b i f;omega
end
section
variable {P:Program} {ty:TypeId} {Wg ch:Nat} {z:Value} {An:aL} {HV:Nat->Option Value} {Fin:List Value->aL} {n base N0:Nat} {shun:Nat->Prop} {C0:World} {t₀ t:Trace} {gs:Array Goroutine} {w w':World} {sl:Option (Nat×Nat)} {σ:GSt P ty Wg}
def rn{k r fn pos es}(h:RelBy (stA Wg) t k r)(a:∀e∈es,(MemAct.ofEvent e).touch?=none):RelBy (stA Wg) (t++MemOp.ofEvents k fn pos es) k r:=h.appOwn fn pos es λj e b=>.inl (a e (Uq b))
def kW{k r d fn pos es}(h:RelBy (stA Wg) t k r)(g:Deaf t k=d+1)(f:∀e∈es,∃a b,e=(⟨.cell a,b,true⟩:Event)):RelBy (stA Wg) (t++MemOp.ofEvents k fn pos es) k r:=by refine h.appOwn fn pos es λj e m=>.inr ⟨?_,?_⟩;obtain⟨a,b,rfl⟩:=f e (Uq m);exact⟨a,b,rfl⟩;(have:deafBehind (Deaf t k) (es.extract 0 j)=Deaf t k:=by refine deafBehind_still (λx o=>?_) _;obtain⟨a,b,rfl⟩:=f x (by obtain⟨l,c⟩:=VX.1 o;rw[Wy]at c;split at c;exact Uq c;cases c);simp);rw[this,g];omega
def xD{K M es}(h:∀e∈es,EvK Wg K M e)(d):deafBehind d es=d:=deafBehind_still (λe a=>⟨(h e a).2.1,(h e a).2.2.1⟩) d
def mh(a v)(c:a.block=Wg):(w.setCell a v).os=w.os/\(w.setCell a v).tape=w.tape/\(w.setCell a v).output=w.output/\(w.setCell a v).heap.size=w.heap.size/\∀b,b≠Wg->(w.setCell a v).heap[b]? =w.heap[b]? :=⟨rfl,rfl,rfl,by simp[World.setCell],λb d=>dQ w a v b (by rw[c];exact d)⟩
def GI.gp(G:fK Wg ch base N0 shun)(h:GI P ty Wg ch z An HV Fin n base N0 shun C0 t₀ gs w t σ){i}(A:i<σ.j){g g' es s' d' ρ' st' sm'} (B:gs[base+i]? =some g) (q:stepG P false g w=.go g' w' es) (c:g'.status=.running\/g'.status=.finished) (C:w'=w\/∃a v,a.block=Wg/\w'=w.setCell a v) (hwg:WgAt ty Wg w' st' sm') (u:∀e∈es,EvB Wg e) (E:WSit P ty Wg ch z (HV i) ⟨s',d',(σ.D i).K,(σ.D i).M⟩ ρ' g' w') (x:Rk.lt P ty Wg ρ' (σ.R i)) (F:deafBehind (σ.D i).d es=d') (y:(σ.D i).s<=5->∀r,RelBy (stA Wg) t (base+i) r->RelBy (stA Wg) (t++MemOp.ofEvents (base+i) g.frame.fn g.frame.place es) (base+i) r) (l:s'<=5->(σ.D i).s<=5\/∃r,RelBy (stA Wg) (t++MemOp.ofEvents (base+i) g.frame.fn g.frame.place es) (base+i) r) (f:∀ct',(ct'=σ.ct\/(σ.ct=some .blk/\ct'=some .w3))->(mayWake P g=true->ct'≠some .blk)->Mode σ.j (upd σ.D i ⟨s',d',(σ.D i).K,(σ.D i).M⟩) σ.mt ct' st' sm') (k:s'<=6/\HV i≠none↔(σ.D i).s<=6/\HV i≠none) (H:s'≠7):∃gs' m,runT P (crowd gs w sl) (base+i)=(.next (crowd gs' w' sl),MemOp.ofEvents (base+i) g.frame.fn g.frame.place es)/\GI P ty Wg ch z An HV Fin n base N0 shun C0 t₀ gs' w' (t++MemOp.ofEvents (base+i) g.frame.fn g.frame.place es) m/\En P ty Wg (mu (n:=n) (base:=base) m) (mu (n:=n) (base:=base) σ):=by (have o:w'.os=w.os/\w'.tape=w.tape/\w'.output=w.output/\w'.heap.size=w.heap.size/\∀b,b≠Wg->w'.heap[b]? =w.heap[b]? :=by obtain rfl|⟨a,v,I,rfl⟩:=C;exact⟨rfl,rfl,rfl,rfl,λ_ _=>rfl⟩;exact mh a v I);exact h.worker (D':=⟨s',d',(σ.D i).K,(σ.D i).M⟩) G A B q c ⟨o.1,o.2.1,o.2.2.1⟩ (U3 o.2.2.2.1.symm) (λb _ p _=>o.2.2.2.2 b p) hwg (λe J=>.inr (u e J)) (λb p=>.inl p) (λb p=>.inl p) E x F y l f k H
end
section
variable {P:Program} {ty:TypeId} {Wg ch:Nat} {z:Value} {An:aL} {HV:Nat->Option Value} {Fin:List Value->aL} {n base N0:Nat} {shun:Nat->Prop} {C0:World} {t₀ t:Trace} {gs:Array Goroutine} {w w':World} {sl:Option (Nat×Nat)} {σ:GSt P ty Wg}
def fJ.bound{mt j d K M ρ g}(h:fJ P ty Wg ch z An HV Fin n mt j d K M ρ g w):j+mt.pend<=n:=by cases h<;>simp only[nX.pend]<;>(try simp)<;>omega
def dT(P ty)(Wg ch:Nat)(z:Value)(An:aL)(HV:Nat->Option Value)(Fin:List Value->aL)(n base N0:Nat)(shun:Nat->Prop)(C0:World)(t₀ t:Trace)(gs:Array Goroutine)(w:World)(sl:Option (Nat×Nat))(σ:GSt P ty Wg)(x:Nat):Prop:=∃gs' w' ops a,runT P (crowd gs w sl) x=(.next (crowd gs' w' sl),ops)/\GI P ty Wg ch z An HV Fin n base N0 shun C0 t₀ gs' w' (t++ops) a/\En P ty Wg (mu (n:=n) (base:=base) a) (mu (n:=n) (base:=base) σ)
def bX{a b}(h:a<b){x y}:Rk.lt P ty Wg (a,x) (b,y):=Prod.Lex.left _ _ h
def rp{a p q}(h:p<q){x y}:Rk.lt P ty Wg (a,p,x) (a,q,y):=Prod.Lex.right _ (Prod.Lex.left _ _ h)
def fw{a p x y}(h:RC.lt P ty Wg x y):Rk.lt P ty Wg (a,p,x) (a,p,y):=Prod.Lex.right _ (Prod.Lex.right _ h)
def xE(G:fK Wg ch base N0 shun)(h:GI P ty Wg ch z An HV Fin n base N0 shun C0 t₀ gs w t σ){i}(p:i<σ.j){g g' es ρ'} (B:gs[base+i]? =some g) (q:stepG P false g w=.go g' w' es) (f:g'.status=.running) (J:(σ.D i).s=8\/(σ.D i).s=6) (r:(σ.D i).d=0) (a:Eff (σ.D i).M w w') (k:∀e∈es,EvK Wg (orK (σ.D i).K w w') (orK (σ.D i).M w w') e) (C:WSit P ty Wg ch z (HV i) ⟨(σ.D i).s,0,orK (σ.D i).K w w',orK (σ.D i).M w w'⟩ ρ' g' w') (u:Rk.lt P ty Wg ρ' (σ.R i)):dT P ty Wg ch z An HV Fin n base N0 shun C0 t₀ t gs w sl σ (base+i):=by
 have W:=h.w_;have T:=h.t_;have o:=G.lI;have y:=T.tr.vI Wg (.inl rfl);have c:∀b,b<w.heap.size->σ.own b≠base+i->w'.heap[b]? =w.heap[b]? :=λb l m=>a.keep b l λE=>m (W.mw i p b E);obtain⟨gs',v,l,m,F⟩:=h.worker (sl:=sl) (D':=⟨(σ.D i).s,0,orK (σ.D i).K w w',orK (σ.D i).M w w'⟩) (st':=σ.st) (sm':=σ.sm) G p B q (.inl f) ⟨a.os,a.tape,a.output⟩ a.size (λb l _ m=>c b l m)
  (W.wg.of_block (c Wg W.sp.1 (by omega))) (λe H=>.inl (k e H)) (λb o=>o) (λb o=>o) C u (by rw[xD k];exact r) (λA=>by omega) (λA=>by simp only at A;omega)
  (λI x _=>(h.m_.same (D':=⟨(σ.D i).s,0,orK (σ.D i).K w w',orK (σ.D i).M w w'⟩) p (.inl rfl)).retag x) Vb (by simp only;omega)
 exact⟨gs',w',_,v,l,m,F⟩
def iH(G:fK Wg ch base N0 shun)(h:GI P ty Wg ch z An HV Fin n base N0 shun C0 t₀ gs w t σ){i}(k:i<σ.j){g g' ρ'} (l:gs[base+i]? =some g) (b:stepG P false g w=.go g' w #[]) (a:g'.status=.running\/g'.status=.finished) (m:(σ.D i).s≠7) (o:WSit P ty Wg ch z (HV i) ⟨(σ.D i).s,(σ.D i).d,(σ.D i).K,(σ.D i).M⟩ ρ' g' w) (c:Rk.lt P ty Wg ρ' (σ.R i)):dT P ty Wg ch z An HV Fin n base N0 shun C0 t₀ t gs w sl σ (base+i):=by
 obtain⟨gs',e,p,q,u⟩:=h.gp (sl:=sl) (w':=w) (st':=σ.st) (sm':=σ.sm) G k l b a (.inl rfl) h.w_.wg (by simp) o c rfl (λ_ r v=>rn v (by simp)) (λx=>.inl x)
  (λy f _=>(h.m_.same k (.inl rfl)).retag f) Vb m
 exact⟨gs',w,_,e,p,q,u⟩
def MQ{m:Mark}(h:∀a,m≠ .read a/\m≠ .write a):(MemAct.ofEvent (mk m)).touch?=none:=by unfold Go.ConcR.mk;cases m<;>simp[MemAct.ofEvent,MemAct.touch?];exact absurd rfl (h _).1;exact absurd rfl (h _).2
def oR(G:fK Wg ch base N0 shun)(h:GI P ty Wg ch z An HV Fin n base N0 shun C0 t₀ gs w t σ){i}(k:i<σ.j){g} (u:gs[base+i]? =some g) (v:(σ.D i).s=8/\HV i=none\/(σ.D i).s=6) (c:(σ.D i).d=0) {ρ} (y:σ.R i=((σ.D i).s,ρ)) (A:SR0 P ty Wg (σ.D i).K (σ.D i).M g w):dT P ty Wg ch z An HV Fin n base N0 shun C0 t₀ t gs w sl σ (base+i):=by
 obtain⟨H,g',l,m,f⟩:=A;have o:=(h.t_.dw i k).trans c;obtain⟨gs',p,B,C,E⟩:=h.gp (sl:=sl) (w':=w) (s':=5) (d':=0) (ρ':=(5,m,ρ.2)) (st':=σ.st) (sm':=σ.sm) G k u l (.inl (cE (λ_ _ x=>x.1) f)) (.inl rfl) h.w_.wg
  (λe r=>by simp at r;subst r;exact iG λa=>by simp) (.k1 f) (by rw[y];exact bX (by omega)) (by rw[c];rfl)
  (λI=>by omega) (λ_=>.inr ⟨_,RelBy.new o _ _⟩) (λF q _=>(h.m_.same k (.inr ⟨by simp,by omega⟩)).retag q) (by rcases v with⟨a,b⟩|a<;>simp[a]<;>assumption) (by simp)
 exact⟨gs',w,_,p,B,C,E⟩
def xF(G:fK Wg ch base N0 shun)(h:GI P ty Wg ch z An HV Fin n base N0 shun C0 t₀ gs w t σ){i}(p:i<σ.j){g} (u:gs[base+i]? =some g) (v:(σ.D i).s=5) (f:(σ.D i).d=0) {ρ} (y:σ.R i=((σ.D i).s,ρ)) (A:SK1 P ty Wg (σ.D i).K (σ.D i).M g w):dT P ty Wg ch z An HV Fin n base N0 shun C0 t₀ t gs w sl σ (base+i):=by
 obtain⟨q,g',k,m,b⟩:=A;obtain⟨gs',l,B,C,E⟩:=h.gp (sl:=sl) (w':=w) (s':=4) (d':=1) (ρ':=(4,m,ρ.2)) (st':=σ.st) (sm':=σ.sm) G p u k (.inl (cE (λ_ _ x=>x.1) b)) (.inl rfl) h.w_.wg
  (λe c=>by simp at c;subst c;exact iG λa=>by simp) (.d1 b) (by rw[y];exact bX (by omega)) (by rw[f];rfl)
  (λ_ r q=>rn q λe c=>by simp at c;subst c;exact MQ λa=>by simp) (λ_=>.inl (by omega)) (λF o _=>(h.m_.same p (.inr ⟨by simp,by omega⟩)).retag o) (by simp[v]) (by simp)
 exact⟨gs',w,_,l,B,C,E⟩
def kC(a b):deafBehind 1 #[rd a,wr b]=1:=deafBehind_still (λe c=>by simp at c;rcases c with rfl|rfl<;>simp[rd,wr]) 1
def mN{es}(h:es=#[rd (stA Wg),wr (stA Wg)]\/es=#[rd (stA Wg)]\/es=#[wr (stA Wg)]):∀e∈es,∃a b,a.block=Wg/\e=(⟨.cell a,b,true⟩:Event):=by intro e c;rcases h with rfl|rfl|rfl<;>simp at c;obtain rfl|rfl:=c;exact⟨_,_,rfl,rfl⟩;exact⟨_,_,rfl,rfl⟩;subst c;exact⟨_,_,rfl,rfl⟩;subst c;exact⟨_,_,rfl,rfl⟩
def GZ(G:fK Wg ch base N0 shun)(hn:n<2147483647)(h:GI P ty Wg ch z An HV Fin n base N0 shun C0 t₀ gs w t σ){i}(p:i<σ.j){g} (Z:gs[base+i]? =some g) (hs:(σ.D i).s=4) (u:(σ.D i).d=1) {ρ} (hR:σ.R i=((σ.D i).s,ρ)) (X:SD1 P ty Wg (σ.D i).K (σ.D i).M g w):dT P ty Wg ch z An HV Fin n base N0 shun C0 t₀ t gs w sl σ (base+i):=by
 obtain⟨N,X⟩:=X;have W:=h.w_;obtain⟨hO,aa,F⟩:=h.m_.isOpen p (by omega);have ag:=GY (D:=σ.D) p (by omega);have ah:=MP σ.j σ.D;have ak:=h.g_.jn;have H:Deaf t (base+i)=0+1:=(h.t_.dw i p).trans u;have v:=mN (Wg:=Wg) (.inl rfl);have c:∀e∈#[rd (stA Wg),wr (stA Wg)],EvB Wg e:=λe I=>by obtain⟨a,b,ha,rfl⟩:=v e I;exact eU ha b
 have hwg:=W.wg;rw[aa]at hwg;have A:=λD':WD=>tV (D:=σ.D) (D':=D') p;have af:jS (σ.D i)=1:=Tv (by omega);have B:∀{g':Goroutine} {q:Nat},QuitsD P q 1 g'->g'.status=.running\/g'.status=.finished:=λf=>f.status;obtain⟨Y,ab,J⟩|⟨Y,J⟩:=F
 ·
  have e1:σ.st=(((VW σ.j σ.D+σ.mt.pend-1:Nat):Int)+1)*KK+((0:Nat):Int):=by rw[J];simp only[KK];omega
  have an:σ.mt.pend<=1:=by unfold nX.pend;split<;>(try split)<;>omega
  have ao:σ.j+σ.mt.pend<=n:=by obtain⟨a,_,hm⟩:=h.g_.mn;exact hm.bound
  rw[e1]at hwg;obtain⟨g',y,_,f⟩:=X (VW σ.j σ.D+σ.mt.pend-1) 0 (by omega) (by omega) hwg;obtain⟨q,f⟩:=f (by omega);obtain⟨gs',l,O,Q,S⟩:=h.gp (sl:=sl) (s':=0) (d':=1) (ρ':=(0,q,ρ.2)) G p Z y (B f) (.inr ⟨_,_,rfl,rfl⟩) (hwg.setSt _) c (.quit f) (by rw[hR];exact bX (by omega)) (by rw[u];exact kC _ _)
   (λ_ r N=>kW N H λe I=>by obtain⟨a,b,_,rfl⟩:=v e I;exact⟨a,b,rfl⟩) (λ_=>.inl (by omega))
   (λT o _=>by
    have ad:jS (⟨0,1,(σ.D i).K,(σ.D i).M⟩:WD)=0:=rfl;have hV:=A ⟨0,1,(σ.D i).K,(σ.D i).M⟩;refine Mode.retag (ct:=σ.ct) ?_ o;have e:(((VW σ.j σ.D+σ.mt.pend-1:Nat):Int))*KK+((0:Nat):Int)=((VW σ.j (upd σ.D i ⟨0,1,(σ.D i).K,(σ.D i).M⟩)+σ.mt.pend:Nat):Int)*KK:=by
     have:VW σ.j σ.D+σ.mt.pend-1=VW σ.j (upd σ.D i ⟨0,1,(σ.D i).K,(σ.D i).M⟩)+σ.mt.pend:=by omega
     rw[this];simp
    rw[e];refine .opn Y (λk U=>?_) λvs e=>?_
    .by_cases e:k=i
     .subst e;rw[upd_same];exact .inr rfl
     .rw[upd_ne _ _ e];exact hO k U
    .have:=ab vs e;omega) (by simp[hs]) (by simp)
  exact⟨gs',_,_,l,O,Q,S⟩
 ·
  have e1:σ.st=(((VW σ.j σ.D-1:Nat):Int)+1)*KK+((1:Nat):Int):=by rw[J];simp only[KK];omega
  rw[e1]at hwg;obtain⟨g',y,L,f⟩:=X (VW σ.j σ.D-1) 1 (by omega) (by omega) hwg;by_cases C:VW σ.j σ.D=1
  ·
   obtain⟨m,E⟩:=L ⟨by omega,rfl⟩;have hz:=QA C hO p (by omega);obtain⟨gs',l,O,Q,S⟩:=h.gp (sl:=sl) (s':=3) (d':=1) (ρ':=(3,m,ρ.2)) G p Z y (.inl (cE (λ_ _ x=>x.1) E)) (.inr ⟨_,_,rfl,rfl⟩) (hwg.setSt _) c (.d2 E) (by rw[hR];exact bX (by omega)) (by rw[u];exact kC _ _)
    (λ_ r N=>kW N H λe I=>by obtain⟨a,b,_,rfl⟩:=v e I;exact⟨a,b,rfl⟩) (λ_=>.inl (by omega))
    (λT o _=>by
     refine Mode.retag (ct:=σ.ct) ?_ o;have e:(((VW σ.j σ.D-1:Nat):Int))*KK+((1:Nat):Int)=(if(upd σ.D i ⟨3,1,(σ.D i).K,(σ.D i).M⟩ i).s=1 then 0 else 1):=by rw[upd_same,Tu (by simp),C];simp
     rw[e];refine .last i Y p (by rw[upd_same];exact .inl rfl) λk U V=>?_;rw[upd_ne _ _ V];exact hz k U V) (by simp[hs]) (by simp)
   exact⟨gs',_,_,l,O,Q,S⟩
  .obtain⟨q,f⟩:=f (by omega)
   obtain⟨gs',l,O,Q,S⟩:=h.gp (sl:=sl) (s':=0) (d':=1) (ρ':=(0,q,ρ.2)) G p Z y (B f) (.inr ⟨_,_,rfl,rfl⟩) (hwg.setSt _) c (.quit f) (by rw[hR];exact bX (by omega)) (by rw[u];exact kC _ _)
    (λ_ r N=>kW N H λe I=>by obtain⟨a,b,_,rfl⟩:=v e I;exact⟨a,b,rfl⟩) (λ_=>.inl (by omega))
    (λT o _=>by
     have ad:jS (⟨0,1,(σ.D i).K,(σ.D i).M⟩:WD)=0:=rfl;have hV:=A ⟨0,1,(σ.D i).K,(σ.D i).M⟩;refine Mode.retag (ct:=σ.ct) ?_ o;have e:(((VW σ.j σ.D-1:Nat):Int))*KK+((1:Nat):Int)=((VW σ.j (upd σ.D i ⟨0,1,(σ.D i).K,(σ.D i).M⟩):Nat):Int)*KK+1:=by
      have:VW σ.j σ.D-1=VW σ.j (upd σ.D i ⟨0,1,(σ.D i).K,(σ.D i).M⟩):=by omega
      rw[this];simp
     rw[e];refine .reg Y (λk U=>?_) (by omega);by_cases e:k=i
     .subst e;rw[upd_same];exact .inr rfl
     .rw[upd_ne _ _ e];exact hO k U) (by simp[hs]) (by simp)
   exact⟨gs',_,_,l,O,Q,S⟩
def sJ(a):deafBehind 1 #[rd a]=1:=deafBehind_still (λe b=>by simp at b;subst b;simp[rd]) 1
def Pe(a):deafBehind 1 #[wr a]=1:=deafBehind_still (λe b=>by simp at b;subst b;simp[wr]) 1
def J3(G:fK Wg ch base N0 shun)(h:GI P ty Wg ch z An HV Fin n base N0 shun C0 t₀ gs w t σ){i}(q:i<σ.j){g} (J:gs[base+i]? =some g) (H:(σ.D i).s=3) (f:(σ.D i).d=1) {ρ} (L:σ.R i=((σ.D i).s,ρ)) (u:SD2 P ty Wg (σ.D i).K (σ.D i).M g w):dT P ty Wg ch z An HV Fin n base N0 shun C0 t₀ t gs w sl σ (base+i):=by
 obtain⟨I,u⟩:=u;obtain⟨v,N,l,y⟩:=h.m_.isLast q (by omega);rw[H]at l;have hwg:=h.w_.wg;rw[l,y]at hwg;obtain⟨g',A,m,c⟩:=u hwg;have B:Deaf t (base+i)=0+1:=(h.t_.dw i q).trans f;have o:=mN (Wg:=Wg) (es:=#[rd (stA Wg)]) (.inr (.inl rfl));obtain⟨gs',C,O,Q,S⟩:=h.gp (sl:=sl) (w':=w) (s':=2) (d':=1) (ρ':=(2,m,ρ.2)) (st':=1) (sm':=0) G q J A (.inl (cE (λ_ _ x=>x.1) c)) (.inl rfl) hwg
  (λe E=>by obtain⟨a,b,T,rfl⟩:=o e E;exact eU T b) (.d3 c) (by rw[L];exact bX (by omega)) (by rw[f];exact sJ _)
  (λ_ r I=>kW I B λe E=>by obtain⟨a,b,_,rfl⟩:=o e E;exact⟨a,b,rfl⟩) (λ_=>.inl (by omega))
  (λU F _=>by
   refine Mode.retag (ct:=σ.ct) ?_ F;have:=Mode.last (j:=σ.j) (D:=upd σ.D i ⟨2,1,(σ.D i).K,(σ.D i).M⟩) (mt:=σ.mt) i v q (by rw[upd_same];exact .inr (.inl rfl)) λk V p=>by rw[upd_ne _ _ p];exact N k V p
   rw[upd_same,Tu (by simp)]at this;exact this) (by simp[H]) (by simp)
 exact⟨gs',_,_,C,O,Q,S⟩
def J4(G:fK Wg ch base N0 shun)(h:GI P ty Wg ch z An HV Fin n base N0 shun C0 t₀ gs w t σ){i}(q:i<σ.j){g} (J:gs[base+i]? =some g) (H:(σ.D i).s=2) (f:(σ.D i).d=1) {ρ} (L:σ.R i=((σ.D i).s,ρ)) (u:SD3 P ty Wg (σ.D i).K (σ.D i).M g w):dT P ty Wg ch z An HV Fin n base N0 shun C0 t₀ t gs w sl σ (base+i):=by
 obtain⟨I,u⟩:=u;obtain⟨v,N,l,y⟩:=h.m_.isLast q (by omega);rw[H]at l;have hwg:=h.w_.wg;rw[l,y]at hwg;obtain⟨g',A,m,c⟩:=u hwg;have B:Deaf t (base+i)=0+1:=(h.t_.dw i q).trans f;have o:=mN (Wg:=Wg) (es:=#[wr (stA Wg)]) (.inr (.inr rfl));obtain⟨gs',C,O,Q,S⟩:=h.gp (sl:=sl) (s':=1) (d':=1) (ρ':=(1,m,ρ.2)) (st':=0) (sm':=0) G q J A (.inl (cE (λ_ _ x=>x.1) c)) (.inr ⟨_,_,rfl,rfl⟩) (hwg.setSt _)
  (λe E=>by obtain⟨a,b,T,rfl⟩:=o e E;exact eU T b) (.d4 c) (by rw[L];exact bX (by omega)) (by rw[f];exact Pe _)
  (λ_ r I=>kW I B λe E=>by obtain⟨a,b,_,rfl⟩:=o e E;exact⟨a,b,rfl⟩) (λ_=>.inl (by omega))
  (λU F _=>by
   refine Mode.retag (ct:=σ.ct) ?_ F;have:=Mode.last (j:=σ.j) (D:=upd σ.D i ⟨1,1,(σ.D i).K,(σ.D i).M⟩) (mt:=σ.mt) i v q (by rw[upd_same];exact .inr (.inr rfl)) λk V p=>by rw[upd_ne _ _ p];exact N k V p
   rw[upd_same,Tv rfl]at this;exact this) (by simp[H]) (by simp)
 exact⟨gs',_,_,C,O,Q,S⟩
def MR(e)(b:e∈semEvents (smA Wg)):EvB Wg e:=by simp only[semEvents,Uy,TZ,Ue,Uf]at b;obtain rfl|rfl|rfl|rfl:=b;(exact iG (m:=.disable) λa=>by simp);exact eU rfl _;exact eU rfl _;exact iG (m:=.enable) λa=>by simp
def Eo(a):deafBehind 1 (semEvents a)=1:=rfl
def J5{k r fn pos}(h:RelBy (stA Wg) t k r)(b:Deaf t k=1):RelBy (stA Wg) (t++MemOp.ofEvents k fn pos (semEvents (smA Wg))) k r:=by refine h.appOwn fn pos _ λj e a=>?_;rw[b];unfold semEvents at a⊢;match j,a with|0,a=>simp at a;subst a;exact .inl rfl|1,a=>simp at a;subst a;exact .inr ⟨⟨_,_,rfl⟩,Vw 1⟩|2,a=>simp at a;subst a;exact .inr ⟨⟨_,_,rfl⟩,Vw 1⟩|3,a=>simp at a;subst a;exact .inl rfl|j+4,a=>simp at a
def J6(G:fK Wg ch base N0 shun)(h:GI P ty Wg ch z An HV Fin n base N0 shun C0 t₀ gs w t σ){i}(c:i<σ.j){g} (E:gs[base+i]? =some g) (A:(σ.D i).s=1) (a:(σ.D i).d=1) {ρ} (F:σ.R i=((σ.D i).s,ρ)) (f:SD4 P ty Wg (σ.D i).K (σ.D i).M g w):dT P ty Wg ch z An HV Fin n base N0 shun C0 t₀ t gs w sl σ (base+i):=by
 obtain⟨B,l,f⟩:=f;obtain⟨m,H,b,o⟩:=h.m_.isLast c (by omega);rw[A]at b;have hwg:=h.w_.wg;rw[b,o]at hwg;obtain⟨g',p,q,C⟩:=f hwg;have u:=(h.t_.dw i c).trans a;obtain⟨gs',v,I,J,L⟩:=h.gp (sl:=sl) (s':=0) (d':=1) (ρ':=(0,q,ρ.2)) (st':=0) (sm':=1) G c E p C.status (.inr ⟨_,_,rfl,rfl⟩) (hwg.setSm _)
  MR (.quit C) (by rw[F];exact bX (by omega)) (by rw[a];exact Eo _)
  (λ_ r B=>J5 B u) (λ_=>.inl (by omega))
  (λN x y=>by
   refine .sema ?_ (y l) λk O=>?_
   .obtain rfl|⟨_,rfl⟩:=x
    .exact m
    .trivial
   .by_cases e:k=i
    .subst e;rw[upd_same]
    .rw[upd_ne _ _ e];exact H k O e) (by simp[A]) (by simp)
 exact⟨gs',_,_,v,I,J,L⟩
def Ep(G:fK Wg ch base N0 shun)(h:GI P ty Wg ch z An HV Fin n base N0 shun C0 t₀ gs w t σ){i}(v:i<σ.j){g q c} (C:gs[base+i]? =some g) (a:g.status=.running) (y:(σ.D i).s=0) (E:σ.R i=(0,q,c)) (b:QuitsD P q (σ.D i).d g):dT P ty Wg ch z An HV Fin n base N0 shun C0 t₀ t gs w sl σ (base+i):=by
 cases q with
 |zero=>rw[b.1]at a;cases a
 |succ q=>
  obtain⟨F,_⟩|⟨_,g',es,A,k,B⟩:=b;rw[F]at a;cases a
  obtain⟨gs',l,H,I,J⟩:=h.gp (sl:=sl) (w':=w) (s':=0) (d':=deafBehind (σ.D i).d es) (ρ':=(0,q,c)) (st':=σ.st) (sm':=σ.sm) G v C (k w) B.status (.inl rfl) h.w_.wg
   (λe o=>by
    have f:=A e o;obtain⟨p,K,N⟩:=e;cases p<;>simp[Event.mute]at f;rename_i m;cases m<;>simp at f
    .exact⟨λx b=>by simp[MemAct.ofEvent,MemAct.touch?]at b,by simp,λ_ _ _=>trivial⟩
    .exact⟨λx b=>by simp[MemAct.ofEvent,MemAct.touch?]at b,by simp,λ_ _ _=>trivial⟩) (.quit B) (by rw[E];exact rp (by omega)) rfl
   (λ_ r L=>rn L λe o=>touch_mute (A e o)) (λ_=>.inl (by omega)) (λM u _=>(h.m_.same v (.inl y.symm)).retag u) (by simp[y]) (by simp)
  exact⟨gs',w,_,l,H,I,J⟩
def Er(G:fK Wg ch base N0 shun)(J:n<2147483647)(h:GI P ty Wg ch z An HV Fin n base N0 shun C0 t₀ gs w t σ){i}(o:i<σ.j){g}(p:gs[base+i]? =some g)(y:g.status=.running):dT P ty Wg ch z An HV Fin n base N0 shun C0 t₀ t gs w sl σ (base+i)\/∃v c,HV i=some v/\(σ.D i).s=8/\(σ.D i).d=0/\σ.R i=(8,0,c)/\ML P ty Wg ch z v (σ.D i).K (σ.D i).M g w:=by
 obtain⟨g0,C,F⟩:=h.g_.wk i o;rw[p]at C;cases C;generalize e:σ.D i=D at F;generalize q:σ.R i=R at F;cases F with
 |run E=>obtain b|⟨_,g',w',es,H,f,r,A,u,B⟩:=E.qv;unfold SWk at b;(cases I:HV i with|none=>rw[I]at b;refine .inl (oR G h o p (.inl ⟨by rw[e],I⟩) (by rw[e]) (ρ:=(0,_)) (by rw[e,q]) (by rw[e];exact b))|some v=>rw[I]at b;exact .inr ⟨v,_,rfl,rfl,rfl,rfl,b⟩);exact .inl (xE G h o p f (u.status Ch) (.inl (by rw[e])) (by rw[e]) (by rw[e];exact r) (by rw[e];exact A) (ρ':=(8,0,H)) (by rw[e];exact .run u) (by rw[q];exact fw B))
 |blk _ E=>cases y
 |r0 E=>refine .inl ?_;obtain b|⟨_,g',w',es,H,f,r,A,u,B⟩:=E.qv;exact oR G h o p (.inr (by rw[e])) (by rw[e]) (ρ:=(0,_)) (by rw[e,q]) (by rw[e];exact b);exact xE G h o p f (u.status λ_ _ _ _ x=>x.1) (.inr (by rw[e])) (by rw[e]) (by rw[e];exact r) (by rw[e];exact A) (ρ':=(6,0,H)) (by rw[e];exact .r0 u) (by rw[q];exact fw B)
 | @k1 K M g w c m f=>refine .inl ?_;have a:SK1 P ty Wg K M g w->dT P ty Wg ch z An HV Fin n base N0 shun C0 t₀ t gs w sl σ (base+i):=λk=>xF G h o p (by rw[e]) (by rw[e]) (ρ:=(m,c)) (by rw[e,q]) (by rw[e];exact k);cases m with|zero=>exact a (f w (.refl w))|succ m=>obtain k|⟨_,k⟩:=f;exact a (k w (.refl w));have:=k w (.refl w);cases b:stepG P false g w with|go g' w' es=>rw[b,goes_go]at this;obtain⟨⟨rfl,rfl⟩,l⟩:=this;exact iH G h o p b (.inl (cE (λ_ _ x=>x.1) l)) (by rw[e];simp) (ρ':=(5,m,c)) (by rw[e];exact .k1 l) (by rw[q];exact rp (by omega))|_=>rw[b]at this;exact this.elim
 | @d1 K M g w c m f=>refine .inl ?_;have a:SD1 P ty Wg K M g w->dT P ty Wg ch z An HV Fin n base N0 shun C0 t₀ t gs w sl σ (base+i):=λk=>GZ G J h o p (by rw[e]) (by rw[e]) (ρ:=(m,c)) (by rw[e,q]) (by rw[e];exact k);cases m with|zero=>exact a (f w (.refl w))|succ m=>obtain k|⟨_,k⟩:=f;exact a (k w (.refl w));have:=k w (.refl w);cases b:stepG P false g w with|go g' w' es=>rw[b,goes_go]at this;obtain⟨⟨rfl,rfl⟩,l⟩:=this;exact iH G h o p b (.inl (cE (λ_ _ x=>x.1) l)) (by rw[e];simp) (ρ':=(4,m,c)) (by rw[e];exact .d1 l) (by rw[q];exact rp (by omega))|_=>rw[b]at this;exact this.elim
 | @d2 K M g w c m f=>refine .inl ?_;have a:SD2 P ty Wg K M g w->dT P ty Wg ch z An HV Fin n base N0 shun C0 t₀ t gs w sl σ (base+i):=λk=>J3 G h o p (by rw[e]) (by rw[e]) (ρ:=(m,c)) (by rw[e,q]) (by rw[e];exact k);cases m with|zero=>exact a (f w (.refl w))|succ m=>obtain k|⟨_,k⟩:=f;exact a (k w (.refl w));have:=k w (.refl w);cases b:stepG P false g w with|go g' w' es=>rw[b,goes_go]at this;obtain⟨⟨rfl,rfl⟩,l⟩:=this;exact iH G h o p b (.inl (cE (λ_ _ x=>x.1) l)) (by rw[e];simp) (ρ':=(3,m,c)) (by rw[e];exact .d2 l) (by rw[q];exact rp (by omega))|_=>rw[b]at this;exact this.elim
 | @d3 K M g w c m f=>refine .inl ?_;have a:SD3 P ty Wg K M g w->dT P ty Wg ch z An HV Fin n base N0 shun C0 t₀ t gs w sl σ (base+i):=λk=>J4 G h o p (by rw[e]) (by rw[e]) (ρ:=(m,c)) (by rw[e,q]) (by rw[e];exact k);cases m with|zero=>exact a (f w (.refl w))|succ m=>obtain k|⟨_,k⟩:=f;exact a (k w (.refl w));have:=k w (.refl w);cases b:stepG P false g w with|go g' w' es=>rw[b,goes_go]at this;obtain⟨⟨rfl,rfl⟩,l⟩:=this;exact iH G h o p b (.inl (cE (λ_ _ x=>x.1) l)) (by rw[e];simp) (ρ':=(2,m,c)) (by rw[e];exact .d3 l) (by rw[q];exact rp (by omega))|_=>rw[b]at this;exact this.elim
 | @d4 K M g w c m f=>refine .inl ?_;have a:SD4 P ty Wg K M g w->dT P ty Wg ch z An HV Fin n base N0 shun C0 t₀ t gs w sl σ (base+i):=λk=>J6 G h o p (by rw[e]) (by rw[e]) (ρ:=(m,c)) (by rw[e,q]) (by rw[e];exact k);cases m with|zero=>exact a (f w (.refl w))|succ m=>obtain k|⟨_,k⟩:=f;exact a (k w (.refl w));have:=k w (.refl w);cases b:stepG P false g w with|go g' w' es=>rw[b,goes_go]at this;obtain⟨⟨rfl,rfl⟩,l⟩:=this;exact iH G h o p b (.inl (cE (λ_ _ x=>x.1) l)) (by rw[e];simp) (ρ':=(1,m,c)) (by rw[e];exact .d4 l) (by rw[q];exact rp (by omega))|_=>rw[b]at this;exact this.elim
 |quit L=>exact .inl (Ep G h o p y (by rw[e]) q (by rw[e];exact L))
end
end Go.Tm

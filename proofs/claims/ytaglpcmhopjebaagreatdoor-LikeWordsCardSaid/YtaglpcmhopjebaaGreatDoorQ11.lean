import Derived.Test.YtaglpcmhopjebaaGreatDoorQ10
set_option linter.all false
set_option maxRecDepth 100000
set_option maxHeartbeats 20000000
namespace Go.Tm
open Go.Conc Go.ConcN Go.Conc.Lib
open Go.ConcR (KK WgAt stA smA rd wr mk DC0)
structure mY(ty:TypeId)(Wg:Nat)(K:Nat->Prop)(Fx:World->Prop):Prop where
 rely:∀w w₁,RK ty Wg K w w₁->Fx w->Fx w₁
 set:∀w a v,a.block=Wg->Fx w->Fx (w.setCell a v)
def wT{ty Wg K b o}(e:K b)(f:b≠Wg):mY ty Wg K (λw=>w.heap[b]? =some o):=⟨λw d h c=>(h.keep b e).trans c,λw a v i c=>by rw[dL w a v b (by rw[i];exact f)];exact c⟩
def mY.and{ty Wg K F G}(h:mY ty Wg K F)(c:mY ty Wg K G):mY ty Wg K (λw=>F w/\G w):=⟨λw b r x=>⟨h.rely w b r x.1,c.rely w b r x.2⟩,λw a v d x=>⟨h.set w a v d x.1,c.set w a v d x.2⟩⟩
def mY.all{ty Wg K}{d:Type}{F:d->World->Prop}(h:∀a,mY ty Wg K (F a)):mY ty Wg K (λw=>∀a,F a w):=⟨λw c r x a=>(h a).rely w c r (x a),λw a v e x b=>(h b).set w a v e (x b)⟩
def mY.const{ty Wg K}(p):mY ty Wg K (λ_=>p):=⟨λ_ _ _ x=>x,λ_ _ _ _ x=>x⟩
section
variable {P:Program} {mn:Bool} {ty:TypeId} {Wg ch:Nat} {z:Value} {K M:Nat->Prop} {Fn:Goroutine->World->Prop} {Fx:World->Prop}
def dE(fx:mY ty Wg K Fx){e}{S:aJ}{g w}(h:∃m,Goes P mn (RL ty Wg) DC0 e m g w)(d:Fx w)(f:∀g w,e g w->Fx w->S K M g w):Run P mn ty Wg S K M g w:=by
 obtain⟨m,h⟩:=h;induction m generalizing g w with
 |zero=>exact .stop λa b=>f _ _ (h a b.rl) (fx.rely w a b d)
 |succ m i=>
  obtain h|⟨j,h⟩:=h
  ·exact .stop λa b=>f _ _ (h a b.rl) (fx.rely w a b d)
  ·refine .jK j λa b=>?_
   have:=h a b.rl;cases c:stepG P mn g a with
   |go g' w' es=>rw[c,goes_go]at this;obtain⟨⟨rfl,rfl⟩,k⟩:=this;refine⟨g',w',#[],rfl,Eff.refl _ _,by simp,?_⟩;rw[bY rfl,bY rfl];exact i (fx.rely w w' b d) k
   |_=>rw[c]at this;exact this.elim
def wU(fx:mY ty Wg K Fx){c S g w}(h:∃m,Goes P mn (RL ty Wg) DC0 c m g w)(f:Fx w)(i:∀g w,c g w->Fx w->Run P mn ty Wg S K M g w):Run P mn ty Wg S K M g w:=by refine(dE (K:=K) (M:=M) (S:=λd e g w=>d=K/\e=M/\c g w/\Fx w) fx h f λg w a b=>⟨rfl,rfl,a,b⟩).bind ?_;rintro d e g w ⟨rfl,rfl,a,b⟩;exact i g w a b
section closer
variable (fx:mY ty Wg K Fx) (hF:∀g w,Fn g w->Fx w->Run P false ty Wg (SCl P ch) K M g w)
include fx hF
def QU(g:Goroutine)(w:World)(h:QL P false ty Wg Fn g w)(c:Fx w):NR P ty Wg ch K M g w:=⟨h.1,let⟨g',a,b⟩:=h.2;⟨g',a,wU fx b c hF⟩⟩
def QV(g:Goroutine)(w:World)(h:XWe P false ty Wg Fn g w)(c:Fx w):SWe P ty Wg ch K M g w:=⟨h.1,let⟨g',a,b⟩:=h.2;⟨g',a,dE fx b c (QU fx hF)⟩⟩
def RE(g:Goroutine)(w:World)(h:XW4 P false ty Wg Fn g w)(c:Fx w):SW4 P ty Wg ch K M g w:=⟨h.1,λx=>let⟨g',a,b⟩:=h.2 x;⟨g',a,dE fx b c (QV fx hF)⟩⟩
def RF(g:Goroutine)(w:World)(h:XW3 P false ty Wg Fn g w)(c:Fx w):SW3 P ty Wg ch K M g w:=⟨h.1,h.2.1,h.2.2.1,λx=>let⟨g',a,b⟩:=h.2.2.2 x;⟨g',a,dE fx b (fx.set _ _ _ rfl c) (RE fx hF)⟩⟩
def RG(g:Goroutine)(w:World)(h:XSw P false ty Wg Fn g w)(c:Fx w):SSw P ty Wg ch K M g w:=⟨h.1,let⟨g',a,b⟩:=h.2;⟨g',a,dE fx b c (RF fx hF)⟩⟩
def AnF(K M:Nat->Prop)(Fx:World->Prop)(Anch:Goroutine->World->Prop):aJ:=λa b g w=>a=K/\b=M/\Anch g w/\Fx w
variable {Anch:Goroutine->World->Prop}
def RH(f:Nat)(g:Goroutine)(w:World)(h:XW2 P false ty Wg Fn Anch f g w)(i:Fx w):SW2 P ty Wg ch (AnF K M Fx Anch) f K M g w:=
 ⟨h.1,λv j k=>let⟨a,b⟩:=h.2 v j k
  ⟨λe=>let⟨g',c,d⟩:=a e;⟨g',c,dE fx d (fx.set _ _ _ rfl i) (RG fx hF)⟩,λe=>let⟨g',c,d⟩:=b e;⟨g',c,dE fx d i λg w x y=>⟨rfl,rfl,x,y⟩⟩⟩⟩
def RI(g:Goroutine)(w:World)(h:XW1 P false ty Wg Fn Anch g w)(d:Fx w):SW1 P ty Wg ch (AnF K M Fx Anch) K M g w:=⟨h.1,λv f i=>let⟨g',a,b,c⟩:=h.2 v f i;⟨g',a,λe=>dE fx (b e) d (QV fx hF),λe=>dE fx (c e) d (RH fx hF v)⟩⟩
def LM(c:∀g w,Anch g w->∃m,Goes P false (RL ty Wg) DC0 (XW1 P false ty Wg Fn Anch) m g w)(a b:Nat->Prop)(g:Goroutine)(w:World)(h:AnF K M Fx Anch a b g w):Run P false ty Wg (SW1 P ty Wg ch (AnF K M Fx Anch)) a b g w:=by obtain⟨rfl,rfl,h,d⟩:=h;exact dE fx (c g w h) d (RI fx hF)
def RJ(c:∀g w,Anch g w->∃m,Goes P false (RL ty Wg) DC0 (XW1 P false ty Wg Fn Anch) m g w)(g:Goroutine)(w:World)(h:XWd P false ty Wg Anch g w)(d:Fx w):SWd P ty Wg ch (AnF K M Fx Anch) K M g w:=⟨h.1,let⟨g',a,b⟩:=h.2;⟨g',a,wU fx b d λg w x y=>LM fx hF c K M g w ⟨rfl,rfl,x,y⟩⟩⟩
end closer
section uO
variable {HV:Nat->Option Value} {n r:Nat} {Nx:aJ} (fx:mY ty Wg K Fx) (hF:∀g w,Fn g w->Fx w->Run P true ty Wg (SGo P ty Wg ch z HV n r Nx) K M g w)
include fx hF
def QW(g:Goroutine)(w:World)(h:XKe P true ty Wg Fn g w)(c:Fx w):SKe P ty Wg ch z HV n r Nx K M g w:=⟨h.1,let⟨g',a,b⟩:=h.2;⟨g',a,wU fx b c hF⟩⟩
def RM(g:Goroutine)(w:World)(h:XSr P true ty Wg Fn g w)(c:Fx w):SSr P ty Wg ch z HV n r Nx K M g w:=⟨h.1,let⟨g',a,b⟩:=h.2;⟨g',a,dE fx b c (QW fx hF)⟩⟩
def RN(g:Goroutine)(w:World)(h:XA1 P true ty Wg Fn g w)(c:Fx w):SA1 P ty Wg ch z HV n r Nx K M g w:=⟨h.1,λv d e=>let⟨g',a,b⟩:=h.2 v d e;⟨g',a,b.elim (λb=>.inl (dE fx b (fx.set _ _ _ rfl c) (RM fx hF))) λb=>.inr (dE fx b (fx.set _ _ _ rfl c) (QW fx hF))⟩⟩
def RP(g:Goroutine)(w:World)(h:XKd P true ty Wg Fn g w)(c:Fx w):SKd P ty Wg ch z HV n r Nx K M g w:=⟨h.1,let⟨g',a,b⟩:=h.2;⟨g',a,dE fx b c (RN fx hF)⟩⟩
end uO
end
end Go.Tm
namespace Go.Tm
open Go.Conc Go.ConcN Go.Conc.Lib
open Go.ConcR (KK WgAt stA smA rd wr mk DC0 Bk)
section
variable {P:Program} {ty:TypeId} {Wg ch:Nat} {z:Value} {An:aJ} {HV:Nat->Option Value} {Fin:List Value->aJ} {n:Nat} {hv:Option Value}
def AV(K M g w)(h:SWk P ty Wg ch z hv K M g w):g.status=.running:=by unfold SWk at h;split at h<;>exact h.1
def zd(r a K M g w)(h:nZ P ty Wg ch z HV Fin n r a K M g w):g.status=.running:=by cases r<;>exact h.1
def bZ{mn K D}{a:Goroutine->World->Prop}(b:∀g w,a g w->g.status=.running){m g w}(h:Goes P mn (RK ty Wg K) D a m g w):g.status=.running:=Goes.running b w (.refl w) h
def mm{mn K D c m g w w₁}(h:Goes P mn (RK ty Wg K) D c m g w)(r:RK ty Wg K w w₁):Goes P mn (RK ty Wg K) D c m g w₁:=Goes.rely (R:=RK ty Wg K) (λ_ _ _ a b=>a.trans b) h r
def WSit.status{D ρ g w}(h:WSit P ty Wg ch z hv D ρ g w):(D.s≠7/\(g.status=.running\/g.status=.finished))\/(D.s=7/\∃a v,g=parked a #[scase ch v undef] .send):=by
 cases h with
 |run h=>exact .inl ⟨by simp,.inl (h.status AV)⟩
 |blk _ h=>exact .inr ⟨rfl,_,_,rfl⟩
 |r0 h=>exact .inl ⟨by simp,.inl (h.status λ_ _ _ _ x=>x.1)⟩
 |k1 h=>exact .inl ⟨by simp,.inl (bZ (λ_ _ x=>x.1) h)⟩
 |d1 h=>exact .inl ⟨by simp,.inl (bZ (λ_ _ x=>x.1) h)⟩
 |d2 h=>exact .inl ⟨by simp,.inl (bZ (λ_ _ x=>x.1) h)⟩
 |d3 h=>exact .inl ⟨by simp,.inl (bZ (λ_ _ x=>x.1) h)⟩
 |d4 h=>exact .inl ⟨by simp,.inl (bZ (λ_ _ x=>x.1) h)⟩
 |quit h=>exact .inl ⟨by simp,h.status⟩
def WSit.busy{D ρ g w}(h:WSit P ty Wg ch z hv D ρ g w)(a:D.s≠7)(b:D.s≠0):g.status=.running:=by
 cases h with
 |run h=>exact h.status AV
 |blk _ h=>exact absurd rfl a
 |r0 h=>exact h.status λ_ _ _ _ x=>x.1
 |k1 h=>exact bZ (λ_ _ x=>x.1) h
 |d1 h=>exact bZ (λ_ _ x=>x.1) h
 |d2 h=>exact bZ (λ_ _ x=>x.1) h
 |d3 h=>exact bZ (λ_ _ x=>x.1) h
 |d4 h=>exact bZ (λ_ _ x=>x.1) h
 |quit h=>exact absurd rfl b
def WSit.rely{D ρ g w w'}(h:WSit P ty Wg ch z hv D ρ g w)(r:RK ty Wg D.K w w'):WSit P ty Wg ch z hv D ρ g w':=by
 cases h with
 |run h=>exact .run (h.rely r)
 |blk e h=>exact .blk e (h.rely r)
 |r0 h=>exact .r0 (h.rely r)
 |k1 h=>exact .k1 (mm h r)
 |d1 h=>exact .d1 (mm h r)
 |d2 h=>exact .d2 (mm h r)
 |d3 h=>exact .d3 (mm h r)
 |d4 h=>exact .d4 (mm h r)
 |quit h=>exact .quit h
def WSit.woken{D ρ g w}(h:WSit P ty Wg ch z hv D ρ g w)(a c)(w':World)(b:D.s=7->∃s r d,w'.heap[ch]? =some (.chan 0 #[] false s r d)):woken P a c w' g=g:=by
 obtain⟨_,h⟩|⟨e,f,v,rfl⟩:=h.status
 ·unfold Go.Conc.woken
  split
  ·exact again_running _ h
  ·rfl
 ·obtain⟨s,r,d,b⟩:=b e
  exact woken_send_open a c b
def fj.status{mt j d K M ρ g w}(h:fj P ty Wg ch z An HV Fin n mt j d K M ρ g w):
 (g.status=.running/\∀r a,mt≠ .rb r a)\/∃r a b,mt=.rb r a/\g=parked b #[rcase ch z] (.recv true):=by
 cases h with
 |kd _ h=>exact .inl ⟨h.status λ_ _ _ _ x=>x.1,by simp⟩
 |a1 _ h=>exact .inl ⟨h.status λ_ _ _ _ x=>x.1,by simp⟩
 |sr _ h=>exact .inl ⟨h.status λ_ _ _ _ x=>x.1,by simp⟩
 |ke _ h=>exact .inl ⟨h.status λ_ _ _ _ x=>x.1,by simp⟩
 |go _ h=>exact .inl ⟨h.status λ_ _ _ _ x=>x.1,by simp⟩
 |gc h=>exact .inl ⟨h.status λ_ _ _ _ x=>x.1,by simp⟩
 |rc _ h=>exact .inl ⟨h.status (zd _ _),by simp⟩
 |rb _ h=>exact .inr ⟨_,_,_,rfl,rfl⟩
 |rw _ h=>exact .inl ⟨rfl,by simp⟩
def fj.rely{mt j d K M ρ g w w'}(h:fj P ty Wg ch z An HV Fin n mt j d K M ρ g w)(r:RK ty Wg K w w'):fj P ty Wg ch z An HV Fin n mt j d K M ρ g w':=by
 cases h with
 |kd a h=>exact .kd a (h.rely r)
 |a1 a h=>exact .a1 a (h.rely r)
 |sr a h=>exact .sr a (h.rely r)
 |ke a h=>exact .ke a (h.rely r)
 |go a h=>exact .go a (h.rely r)
 |gc h=>exact .gc (h.rely r)
 |rc a h=>exact .rc a (h.rely r)
 |rb a h=>exact .rb a λb c=>h b (r.trans c)
 |rw a h=>exact .rw a λb c=>h b (r.trans c)
def fj.woken{mt j d K M ρ g w}(h:fj P ty Wg ch z An HV Fin n mt j d K M ρ g w)(a c)(w':World)(b:∃s r e,w'.heap[ch]? =some (.chan 0 #[] false s r e)):woken P a c w' g=g:=by
 obtain⟨h,_⟩|⟨_,_,_,_,rfl⟩:=h.status
 ·unfold Go.Conc.woken
  split
  ·exact again_running _ (.inl h)
  ·rfl
 ·obtain⟨s,r,e,b⟩:=b
  exact woken_recv_open a c b
def CSit.rely{v ct d K M ρ g w w'}(h:CSit P ty Wg ch An v ct d K M ρ g w)(r:RK ty Wg K w w'):CSit P ty Wg ch An v ct d K M ρ g w':=by
 cases h with
 |wd h=>exact .wd (h.rely r)
 |w1 h=>exact .w1 (h.rely r)
 |w2 h=>exact .w2 (h.rely r)
 |sw h=>exact .sw (h.rely r)
 |w3 h=>exact .w3 (h.rely r)
 |blk h=>exact .blk λa b=>h a (r.trans b)
 |w4 h=>exact .w4 (h.rely r)
 |we h=>exact .we (h.rely r)
 |acq h=>exact .acq (h.rely r)
 |cl h=>exact .cl (h.rely r)
 |quit h=>exact .quit h
def CSit.Pe{v ct d K M ρ g w}(h:CSit P ty Wg ch An v ct d K M ρ g w)(a):∃ρ',CSit P ty Wg ch An a ct d K M ρ' g w:=by
 cases h with
 |wd h=>exact⟨_,.wd h⟩
 |w1 h=>exact⟨_,.w1 h⟩
 |w2 h=>exact⟨_,.w2 h⟩
 |sw h=>exact⟨_,.sw h⟩
 |w3 h=>exact⟨_,.w3 h⟩
 | @blk K M g w c h=>exact⟨(_,0,c),.blk h⟩
 |w4 h=>exact⟨_,.w4 h⟩
 |we h=>exact⟨_,.we h⟩
 |acq h=>exact⟨_,.acq h⟩
 |cl h=>exact⟨_,.cl h⟩
 | @quit K M g w c q d h=>exact⟨(_,q,c),.quit h⟩
def CSit.status{v ct d K M ρ g w}(h:CSit P ty Wg ch An v ct d K M ρ g w):
 (ct≠ .blk/\(g.status=.running\/g.status=.finished))\/(ct=.blk/\g.status=.blocked/\g.offers=none):=by
 cases h with
 |wd h=>exact .inl ⟨by simp,.inl (h.status λ_ _ _ _ x=>x.1)⟩
 |w1 h=>exact .inl ⟨by simp,.inl (h.status λ_ _ _ _ x=>x.1)⟩
 |w2 h=>exact .inl ⟨by simp,.inl (h.status λ_ _ _ _ x=>x.1)⟩
 |sw h=>exact .inl ⟨by simp,.inl (h.status λ_ _ _ _ x=>x.1)⟩
 |w3 h=>exact .inl ⟨by simp,.inl (h.status λ_ _ _ _ x=>x.1)⟩
 | @blk K M g w c h=>exact .inr ⟨rfl,rfl,(h w (.refl w)).2.1⟩
 |w4 h=>exact .inl ⟨by simp,.inl (h.status λ_ _ _ _ x=>x.1)⟩
 |we h=>exact .inl ⟨by simp,.inl (h.status λ_ _ _ _ x=>x.1)⟩
 |acq h=>exact .inl ⟨by simp,.inl (h.status λ_ _ _ _ x=>x.1)⟩
 |cl h=>exact .inl ⟨by simp,.inl (h.status λ_ _ _ _ x=>x.1)⟩
 |quit h=>exact .inl ⟨by simp,h.status⟩
def CSit.busy{v ct d K M ρ g w}(h:CSit P ty Wg ch An v ct d K M ρ g w)(a:ct≠ .blk)(b:ct≠ .quit):g.status=.running:=by
 cases h with
 |wd h=>exact h.status λ_ _ _ _ x=>x.1
 |w1 h=>exact h.status λ_ _ _ _ x=>x.1
 |w2 h=>exact h.status λ_ _ _ _ x=>x.1
 |sw h=>exact h.status λ_ _ _ _ x=>x.1
 |w3 h=>exact h.status λ_ _ _ _ x=>x.1
 |blk h=>exact absurd rfl a
 |w4 h=>exact h.status λ_ _ _ _ x=>x.1
 |we h=>exact h.status λ_ _ _ _ x=>x.1
 |acq h=>exact h.status λ_ _ _ _ x=>x.1
 |cl h=>exact h.status λ_ _ _ _ x=>x.1
 |quit h=>exact absurd rfl b
def CSit.woken{v ct d K M ρ g w}(h:CSit P ty Wg ch An v ct d K M ρ g w)(a f w')(j:f.status=.running\/f.status=.finished):
 ∃b ρ',CSit P ty Wg ch An v b d K M ρ' (woken P a f w' g) w/\(b=ct\/(ct=.blk/\b=.w3))/\(mayWake P a=true->b≠ .blk):=by
 obtain⟨k,o⟩|⟨rfl,o,s⟩:=h.status
 ·refine⟨ct,ρ,?_,.inl rfl,λ_=>k⟩
  have:Go.Conc.woken P a f w' g=g:=by
   unfold Go.Conc.woken;split
   ·exact again_running _ o
   ·rfl
  rw[this];exact h
 ·cases h with
  | @blk _ _ g w c l=>
   by_cases m:mayWake P a=true
   ·have e:Go.Conc.woken P a f w' {g with status:=.blocked}=g:=by
     have p:=(l w (.refl w))
     unfold Go.Conc.woken;rw[RZ (by rcases j with j|j<;>rw[m,j]<;>rfl)];have i:=p.2.1;obtain⟨gf,gc,q,t,go⟩:=g;simp only at i;subst i;have:q=.running:=p.1;subst this;rfl
    rw[e];obtain⟨x,r⟩:=cj.of (P:=P) (mn:=false) (Run.stop l);exact⟨.w3,_,.w3 r,.inr ⟨rfl,rfl⟩,λ_=>by simp⟩
   ·have e:Go.Conc.woken P a f w' {g with status:=.blocked}={g with status:=.blocked}:=by unfold Go.Conc.woken;rw[RY (by simp[m])]
    rw[e];exact⟨.blk,(jD v .blk,0,c),.blk l,.inl rfl,λh=>absurd h m⟩
end
section
def gP(own:Nat->Nat)(x:Nat)(w w':World)(b:Nat):Nat:=if w.heap.size<=b/\b<w'.heap.size then x else own b
def rA{own x w w' b}(h:b<w.heap.size):gP own x w w' b=own b:=by unfold gP;rw[RY (by omega)]
def jo{own x w w' b}(h:F3 w w' b):gP own x w w' b=x:=by unfold gP;exact RZ h
def EvB(Wg:Nat)(e:Event):Prop:=(∀x,(MemAct.ofEvent e).touch?=some x->blk x.loc=some Wg/\x.kind=.atomic)/\(∀a,e.loc≠ .mark (.release a))/\∀B,Wg<B->(MemAct.ofEvent e).touch?=none->(MemAct.ofEvent e).low B
def Pf(Wg:Nat):Mark->Prop
 | .acquire a| .releaseMerge a=>a.block=Wg
 |_=>True
def ig{Wg:Nat}{m:Mark}(h:∀a,m≠ .release a/\m≠ .read a/\m≠ .write a)(b:Pf Wg m:=by first|exact trivial|exact rfl):EvB Wg (mk m):=by
 refine⟨λx c=>?_,λa e=>(h a).1 (Loc.mark.inj e),λB d f=>?_⟩;rotate_left
 ·unfold Go.ConcR.mk
  cases m with
  |acquire a=>show a.block<B;have:a.block=Wg:=b;omega
  |releaseMerge a=>show a.block<B;have:a.block=Wg:=b;omega
  |release a=>exact absurd rfl (h a).1
  |read a=>exact absurd rfl (h a).2.1
  |write a=>exact absurd rfl (h a).2.2
  |_=>trivial
 unfold Go.ConcR.mk at c;cases m<;>simp[MemAct.ofEvent,MemAct.touch?]at c
 ·exact absurd rfl (h _).2.1
 ·exact absurd rfl (h _).2.2
def eI{Wg a}(d:a.block=Wg)(b):EvB Wg ⟨.cell a,b,true⟩:=by refine⟨λx c=>?_,by simp,λB _ e=>by simp[MemAct.ofEvent,MemAct.touch?]at e⟩;simp[MemAct.ofEvent,MemAct.touch?]at c;subst c;exact⟨by simp[blk,d],rfl⟩
section
variable {P:Program} {ty:TypeId} {Wg ch:Nat} {z:Value} {An:aJ} {HV:Nat->Option Value} {Fin:List Value->aJ} {n base N0:Nat} {shun:Nat->Prop} {W₀:World} {t₀ t:Trace}
def F4{w w':World}{own low:Nat->Nat}{K M:Nat->Prop}{i}(B:0<base)(m:low (base+i)≠0)
 (o:∀b,K b->b<w.heap.size/\¬spB Wg ch b/\¬shun b/\(own b=base+i\/(own b=0/\b<low (base+i)))) (p:∀b,M b->own b=base+i)
 (q:Wg<w.heap.size/\ch<w.heap.size) (r:∀b,shun b->b<w.heap.size) {es} (s:∀e∈es,EvK Wg (orK K w w') (orK M w w') e\/EvB Wg e) (fn) (pos):
 ∀k∈MemOp.ofEvents (base+i) fn pos es,∀x,k.act.touch?=some x->Okx shun (spB Wg ch) (base+n) (gP own (base+i) w w') low (base+i) x:=by
 intro k f x l;obtain⟨e,g,rfl⟩:=Go.Conc.mem_ofEvents f;refine⟨.inr m,?_⟩;obtain h|h:=s e g
 ·obtain⟨b,j,h⟩:=h.1 x l
  refine⟨b,j,?_⟩;obtain⟨c,h2,h3⟩|⟨rfl,h2⟩:=h
  ·obtain h2|h2:=h2
   ·obtain⟨k1,u,v,d⟩:=o b h2
    have a:gP own (base+i) w w' b=own b:=rA k1;obtain d|⟨d,y⟩:=d
    ·exact .inl ⟨a.trans d,by omega,c⟩
    ·refine .inr (.inl ⟨a.trans d,u,v,c,.inr ⟨by omega,?_,y⟩⟩)
     cases A:x.write with
     |false=>rfl
     |true=>
      obtain h3|h3:=h3 A
      ·have:=p b h3;omega
      ·exact absurd h3.1 (by omega)
   ·exact .inl ⟨jo h2,by omega,c⟩
  ·exact .inr (.inr ⟨.inl rfl,.inl h2⟩)
 ·obtain⟨c,h2⟩:=h.1 x l
  exact⟨Wg,c,.inr (.inr ⟨.inl rfl,.inl h2⟩)⟩
def Hj{c:MemAct}{B}(d:∀x,c.touch?=some x->∀b,blk x.loc=some b->b<B)(f:c.touch?=none->c.low B):c.low B:=by
 cases c with
 |access e=>have:=d _ rfl;show e.loc.low B;cases g:e.loc<;>first|trivial|exact this _ (by simp[blk,g])
 |mark m=>
  cases m with
  |read a=>exact d _ rfl _ rfl
  |write a=>exact d _ rfl _ rfl
  |_=>exact f rfl
 |_=>exact f rfl
def wv{es g fn pos B}(f:∀a∈MemOp.ofEvents g fn pos es,∀x,a.act.touch?=some x->∀b,blk x.loc=some b->b<B)(h:∀e∈es,(MemAct.ofEvent e).touch?=none->(MemAct.ofEvent e).low B):
 ∀a∈MemOp.ofEvents g fn pos es,a.act.low B:=by
 intro a c;refine Hj (f a c) λi=>?_;obtain⟨e,d,rfl⟩:=Go.Conc.mem_ofEvents c;exact h e d i
def kZ{w w':World}(h:∀a∈t,a.act.low w.heap.size)(c:w.heap.size<=w'.heap.size){u:Trace}(d:∀a∈u,a.act.low w'.heap.size):∀a∈t++u,a.act.low w'.heap.size:=by
 intro a b;obtain h1|h1:=Tf.1 b
 ·exact MemAct.low_mono c (h a h1)
 ·exact d a h1
def LA{K M es}(b:∀e∈es,EvK Wg K M e\/EvB Wg e)(g fn pos):∀c∈MemOp.ofEvents g fn pos es,c.act≠ .mark (.release (stA Wg)):=by
 refine norel_of λe a=>?_;obtain h|h:=b e a
 ·exact h.2.2.2.1 _
 ·exact h.2.1 _
def I9{w w':World}{K M:Nat->Prop}(o:∀b,K b->b<w.heap.size)(p:w.heap.size<=w'.heap.size)(q:Wg<w.heap.size){es}(i:∀e∈es,EvK Wg (orK K w w') M e\/EvB Wg e)(g fn pos):
 ∀j∈MemOp.ofEvents g fn pos es,j.act.low w'.heap.size:=by
 refine wv (λj d x k b l=>?_) λe a m=>?_
 ·obtain⟨e,a,rfl⟩:=Go.Conc.mem_ofEvents d
  obtain h|h:=i e a
  ·obtain⟨r,c,h⟩:=h.1 x k
   rw[l]at c;cases c;obtain⟨_,f|f,_⟩|⟨rfl,_⟩:=h
   ·exact R6 (o b f) p
   ·exact f.2
   ·omega
  ·have:=(h.1 x k).1
   rw[l]at this;cases this;omega
 ·obtain h|h:=i e a
  ·exact h.2.2.2.2 _ m
  ·exact h.2.2 _ (by omega) m
def mu(σ:GSt P ty Wg):List (Rk P ty Wg)×Rk P ty Wg×Nat×Rk P ty Wg:=((List.range n).map σ.R,σ.r0,sumTo base σ.q,σ.rc)
def Dn(P ty Wg):List (Rk P ty Wg)×Rk P ty Wg×Nat×Rk P ty Wg->List (Rk P ty Wg)×Rk P ty Wg×Nat×Rk P ty Wg->Prop:=Prod.Lex (iv (Rk.lt P ty Wg)) (Prod.Lex (Rk.lt P ty Wg) (Prod.Lex (· < ·) (Rk.lt P ty Wg)))
def NS(P ty Wg):WellFounded (Dn P ty Wg):=(Prod.lex ⟨_,iv.wf (Rk.wf P ty Wg)⟩ (Prod.lex ⟨_,Rk.wf P ty Wg⟩ (Prod.lex Nat.lt_wfRel ⟨_,Rk.wf P ty Wg⟩))).wf
def NT{b}(f i)(x:b)(c:i<n):(List.range n).map (upd f i x)=((List.range n).map f).set i x:=by
 apply List.ext_getElem?;intro k;rw[List.getElem?_set];by_cases h:i=k
 ·subst h
  simp[c,upd_same]
 ·rw[RY h]
  by_cases a:k<n
  ·simp[a,upd_ne f x (Sn h)]
  ·simp[a]
def jq{σ a i ρ}(b:i<n)(c:a.R=upd σ.R i ρ)(h:Rk.lt P ty Wg ρ (σ.R i)):Dn P ty Wg (mu (n:=n) (base:=base) a) (mu (n:=n) (base:=base) σ):=by refine Prod.Lex.left _ _ ?_;rw[c,NT _ _ _ b];exact iv.set (by simp[b]) h
end
end
section
variable {P:Program} {ty:TypeId} {Wg ch:Nat} {z:Value} {An:aJ} {HV:Nat->Option Value} {Fin:List Value->aJ} {n base N0:Nat} {shun:Nat->Prop} {W₀:World} {t₀ t:Trace} {gs:Array Goroutine} {w w':World} {sl:Option (Nat×Nat)} {σ:GSt P ty Wg}
structure fo(Wg ch base N0:Nat)(shun:Nat->Prop):Prop where
 lg:0<base
 LB:∀b,shun b->b<N0
 wg_:N0<=Wg
 ch_:N0<=ch
 ne_:Wg≠ch
def bK(gs:Array Goroutine)(f x k)(g':Goroutine)(h:k≠x):((gs.map f).setIfInBounds x g')[k]? =(gs[k]?).map f:=by rw[Si (Sn h),SG]
def eW(gs:Array Goroutine)(f x)(g':Goroutine)(h:x<gs.size):((gs.map f).setIfInBounds x g')[x]? =some g':=by rw[S6];simp[h]
def ze{D':Nat->WD}{D:Nat->WD}{j}(h:∀i,i<j->((D' i).s<=6/\HV i≠none↔(D i).s<=6/\HV i≠none)){mt:nw}
 (c:∃l:List Nat,l.Nodup/\(∀i,i∈l↔i<j/\(D i).s<=6/\HV i≠none)/\mt.got=l.filterMap HV):∃l:List Nat,l.Nodup/\(∀i,i∈l↔i<j/\(D' i).s<=6/\HV i≠none)/\mt.got=l.filterMap HV:=by
 obtain⟨l,d,e,f⟩:=c;refine⟨l,d,λi=>?_,f⟩;rw[e i];constructor
 ·rintro⟨a,b⟩;exact⟨a,(h i a).2 b⟩
 ·rintro⟨a,b⟩;exact⟨a,(h i a).1 b⟩
def fp{ct}(h:ct≠some .quit):eH ct=false:=by
 cases ct with
 |none=>rfl
 |some c=>cases c<;>first|rfl|exact absurd rfl h
def dM{a k r g}{u:Trace}(h:RelBy a t k r)(b:∀c∈u,c.g=g)(d:g≠k):RelBy a (t++u) k r:=RelBy.appOther h b d
def kB{u}(h:AcqAll Wg n base t)(e:∀i r,i<n->RelBy (stA Wg) t (base+i) r->RelBy (stA Wg) (t++u) (base+i) r):AcqAll Wg n base (t++u):=by obtain⟨q,c,f,g,j⟩:=h;have a:=lt_of_act? c;exact⟨q,by rw[act?_old a];exact c,by rw[g?_old a];exact f,(heard_old a).2 g,λi d=>let⟨r,k,b⟩:=j i d;⟨r,e i r d k,b⟩⟩
def kC{u}(h:AU Wg ch n base t)(k:∀i r,i<n->RelBy (stA Wg) t (base+i) r->RelBy (stA Wg) (t++u) (base+i) r)(l:∀i,t.size<=i->(t++u).g? i=some (base+n)->¬(t++u).counts i):AU Wg ch n base (t++u):=by
 obtain⟨q,p,f,m,o,s,v,g,x,y,A⟩:=h;have c:=lt_of_act? f;have d:=lt_of_act? g;refine⟨q,p,by rw[act?_old c];exact f,by rw[g?_old c];exact m,(heard_old c).2 o,λi b=>let⟨r,B,e⟩:=s i b;⟨r,k i r b B,e⟩,v,by rw[act?_old d];exact g,by rw[g?_old d];exact x,(heard_old d).2 y,λi b j=>?_⟩;obtain a|hge:=R5 i t.size
 ·rw[counts_old a]
  exact A i b (by rw[<-g?_old (u:=u) a];exact j)
 ·exact l i hge j
def iK{u:Trace}{g k}(e:∀b∈u,b.g=g)(c:g≠k):∀i,t.size<=i->(t++u).g? i=some k->¬(t++u).counts i:=by
 intro i l f;obtain⟨b,h,a⟩:=SH.1 f;obtain⟨j,_⟩|⟨_,d⟩:=getElem?_append_cases h
 ·omega
 ·rw[e b d]at a;exact absurd a c
def GI.worker(G:fo Wg ch base N0 shun)(h:GI P ty Wg ch z An HV Fin n base N0 shun W₀ t₀ gs w t σ){i}(S:i<σ.j){g g' es D' ρ' st' sm'}
 (hg:gs[base+i]? =some g) (bs:stepG P false g w=.go g' w' es) (ad:g'.status=.running\/g'.status=.finished)
 (af:w'.os=w.os/\w'.tape=w.tape/\w'.output=w.output) (x:w.heap.size<=w'.heap.size)
 (I:∀b,b<w.heap.size->b≠Wg->σ.own b≠base+i->w'.heap[b]? =w.heap[b]?) (hwg:WgAt ty Wg w' st' sm')
 (ag:∀e∈es,EvK Wg (orK (σ.D i).K w w') (orK (σ.D i).M w w') e\/EvB Wg e)
 (hK:∀b,D'.K b->orK (σ.D i).K w w' b) (hM:∀b,D'.M b->orK (σ.D i).M w w' b)
 (hS:WSit P ty Wg ch z (HV i) D' ρ' g' w') (bx:Rk.lt P ty Wg ρ' (σ.R i)) (hd:deafBehind (σ.D i).d es=D'.d)
 (a6:(σ.D i).s<=5->∀r,RelBy (stA Wg) t (base+i) r->RelBy (stA Wg) (t++MemOp.ofEvents (base+i) g.frame.fn g.frame.place es) (base+i) r)
 (a7:D'.s<=5->(σ.D i).s<=5\/∃r,RelBy (stA Wg) (t++MemOp.ofEvents (base+i) g.frame.fn g.frame.place es) (base+i) r)
 (ak:∀p,(p=σ.ct\/(σ.ct=some .blk/\p=some .w3))->(mayWake P g=true->p≠some .blk)->Mode σ.j (upd σ.D i D') σ.mt p st' sm')
 (an:D'.s<=6/\HV i≠none↔(σ.D i).s<=6/\HV i≠none) (h7:D'.s≠7):
 ∃gs' o,runT P (crowd gs w sl) (base+i)=(.next (crowd gs' w' sl),MemOp.ofEvents (base+i) g.frame.fn g.frame.place es)/\GI P ty Wg ch z An HV Fin n base N0 shun W₀ t₀ gs' w' (t++MemOp.ofEvents (base+i) g.frame.fn g.frame.place es) o/\Dn P ty Wg (mu (n:=n) (base:=base) o) (mu (n:=n) (base:=base) σ):=by
 have hb:=G.lg;have W:=h.w_;have T:=h.t_;have Q:=h.g_;have bA:=R6 S Q.jn;have a8:=(R7.1 hg).1;have bB:(base+i==0)=false:=by simp;omega
 have ao:=runT_crowd_go (P:=P) (sl:=sl) (i:=base+i) hg (by rw[bB];exact bs);have v:∀op∈MemOp.ofEvents (base+i) g.frame.fn g.frame.place es,op.g=base+i:=λop ar=>by obtain⟨e,_,rfl⟩:=Go.Conc.mem_ofEvents ar;rfl
 have ba:=T.tr.uE Wg (.inl rfl);have ab:=T.tr.uE ch (.inr rfl);have L:=I ch W.sp.2 (Sn G.ne_) (by rw[ab];omega);have ax:WgLive ty Wg w':=⟨_,_,hwg⟩
 have U:∀K:Nat->Prop,(∀b,K b->b<w.heap.size/\b≠Wg/\σ.own b≠base+i)->RK ty Wg K w w':=λK ay=>⟨λb f=>I b (ay b f).1 (ay b f).2.1 (ay b f).2.2,λ_=>ax,x⟩
 have N:∀b,shun b->b<w.heap.size:=λb f=>R6 (G.LB b f) W.fO;have bb:=W.Dl i S;obtain⟨p,V,O,bC,b0⟩:∃p V,(p=σ.ct\/(σ.ct=some .blk/\p=some .w3))/\(mayWake P g=true->p≠some .blk)/\
  ∀c,p=some c->∃gc,((gs.map (woken P g g' w')).setIfInBounds (base+i) g')[base+n]? =some gc/\CSit P ty Wg ch An (VW σ.j (upd σ.D i D')) c σ.dc σ.Kc σ.Mc V gc w':=by
  cases y:σ.ct with
  |none=>exact⟨none,σ.rc,.inl rfl,λ_=>by simp,λc e=>by cases e⟩
  |some c=>
   obtain⟨gc,b1,b2⟩:=Q.cl c y;have b3:σ.ct≠none:=by rw[y];simp
   have hr:=U _ λb f=>by obtain⟨a1,C,H,B⟩:=W.kc b3 b f;refine⟨a1,λe=>C (.inl e),?_⟩;rcases B with B|B<;>omega
   obtain⟨c',ca,J,h2,h3⟩:=(b2.rely hr).woken g g' w' ad;obtain⟨b4,h4⟩:=J.Pe (VW σ.j (upd σ.D i D'));refine⟨some c',b4,?_,λe=>by simpa using h3 e,λc2 e=>?_⟩
   ·obtain rfl|⟨rfl,rfl⟩:=h2
    ·exact .inl rfl
    ·exact .inr ⟨rfl,rfl⟩
   ·cases e
    refine⟨_,?_,h4⟩;rw[bK _ _ _ _ _ (by omega),b1];rfl
 have A:p=none↔σ.ct=none:=by
  obtain rfl|⟨a,rfl⟩:=O
  ·rfl
  ·simp[a]
 have X:p=some .quit↔σ.ct=some .quit:=by
  obtain rfl|⟨a,rfl⟩:=O
  ·rfl
  ·simp[a]
 have bk:p=some .cl↔σ.ct=some .cl:=by
  obtain rfl|⟨a,rfl⟩:=O
  ·rfl
  ·simp[a]
 have b5:eH p=eH σ.ct:=by
  obtain rfl|⟨a,rfl⟩:=O
  ·rfl
  ·rw[a];rfl
 have Y:∀m r,m<n->RelBy (stA Wg) t (base+m) r->(m=i->(σ.D i).s<=5)->RelBy (stA Wg) (t++MemOp.ofEvents (base+i) g.frame.fn g.frame.place es) (base+m) r:=λm r _ hr E=>by
  by_cases e:m=i
  ·subst e;exact a6 (E rfl) r hr
  ·exact dM hr v (by omega)
 have l:∀b,b<w.heap.size->gP σ.own (base+i) w w' b=σ.own b:=λb f=>rA f;have wu:(σ.ct=some .cl\/σ.ct=some .quit)->(σ.D i).s<=5:=by intro y;rw[h.m_.wu (by rcases y with y|y<;>rw[y]<;>trivial) i S];omega
 let o:GSt P ty Wg:={σ with D:=upd σ.D i D',R:=upd σ.R i ρ',ct:=p,rc:=V,own:=gP σ.own (base+i) w w',st:=st',sm:=sm'}
 refine⟨_,o,ao,⟨?_,?_,?_,ak p O bC,?_⟩,jq bA rfl bx⟩
 ·refine⟨af.1.trans W.os,af.2.1.trans W.tape,af.2.2.trans W.output,R3 W.fO x,λb f=>?_,?_,hwg,⟨R6 W.sp.1 x,R6 W.sp.2 x⟩,?_,?_,?_,?_,?_,?_,?_,?_,?_,?_,λk=>R3 (W.AT k) x⟩
  ·rw[I b (R6 f W.fO) (by have:=G.wg_;omega) (λe=>by have:=(W.owns b (by omega)).1;omega)]
   exact W.old b f
  ·obtain⟨s,E⟩:=W.chn
   exact⟨s,by rw[L,E];show _=some (Obj.chan 0 #[] (eH p) s s false);rw[b5]⟩
  ·intro m q b f
   by_cases e:m=i
   ·subst e
    simp only[o,upd_same]at f;obtain hb2|hb2:=hK b f
    ·obtain⟨a1,C,H,B⟩:=W.kw _ S b hb2
     refine⟨R6 a1 x,C,H,?_⟩;show gP σ.own (base+m) w w' b=base+m\/(gP σ.own (base+m) w w' b=0/\b<σ.low (base+m))
     rw[l b a1];exact B
    ·refine⟨hb2.2,λe=>?_,λe=>absurd (N b e) (Ti.2 hb2.1),.inl (jo hb2)⟩
     obtain e|e:=e
     ·have:=W.sp.1;have:=hb2.1;omega
     ·have:=W.sp.2;have:=hb2.1;omega
   ·have hb2:(σ.D m).K b:=by simpa[o,upd_ne σ.D D' e]using f
    obtain⟨a1,C,H,B⟩:=W.kw m q b hb2;refine⟨R6 a1 x,C,H,?_⟩;show gP σ.own (base+i) w w' b=base+m\/(gP σ.own (base+i) w w' b=0/\b<σ.low (base+m))
    rw[l b a1];exact B
  ·intro m q b f
   by_cases e:m=i
   ·subst e
    simp only[o,upd_same]at f;obtain hb2|hb2:=hM b f
    ·have:=W.mw _ S b hb2
     have F:=(W.owns b (by omega)).2.2.1;show gP σ.own (base+m) w w' b=base+m;rw[l b F];exact this
    ·exact jo hb2
   ·have hb2:(σ.D m).M b:=by simpa[o,upd_ne σ.D D' e]using f
    have:=W.mw m q b hb2;have F:=(W.owns b (by omega)).2.2.1;show gP σ.own (base+i) w w' b=base+m;rw[l b F];exact this
  ·intro b f
   obtain⟨a1,C,H,B⟩:=W.k0 b f;exact⟨R6 a1 x,C,H,(l b a1).trans B⟩
  ·intro b f
   obtain⟨a1,C,H,B,a5⟩:=W.m0 b f;exact⟨R6 a1 x,C,H,(l b a1).trans B,a5⟩
  ·intro y b f
   obtain⟨a1,C,H,B⟩:=W.kc (λe=>y (A.2 e)) b f;refine⟨R6 a1 x,C,H,?_⟩;show gP σ.own (base+i) w w' b=base+n\/(gP σ.own (base+i) w w' b=0/\b<σ.low (base+n))
   rw[l b a1];exact B
  ·intro y b f
   have:=W.mc (λe=>y (A.2 e)) b f;have F:=(W.owns b (by omega)).2.2.1;exact(l b F).trans this
  ·intro b f
   by_cases hn:F3 w w' b
   ·have e:o.own b=base+i:=jo hn
    refine⟨R3 W.fO hn.1,by rw[e];omega,hn.2,λe=>?_⟩;obtain e|e:=e
    ·have:=W.sp.1;have:=hn.1;omega
    ·have:=W.sp.2;have:=hn.1;omega
   ·have e:o.own b=σ.own b:=by show gP σ.own (base+i) w w' b=_;unfold gP;exact RY hn
    rw[e]at f⊢;obtain⟨a1,C,H,B⟩:=W.owns b f;exact⟨a1,C,R6 H x,B⟩
  ·exact W.Dl
  ·exact W.Dm.trans (not_congr A.symm)
  ·exact W.AS
 ·refine⟨?_,?_,?_,iX T.gb λop ar=>by rw[v op ar];have:=Q.jn;omega,?_,?_,?_,?_,?_,?_,?_,?_⟩
  ·obtain⟨u,rfl⟩:=T.pre
   exact⟨_,Tq ..⟩
  ·have ht:=T.tr.owned (own':=gP σ.own (base+i) w w') T.tb l (λb f=>by
    obtain rfl|rfl:=f
    ·rw[l _ W.sp.1];exact ba
    ·rw[l _ W.sp.2];exact ab)
   exact ht.app v (λe=>absurd e (by omega)) (F4 hb bb (λb f=>by obtain⟨a1,C,H,B⟩:=W.kw i S b f;exact⟨a1,C,H,B⟩) (W.mw i S) W.sp N ag _ _)
  ·exact kZ T.seen x (I9 (λb f=>(W.kw i S b f).1) x W.sp.1 ag _ _ _)
  ·exact T.norel.app (LA ag _ _ _)
  ·exact(Deaf_other t (by omega) _ v).trans T.d0
  ·intro m q
   by_cases e:m=i
   ·subst e
    simp only[o,upd_same];rw[Deaf_own,T.dw _ S];exact hd
   ·simp only[o,upd_ne σ.D D' e]
    exact(Deaf_other t (by omega) _ v).trans (T.dw m q)
  ·intro y
   exact(Deaf_other t (by omega) _ v).trans (T.dc λe=>y (A.2 e))
  ·intro k hk J h2
   exact(Deaf_other t (g:=k) (g':=base+i) (λe=>J i S e.symm) _ v).trans (T.above k hk J λe=>h2 λe'=>e (A.1 e'))
  ·intro m q E
   by_cases e:m=i
   ·subst e
    simp only[o,upd_same]at E;obtain bm|hr:=a7 E
    ·obtain⟨r,hr⟩:=T.rel _ S bm
     exact⟨r,a6 bm r hr⟩
    ·exact hr
   ·simp only[o,upd_ne σ.D D' e]at E
    obtain⟨r,hr⟩:=T.rel m q E;exact⟨r,dM hr v (by omega)⟩
  ·intro y
   have Z:=bk.1 y;exact kB (T.acq Z) λm r q hr=>Y m r q hr λ_=>wu (.inl Z)
  ·intro y
   have Z:=X.1 y;exact kC (T.cls Z) (λm r q hr=>Y m r q hr λ_=>wu (.inr Z)) (iK v (by omega))
 ·have aa:σ.ct≠some .quit->∃s r tm,w'.heap[ch]? =some (.chan 0 #[] false s r tm):=by intro y;obtain⟨s,E⟩:=W.chn;rw[fp y]at E;exact⟨s,s,false,L.trans E⟩
  refine⟨?_,Q.jn,λy=>Q.cn λe=>y (A.2 e),?_,A.trans Q.mc,?_,?_,b0,?_,?_,?_⟩
  ·have:(if p.isSome then 1 else 0)=(if σ.ct.isSome then 1 else 0):=by
    obtain rfl|⟨a,rfl⟩:=O
    ·rfl
    ·rw[a];rfl
   simp only[SF,TL];rw[this];exact Q.size
  ·obtain⟨a,ha,aM⟩:=Q.mn
   refine⟨woken P g g' w' a,by rw[bK _ _ _ _ _ (by omega),ha];rfl,?_⟩;have hr:=U _ λb f=>by obtain⟨a1,C,H,B⟩:=W.k0 b f;exact⟨a1,λe=>C (.inl e),by omega⟩
   have e:woken P g g' w' a=a:=by
    obtain⟨J,_⟩|⟨r,E,g2,J,_⟩:=aM.status
    ·unfold Go.Conc.woken
     split
     ·exact again_running _ (.inl J)
     ·rfl
    ·exact aM.woken g g' w' (aa (Q.mb ⟨r,E,J⟩).1)
   rw[e];exact aM.rely hr
  ·intro m q
   by_cases e:m=i
   ·subst e
    refine⟨g',eW _ _ _ _ a8,?_⟩;simp only[o,upd_same];exact hS
   ·obtain⟨gw,b6,bo⟩:=Q.wk m q
    refine⟨woken P g g' w' gw,by rw[bK _ _ _ _ _ (by omega),b6];rfl,?_⟩;have hr:=U _ λb f=>by obtain⟨a1,C,H,B⟩:=W.kw m q b f;refine⟨a1,λe=>C (.inl e),?_⟩;rcases B with B|B<;>omega
    have e':=bo.woken g g' w' λbr=>aa λy=>by rw[h.m_.wu (by rw[y];trivial) m q]at br;cases br
    simp only[o,upd_ne σ.D D' e,upd_ne σ.R ρ' e];rw[e'];exact bo.rely hr
  ·intro m J h2
   simp only[o,upd_ne σ.R ρ' (show m≠i fromλe=>by subst e;exact absurd S (Ti.2 J))];exact Q.unb m J h2
  ·intro k gk J h2 hk
   rw[bK _ _ _ _ _ (by omega)]at hk;obtain⟨b7,b8,rfl⟩:=SH.1 hk;have hq:=Q.lv k b7 J h2 b8;rw[woken_quitsD hq,Deaf_other t (by omega) _ v];exact hq
  ·rintro⟨r,E,e⟩
   obtain⟨J,h2⟩:=Q.mb ⟨r,E,e⟩;refine⟨λe'=>J (X.1 e'),λm q=>?_⟩;by_cases e':m=i
   ·subst e'
    simp only[o,upd_same];exact h7
   ·simp only[o,upd_ne σ.D D' e'];exact h2 m q
  ·intro r E e
   exact X.2 (Q.mq r E e)
 ·exact ze (λm q=>by
   by_cases e:m=i
   ·subst e;simp only[o,upd_same];exact an
   ·simp only[o,upd_ne σ.D D' e]) h.v_
end
section
variable {j:Nat} {D:Nat->WD} {D':WD} {mt:nw} {ct ct':Option CTag} {st sm:Int} {i:Nat}
def sU(a:i<j):VW j (upd D i D')+jC (D i)=VW j D+jC D':=sumTo_upd D D' jC a
def Mode.same(r:i<j)(h:Mode j D mt ct st sm)(g:D'.s=(D i).s\/(4<=D'.s/\4<=(D i).s)):Mode j (upd D i D') mt ct st sm:=by
 have x:jC D'=jC (D i):=by
  unfold jC;obtain e|⟨a,b⟩:=g
  ·rw[e]
  ·rw[RZ a,RZ b]
 have m:VW j (upd D i D')=VW j D:=by have:=sU (D':=D') r (D:=D);omega
 have o:tT j D->tT j (upd D i D'):=by
  intro h k f;by_cases e:k=i
  ·subst e
   rw[upd_same];obtain e|⟨a,_⟩:=g
   ·rw[e];exact h k f
   ·exact .inl a
  ·rw[upd_ne D D' e];exact h k f
 have p:Dk j D->Dk j (upd D i D'):=by
  intro h k f;by_cases e:k=i
  ·subst e
   rw[upd_same];obtain e|⟨_,b⟩:=g
   ·rw[e];exact h k f
   ·rw[h k f]at b;omega
  ·rw[upd_ne D D' e];exact h k f
 cases h with
 |opn a b c=>rw[<-m];exact .opn a (o b) (by rw[m];exact c)
 |reg a b c=>rw[<-m];exact .reg a (o b) (by rw[m];exact c)
 |last L a b c d=>
  have e:(upd D i D' L).s=(D L).s:=by
   by_cases e:L=i
   ·subst e
    rw[upd_same];obtain e|⟨_,b⟩:=g
    ·exact e
    ·rcases c with c|c|c<;>rw[c]at b<;>omega
   ·rw[upd_ne D D' e]
  rw[<-e];refine .last L a b (by rw[e];exact c) λk f l=>?_;by_cases q:k=i
  ·subst q
   rw[upd_same];have:=d k f l;obtain u|⟨_,v⟩:=g
   ·rw[u];exact this
   ·rw[this]at v;omega
  ·rw[upd_ne D D' q];exact d k f l
 |sema a b c=>exact .sema a b (p c)
 |fin a b=>exact .fin a (p b)
def Mode.retag(h:Mode j D mt ct st sm)(e:ct'=ct\/(ct=some .blk/\ct'=some .w3)):Mode j D mt ct' st sm:=by
 obtain rfl|⟨rfl,rfl⟩:=e
 ·exact h
 ·cases h with
  |opn a=>exact a.elim
  |reg a b c=>exact .reg trivial b c
  |last L a b c d=>exact .last L trivial b c d
  |sema a b c=>exact .sema trivial (by simp) c
  |fin a=>exact a.elim
def Mode.isLast(h:Mode j D mt ct st sm)(f:i<j)(g:(D i).s=3\/(D i).s=2\/(D i).s=1):CTag.reg ct/\(∀k,k<j->k≠i->(D k).s=0)/\st=(if(D i).s=1 then 0 else 1)/\sm=0:=by
 cases h with
 |opn a b=>rcases b i f with x|x<;>omega
 |reg a b=>rcases b i f with x|x<;>omega
 |last L a b c d=>
  by_cases e:i=L
  ·subst e;exact⟨a,d,rfl,rfl⟩
  ·have:=d i f e;omega
 |sema a b c=>have:=c i f;omega
 |fin a b=>have:=b i f;omega
def F5(a:i<j)(b:4<=(D i).s):1<=VW j D:=by have:=le_sumTo (f:=λi=>jC (D i)) a;have e:jC (D i)=1:=RZ b;unfold VW;omega
def LC(j D):VW j D<=j:=by
 have:=sumTo_le (f:=λi=>jC (D i)) (c:=1) (j:=j) λi _=>by unfold jC;split<;>omega
 unfold VW;omega
def Pg(h:VW j D=1)(c:tT j D)(d:i<j)(f:4<=(D i).s):∀k,k<j->k≠i->(D k).s=0:=by
 intro k b a;obtain g|h0:=c k b
 ·exfalso
  have l:jC (⟨0,0,λ_=>False,λ_=>False⟩:WD)=0:=rfl;have m:=sU (D':=⟨0,0,λ_=>False,λ_=>False⟩) d (D:=D);have e:jC (D i)=1:=RZ f;have o:=F5 (D:=upd D i ⟨0,0,λ_=>False,λ_=>False⟩) b (by rw[upd_ne _ _ a];exact g);omega
 ·exact h0
def Mode.isOpen(h:Mode j D mt ct st sm)(f:i<j)(k:4<=(D i).s):tT j D/\sm=0/\((CTag.opn ct/\(∀g,ct=some (.w2 g)->VW j D<=g/\1<=g)/\st=((VW j D+mt.pend:Nat):Int)*KK)\/(CTag.reg ct/\st=((VW j D:Nat):Int)*KK+1)):=by
 cases h with
 |opn a b c=>exact⟨b,rfl,.inl ⟨a,c,rfl⟩⟩
 |reg a b c=>exact⟨b,rfl,.inr ⟨a,rfl⟩⟩
 |last L a b c d=>
  by_cases e:i=L
  ·subst e;omega
  ·have:=d i f e;omega
 |sema a b c=>have:=c i f;omega
 |fin a b=>have:=b i f;omega
end
section
variable {P:Program} {ty:TypeId} {Wg ch:Nat} {z:Value} {An:aJ} {HV:Nat->Option Value} {Fin:List Value->aJ} {n base N0:Nat} {shun:Nat->Prop} {W₀:World} {t₀ t:Trace} {gs:Array Goroutine} {w w':World} {sl:Option (Nat×Nat)} {σ:GSt P ty Wg}
def qj{k r fn pos es}(h:RelBy (stA Wg) t k r)(a:∀e∈es,(MemAct.ofEvent e).touch?=none):RelBy (stA Wg) (t++MemOp.ofEvents k fn pos es) k r:=h.appOwn fn pos es λj e b=>.inl (a e (Td b))
def kD{k r d fn pos es}(h:RelBy (stA Wg) t k r)(g:Deaf t k=d+1)(f:∀e∈es,∃a b,e=(⟨.cell a,b,true⟩:Event)):RelBy (stA Wg) (t++MemOp.ofEvents k fn pos es) k r:=by
 refine h.appOwn fn pos es λj e m=>.inr ⟨?_,?_⟩
 ·obtain⟨a,b,rfl⟩:=f e (Td m)
  exact⟨a,b,rfl⟩
 ·have:deafBehind (Deaf t k) (es.extract 0 j)=Deaf t k:=by
   refine deafBehind_still (λx o=>?_) _;obtain⟨a,b,rfl⟩:=f x (by
    obtain⟨l,c⟩:=UF.1 o;rw[Ve]at c;split at c
    ·exact Td c
    ·cases c)
   simp
  rw[this,g];omega
def wH{K M es}(h:∀e∈es,EvK Wg K M e)(d):deafBehind d es=d:=deafBehind_still (λe a=>⟨(h e a).2.1,(h e a).2.2.1⟩) d
def lN(a v)(c:a.block=Wg):(w.setCell a v).os=w.os/\(w.setCell a v).tape=w.tape/\(w.setCell a v).output=w.output/\(w.setCell a v).heap.size=w.heap.size/\∀b,b≠Wg->(w.setCell a v).heap[b]? =w.heap[b]? :=⟨rfl,rfl,rfl,by simp[World.setCell],λb d=>dL w a v b (by rw[c];exact d)⟩
def GI.fP(G:fo Wg ch base N0 shun)(h:GI P ty Wg ch z An HV Fin n base N0 shun W₀ t₀ gs w t σ){i}(A:i<σ.j){g g' es s' d' ρ' st' sm'}
 (B:gs[base+i]? =some g) (q:stepG P false g w=.go g' w' es) (c:g'.status=.running\/g'.status=.finished)
 (C:w'=w\/∃a v,a.block=Wg/\w'=w.setCell a v) (hwg:WgAt ty Wg w' st' sm')
 (u:∀e∈es,EvB Wg e) (E:WSit P ty Wg ch z (HV i) ⟨s',d',(σ.D i).K,(σ.D i).M⟩ ρ' g' w') (x:Rk.lt P ty Wg ρ' (σ.R i)) (F:deafBehind (σ.D i).d es=d')
 (y:(σ.D i).s<=5->∀r,RelBy (stA Wg) t (base+i) r->RelBy (stA Wg) (t++MemOp.ofEvents (base+i) g.frame.fn g.frame.place es) (base+i) r)
 (l:s'<=5->(σ.D i).s<=5\/∃r,RelBy (stA Wg) (t++MemOp.ofEvents (base+i) g.frame.fn g.frame.place es) (base+i) r)
 (f:∀ct',(ct'=σ.ct\/(σ.ct=some .blk/\ct'=some .w3))->(mayWake P g=true->ct'≠some .blk)->Mode σ.j (upd σ.D i ⟨s',d',(σ.D i).K,(σ.D i).M⟩) σ.mt ct' st' sm')
 (k:s'<=6/\HV i≠none↔(σ.D i).s<=6/\HV i≠none) (H:s'≠7):
 ∃gs' m,runT P (crowd gs w sl) (base+i)=(.next (crowd gs' w' sl),MemOp.ofEvents (base+i) g.frame.fn g.frame.place es)/\GI P ty Wg ch z An HV Fin n base N0 shun W₀ t₀ gs' w' (t++MemOp.ofEvents (base+i) g.frame.fn g.frame.place es) m/\Dn P ty Wg (mu (n:=n) (base:=base) m) (mu (n:=n) (base:=base) σ):=by
 have o:w'.os=w.os/\w'.tape=w.tape/\w'.output=w.output/\w'.heap.size=w.heap.size/\∀b,b≠Wg->w'.heap[b]? =w.heap[b]? :=by
  obtain rfl|⟨a,v,I,rfl⟩:=C
  ·exact⟨rfl,rfl,rfl,rfl,λ_ _=>rfl⟩
  ·exact lN a v I
 exact h.worker (D':=⟨s',d',(σ.D i).K,(σ.D i).M⟩) G A B q c ⟨o.1,o.2.1,o.2.2.1⟩ (TM o.2.2.2.1.symm) (λb _ p _=>o.2.2.2.2 b p) hwg (λe J=>.inr (u e J)) (λb p=>.inl p) (λb p=>.inl p) E x F y l f k H
end
end Go.Tm

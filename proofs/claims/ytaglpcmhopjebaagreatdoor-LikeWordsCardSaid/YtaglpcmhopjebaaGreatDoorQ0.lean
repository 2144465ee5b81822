import GoSem.Step
import Derived.RunT
set_option linter.all false
set_option maxRecDepth 100000
set_option maxHeartbeats 20000000
theorem Go.ex{α:Sort _}(e:α):∃x,x=e:=⟨_,rfl⟩
def Go.RY:=@if_neg
def Go.RZ:=@if_pos
def Go.R2:=@Nat.le_refl
def Go.R3:=@Nat.le_trans
def Go.R4:=@List.length_cons
def Go.R5:=@Nat.lt_or_ge
def Go.R6:=@Nat.lt_of_lt_of_le
def Go.R7:=@Array.getElem?_eq_some_iff
def Go.R8:=@decide_eq_false
def Go.R9:=@Nat.zero_le
def Go.Sd:=@decide_eq_true
def Go.Se:=@Nat.zero_add
def Go.Sf:=@Bool.and_eq_true
def Go.Sg:=@List.getElem_mem
def Go.Si:=@Array.getElem?_setIfInBounds_ne
def Go.Sj:=@if_true
def Go.Sk:=@List.length_drop
def Go.Sl:=@List.length_nil
def Go.Sm:=@Nat.not_lt_zero
def Go.Sn:=@Ne.symm
def Go.Sp:=@if_false
def Go.Sq:=@decide_eq_true_eq
def Go.Sr:=@List.length_append
def Go.Ss:=@Bool.false_eq_true
def Go.Su:=@List.size_toArray
def Go.Sv:=@Array.getElem?_eq_getElem
def Go.Sw:=@beq_eq_false_iff_ne
def Go.SD:=@Option.some.inj
def Go.SE:=@List.mem_cons
def Go.SF:=@Array.size_setIfInBounds
def Go.SG:=@Array.getElem?_map
def Go.SH:=@Option.map_eq_some_iff
def Go.SI:=@List.take_zero
def Go.SJ:=@List.drop_eq_nil_of_le
def Go.SK:=@List.getElem?_eq_getElem
def Go.SL:=@congrArg
def Go.SM:=@List.all_eq_true
def Go.SN:=@List.take_succ_cons
def Go.SO:=@of_decide_eq_true
def Go.SP:=@List.drop_zero
def Go.SQ:=@Option.map_some
def Go.SS:=@List.not_mem_nil
def Go.SU:=@or_false
def Go.SV:=@Option.some.injEq
def Go.SY:=@Array.getElem?_push_size
def Go.SZ:=@List.drop_succ_cons
def Go.S6:=@Array.getElem?_setIfInBounds
def Go.S8:=@List.eq_nil_of_length_eq_zero
def Go.S9:=@beq_iff_eq
def Go.Ta:=@Array.getElem?_push
def Go.Tb:=@Array.getElem?_modify
def Go.Tc:=@Array.getD_eq_getD_getElem?
def Go.Td:=@Array.mem_of_getElem?
def Go.Te:=@Nat.eq_zero_or_pos
def Go.Tf:=@Array.mem_append
def Go.Tg:=@Array.getElem?_toList
def Go.Th:=@List.length_map
def Go.Ti:=@Nat.not_lt
def Go.Tj:=@List.any_eq_true
def Go.Tk:=@List.length_filter_le
def Go.Tl:=@Nat.lt_succ_self
def Go.Tn:=@Nat.mul_one
def Go.To:=@List.mem_toArray
def Go.Tp:=@List.length_take
def Go.Tq:=@Array.append_assoc
def Go.Tr:=@Nat.add_zero
def Go.Ts:=@List.mem_of_getElem?
def Go.Tt:=@Classical.byContradiction
def Go.Tu:=@Bool.eq_iff_iff
def Go.Tv:=@List.length_pos_iff
def Go.Tw:=@List.append_assoc
def Go.Tx:=@List.append_nil
def Go.Ty:=@List.mem_iff_getElem?
def Go.Tz:=@List.filter_cons
def Go.TA:=@Array.empty_append
def Go.TB:=@List.isPrefixOf_iff_prefix
def Go.TC:=@List.getElem?_eq_some_iff
def Go.TD:=@Bool.not_true
def Go.TE:=@Option.bind_eq_some_iff
def Go.TF:=@Array.getElem?_eq_none
def Go.TG:=@List.mem_map
def Go.TH:=@List.length_eq_zero_iff
def Go.TJ:=@Array.forIn_toList
def Go.TK:=@List.getElem?_map
def Go.TL:=@Array.size_map
def Go.TM:=@Nat.le_of_eq
def Go.TN:=@List.contains_iff_mem
def Go.TO:=@List.mem_iff_getElem
def Go.TP:=@Bool.or_eq_true
def Go.TQ:=@bne_iff_ne
def Go.TR:=@List.flatMap_cons
def Go.TS:=@List.mem_append
def Go.TU:=@ByteArray.size_extract
def Go.TW:=@List.mem_singleton
def Go.TX:=@Eq.comm
def Go.TY:=@dif_pos
def Go.TZ:=@Option.getD_some
def Go.T1:=@Iff.rfl
def Go.T2:=@ne_of_beq_false
def Go.T3:=@List.getElem_of_mem
def Go.T4:=@Array.all_eq_true'
def Go.T5:=@List.any_eq_false
def Go.T6:=@List.take_length
def Go.T7:=@List.map_append
def Go.T8:=@List.getElem?_append_left
def Go.T9:=@Nat.add_assoc
def Go.Ua:=@Option.bind_some
def Go.Ub:=@Nat.zero_mul
def Go.Uc:=@Array.mem_push_of_mem
def Go.Ud:=@Array.getElem?_append
def Go.Ue:=@List.filter_append
def Go.Uf:=@List.drop_eq_getElem_cons
def Go.Ug:=@List.mem_filter
def Go.Uh:=@Nat.succ_pos
def Go.Ui:=@Array.append_singleton
def Go.Uj:=@List.nil_append
def Go.Uk:=@List.getElem_cons_zero
def Go.Ul:=@Bool.not_false
def Go.Um:=@List.all_cons
def Go.Un:=@Array.mem_push
def Go.Uo:=@Nat.add_mul
def Go.Up:=@Prod.mk.inj
def Go.Uq:=@List.getElem?_toArray
def Go.Ur:=@Array.ext
def Go.Us:=@Array.getElem_mem
def Go.Ut:=@Bool.false_ne_true
def Go.Uu:=@List.take_succ_eq_append_getElem
def Go.Uv:=@List.drop_drop
def Go.Uw:=@List.range_succ
def Go.Ux:=@Array.foldl_toList
def Go.Uy:=@List.flatMap_append
def Go.Uz:=@List.cons_append
def Go.UA:=@Nat.add_comm
def Go.UB:=@List.getD_eq_getElem?_getD
def Go.UC:=@List.mem_append_left
def Go.UD:=@List.getElem_map
def Go.UE:=@Nat.exists_eq_add_of_le
def Go.UF:=@Array.mem_iff_getElem?
def Go.UG:=@Nat.lt_succ_of_lt
def Go.UH:=@Option.ne_none_iff_exists'
def Go.UI:=@Array.ext'
def Go.UJ:=@Bool.and_false
def Go.UK:=@UInt8.toNat_inj
def Go.UL:=@Bool.eq_false_iff
def Go.UM:=@List.take_of_length_le
def Go.UN:=@List.length_reverse
def Go.UO:=@Bool.true_and
def Go.UP:=@List.foldl_append
def Go.UQ:=@Decidable.byContradiction
def Go.UR:=@List.getElem?_drop
def Go.US:=@Int.le_refl
def Go.UT:=@List.mem_cons_of_mem
def Go.UU:=@Array.mem_map
def Go.UW:=@Array.append_empty
def Go.UX:=@of_decide_eq_false
def Go.UY:=@Bool.false_or
def Go.UZ:=@List.mem_range
def Go.U3:=@List.foldl_cons
def Go.U4:=@Prod.mk.injEq
def Go.U5:=@Nat.not_le
def Go.U6:=@List.cons.injEq
def Go.U7:=@Nat.le_of_lt
def Go.U8:=@getElem!_pos
def Go.U9:=@Array.mem_toList_iff
def Go.Va:=@Array.toList_modify
def Go.Vb:=@List.mem_take_iff_getElem
def Go.Vd:=@Nat.lt_trichotomy
def Go.Ve:=@Array.getElem?_extract
def Go.Vf:=@Array.getElem_toList
def Go.Vg:=@List.ne_nil_of_mem
def Go.Vh:=@List.mem_cons_self
def Go.Vi:=@Array.getElem?_replicate
def Go.Vj:=@Nat.pos_of_ne_zero
def Go.Vk:=@List.getElem?_append_right
def Go.Vl:=@List.forIn_cons
def Go.Vm:=@Std.Legacy.Range.forIn_eq_forIn_range'
def Go.Vn:=@Array.replicate_succ
def Go.Vo:=@List.mem_flatMap
def Go.Vp:=@List.map_cons
def Go.Vq:=@List.ext_getElem
def Go.Vr:=@Array.toList_push
def Go.Vs:=@List.mem_append_right
def Go.Vt:=@Array.getElem?_setIfInBounds_self_of_lt
def Go.Vu:=@Nat.le_add_right
def Go.Vv:=@List.getElem_range
def Go.Vw:=@List.length_range
def Go.Vx:=@List.pairwise_cons
def Go.Vy:=@Array.all_append
def Go.Vz:=@Array.mem_append_left
def Go.VA:=@Bool.false_and
def Go.VB:=@List.mem_flatten
def Go.VC:=@List.eq_of_mem_replicate
def Go.VD:=@Option.any_some
def Go.VE:=@List.getElem?_take
def Go.VF:=@Int.tdiv_eq_ediv_of_nonneg
def Go.VH:=@List.findIdx?_eq_some_iff_getElem
def Go.VI:=@List.findIdx?_eq_none_iff
def Go.VJ:=@Nat.add_sub_cancel_left
def Go.VK:=@List.getElem?_cons_zero
def Go.VM:=@Array.toList_setIfInBounds
def Go.VO:=@List.getLast?_cons_cons
def Go.VP:=@Option.isSome_iff_exists
def Go.VR:=@List.append_cancel_left_eq
def Go.VT:=@Nat.mod_two_eq_zero_or_one
def Go.VU:=@List.perm_ext_iff_of_nodup
def Go.VV:=@Array.mem_or_eq_of_mem_setIfInBounds
def Go.VX:=@Array.eq_empty_of_size_eq_zero
def Go.VY:=@List.length_filterMap_le
namespace Go.Tm
structure Ren(G:Nat) where
 rel:Nat->Nat->Prop
 fn:∀r R R',rel r R->rel r R'->R=R'
 inj:∀r r' R,rel r R->rel r' R->r=r'
 dq:∀r R,rel r R->(r<G↔R<G)
instance{G:Nat}:CoeFun (Ren G) (λ_=>Nat->Nat->Prop):=⟨Ren.rel⟩
variable {G:Nat}
def Ren.le(π a:Ren G):Prop:=∀r s,π r s->a r s
def Ren.le_refl(π:Ren G):Ren.le π π:=λ_ _ h=>h
def Ren.le_trans{a b c:Ren G}(h:Ren.le a b)(d:Ren.le b c):Ren.le a c:=λ_ _ x=>d _ _ (h _ _ x)
inductive aN(π:Ren G):Addr->Addr->Prop
 |mk {r s o:Nat} {p:Option Nat}:π r s->aN π ⟨r,o,p⟩ ⟨s,o,p⟩
def aN.mono{π b:Ren G}(l:Ren.le π b){a A}(h:aN π a A):aN b a A:=by cases h with|mk h=>exact .mk (l _ _ h)
def km:Nat:=74
inductive FnR(π:Ren G):Fn->Fn->Prop
 |func (f):f≠km->FnR π (.func f) (.func f)
 |yield {l L:Nat}:π l L->FnR π (.yield l) (.yield L)
def FnR.mono{π b:Ren G}(l:Ren.le π b){a A}(h:FnR π a A):FnR b a A:=by
 cases h with
 |yield h=>exact .yield (l _ _ h)
 |func f h=>exact .func f h
def dW:Value->Bool
 | .pointer (some _)| .slice (some _) _ _| .map (some _)| .chan (some _)| .iface _ _=>true
 | .func (.method _) _ _=>false
 | .func _ _ _=>true
 |_=>false
inductive av(π:Ren G):Value->Value->Prop
 |bool (b):av π (.bool b) (.bool b)
 |int (k n):av π (.int k n) (.int k n)
 |float (k b):av π (.float k b) (.float k b)
 |complex (k a b):av π (.complex k a b) (.complex k a b)
 |string (s):av π (.string s) (.string s)
 |Ih:av π (.pointer none) (.pointer none)
 |ptr {a A:Addr}:aN π a A->av π (.pointer (some a)) (.pointer (some A))
 |im (l c):av π (.slice none l c) (.slice none l c)
 |slice {a A:Addr} (l c):aN π a A->av π (.slice (some a) l c) (.slice (some A) l c)
 |pM (A:Addr):av π (.slice (some ⟨0,0,some 0⟩) 0 0) (.slice (some A) 0 0)
 |Kq:av π (.map none) (.map none)
 |map {r R:Nat}:π r R->av π (.map (some r)) (.map (some R))
 |PR:av π (.chan none) (.chan none)
 |chan {r R:Nat}:π r R->av π (.chan (some r)) (.chan (some R))
 |func {fn FN:Fn} {f F c C:Array Value}:FnR π fn FN->f.size=F.size->(∀(i:Nat) x X,f[i]? =some x->F[i]? =some X->av π x X)->c.size=C.size->(∀(i:Nat) x X,c[i]? =some x->C[i]? =some X->av π x X)->av π (.func fn f c) (.func FN F C)
 |nilFunc:av π .nilFunc .nilFunc
 |iface (t) {v V:Value}:av π v V->av π (.iface t v) (.iface t V)
 |nilIface:av π .nilIface .nilIface
 |agg {c C:Array Value}:c.size=C.size->(∀(i:Nat) x X,c[i]? =some x->C[i]? =some X->av π x X)->av π (.agg c) (.agg C)
 |tuple {c C:Array Value}:c.size=C.size->(∀(i:Nat) x X,c[i]? =some x->C[i]? =some X->av π x X)->av π (.tuple c) (.tuple C)
 |lT (V):dW V=true->av π (.tuple #[]) V
 |Ii (n f c):av π (.func (.method "") #[.nilIface] #[]) (.func (.method n) f c)
def av.mono{π d:Ren G}(l:Ren.le π d){v V}(h:av π v V):av d v V:=by
 induction h with
 |ptr h=>exact .ptr (h.mono l)
 |slice a b h=>exact .slice a b (h.mono l)
 |map h=>exact .map (l _ _ h)
 |chan h=>exact .chan (l _ _ h)
 |func g i _ j _ k m=>exact .func (g.mono l) i k j m
 |iface t _ e=>exact .iface t e
 |agg s _ e=>exact .agg s e
 |tuple s _ e=>exact .tuple s e
 |lT V a=>exact .lT V a
 |Ii n f c=>exact .Ii n f c
 |pM A=>exact .pM A
 |_=>constructor
def aV{c d:Type}(R:c->d->Prop)(a:Array c)(b:Array d):Prop:=a.size=b.size/\∀(i:Nat) x y,a[i]? =some x->b[i]? =some y->R x y
def aV.mono{c d}{R R':c->d->Prop}{a b}(e:∀x y,R x y->R' x y)(h:aV R a b):aV R' a b:=⟨h.1,λi x y f g=>e _ _ (h.2 i x y f g)⟩
abbrev VsR(π:Ren G):Array Value->Array Value->Prop:=aV (av π)
def av.EH{π:Ren G}{c C}(h:VsR π c C):av π (.agg c) (.agg C):=.agg h.1 h.2
def av.tuple'{π:Ren G}{c C}(h:VsR π c C):av π (.tuple c) (.tuple C):=.tuple h.1 h.2
inductive bh{α β:Type}(R:α->β->Prop):List α->List β->Prop
 |nil:bh R [] []
 |cons {x y l m}:R x y->bh R l m->bh R (x::l) (y::m)
def bh.mono{c d}{R R':c->d->Prop}(e:∀x y,R x y->R' x y){a b}(h:bh R a b):bh R' a b:=by
 induction h with
 |nil=>exact .nil
 |cons h _ f=>exact .cons (e _ _ h) f
inductive dF{α β:Type}(R:α->β->Prop):Option α->Option β->Prop
 |none:dF R none none
 |some {x y}:R x y->dF R (some x) (some y)
def dF.mono{c d}{R R':c->d->Prop}(e:∀x y,R x y->R' x y){a b}(h:dF R a b):dF R' a b:=by
 cases h with
 |none=>exact .none
 |some h=>exact .some (e _ _ h)
def bh.length{c d R}{a:List c}{b:List d}(h:bh R a b):a.length=b.length:=by
 induction h with
 |nil=>rfl
 |cons _ _ e=>simp[e]
def bh.append{e f R}{a c:List e}{b d:List f}(h:bh R a b)(g:bh R c d):bh R (a++c) (b++d):=by
 induction h with
 |nil=>exact g
 |cons x _ i=>exact .cons x i
def aV.get{d e R}{a:Array d}{b:Array e}(h:aV R a b)(i:Nat):dF R a[i]? b[i]? :=by
 obtain hi|hi:=R5 i a.size
 ·have c:=h.1▸hi
  rw[Sv hi,Sv c];exact .some (h.2 i _ _ (Sv hi) (Sv c))
 ·have c:b.size<=i:=h.1▸hi
  rw[TF hi,TF c];exact .none
def aV.lu{c d R}{a:Array c}{b:Array d}(h:∀i:Nat,dF R a[i]? b[i]?):aV R a b:=by
 refine⟨?_,λi x y e f=>?_⟩
 ·obtain h1|h1|h1:=Vd a.size b.size
  ·have:=h a.size;rw[TF (R2 _),Sv h1]at this;cases this
  ·exact h1
  ·have:=h b.size;rw[TF (R2 _),Sv h1]at this;cases this
 ·have:=h i;rw[e,f]at this;cases this with|some r=>exact r
def aV.toList{e f R}{a:Array e}{b:Array f}(h:aV R a b):bh R a.toList b.toList:=by
 obtain⟨a⟩:=a;obtain⟨b⟩:=b;simp only[aV,Su,Uq]at h⊢;obtain⟨c,d⟩:=h;induction a generalizing b with
 |nil=>cases b with|nil=>exact .nil|cons _ _=>simp at c
 |cons x a g=>
  cases b with
  |nil=>simp at c
  |cons y b=>exact .cons (d 0 x y rfl rfl) (g b (by simpa using c) λi u v j k=>d (i+1) u v (by simpa using j) (by simpa using k))
def bh.get{c d R}{a:List c}{b:List d}(h:bh R a b)(i:Nat):dF R a[i]? b[i]? :=by
 induction h generalizing i with
 |nil=>simpa using dF.none
 |cons x _ e=>cases i with
  |zero=>simpa using dF.some x
  |succ i=>simpa using e i
def bh.toArray{c d R}{a:List c}{b:List d}(h:bh R a b):aV R a.toArray b.toArray:=aV.lu λi=>by simpa using h.get i
def aV.push{c d R a b}(h:aV R a b){x:c}{y:d}(r:R x y):aV R (a.push x) (b.push y):=aV.lu λi=>by
 rw[Ta,Ta,h.1];split
 ·exact .some r
 ·exact h.get i
def aV.append{e f R}{a c:Array e}{b d:Array f}(h:aV R a b)(g:aV R c d):aV R (a++c) (b++d):=aV.lu λi=>by
 rw[Ud,Ud,h.1];split
 ·exact h.get i
 ·exact g.get _
def aV.set{c d R a b}(h:aV R a b)(i){x:c}{y:d}(r:R x y):aV R (a.setIfInBounds i x) (b.setIfInBounds i y):=aV.lu λj=>by
 rw[S6,S6,h.1];split
 ·split
  ·exact .some r
  ·exact .none
 ·exact h.get j
def aV.extract{c d R}{a:Array c}{b:Array d}(h:aV R a b)(i j):aV R (a.extract i j) (b.extract i j):=aV.lu λk=>by
 rw[Ve,Ve,h.1];split
 ·exact h.get _
 ·exact .none
def aV.empty{a b R}:aV R (#[]:Array a) (#[]:Array b):=⟨rfl,λi x y h=>by simp at h⟩
def aV.map{j k d e R}{S:d->e->Prop}{a b}(h:aV R a b){f:j->d}{g:k->e}(l:∀x y,R x y->S (f x) (g y)):aV S (a.map f) (b.map g):=aV.lu λi=>by
 rw[SG,SG];have c:=h.get i
 revert c
 generalize a[i]? =u;generalize b[i]? =v;intro c;cases c with
 |none=>exact .none
 |some r=>exact .some (l _ _ r)
def aV.refl{b}{R:b->b->Prop}{a}(h:∀x,x∈a->R x x):aV R a a:=⟨rfl,λi x y c d=>by rw[c]at d;cases d;exact h x (Td c)⟩
end Go.Tm
namespace Go.Tm
variable {G:Nat}
structure iq(π:Ren G)(e E:MapEntry):Prop where
 key:av π e.key E.key
 val:av π e.val E.val
 born:e.born=E.born
inductive o9(π:Ren G):Deferred->Deferred->Prop
 |mk {r R:Nat}:π r R->o9 π ⟨.collected r,#[]⟩ ⟨.collected R,#[]⟩
def fI:Value->Bool
 | .bool _| .int .. | .float .. | .complex .. | .string _| .pointer none| .slice none _ _| .map none| .chan none| .nilFunc| .nilIface=>true
 | .tuple c=>c.isEmpty
 |_=>false
def G4:Question->Bool
 | .order _ _=>true
 |_=>false
def Kr{q}(h:G4 q=false)(f id):q≠ .order f id:=λe=>by rw[e]at h;cases h
structure Kn where
 dq:Nat->Bool
 ent:Nat->Bool
 stop:Nat->Bool
 own:Nat->Bool
def Kn.free(S:Kn)(q:Question):Prop:=∀f a,q=.order f a->S.own f=false
def Kn.fJ(S:Kn)(g:Question->Nat):Prop:=∀f a,S.own f=true->g (.order f a)=0
def Kn.calm(S:Kn)(g:Question->Nat):Prop:=∀f a,S.ent f=true->S.own f=true->g (.order f a)=0
noncomputable def only(q:Question)(n:Nat):Question->Nat:=open Classical in λa=>if a=q then n else 0
def rT(q n):only q n q=n:=RZ rfl
def yy{S:Kn}{q}(h:S.free q)(n):S.fJ (only q n):=λf b a=>by unfold only;refine RY λe=>?_;rw[h f b e.symm]at a;cases a
def EI{S:Kn}{f:FuncId}(h:S.ent f=true){g}(c:S.calm g)(a):S.fJ (only (.order f a) (g (.order f a))):=λd b i=>by
 unfold only;by_cases e:Question.order d b=.order f a
 ·rw[RZ e]
  cases e;exact c f a h i
 ·exact RY e
def lU{S:Kn}:S.fJ (λ_=>0):=λ_ _ _=>rfl
def bW(S:Kn):Operand->Bool
 | .tmp _=>true
 | .func f=>f !=km
 | .const v=>fI v
 | .global g=>S.dq g
def oK:Builtin->Bool
 | .append| .cap| .copy| .len| .max| .min| .unsafeString| .panic=>true
 |_=>false
def ko(S:Kn):Op->Bool
 | .call ⟨.value (.func f),args,_⟩=>f==km&&args.size==1&&args.all (bW S)
 |_=>false
def zT(S:Kn)(o:Op):Bool:=
 ko S o||(match o with
 | .move _| .assign _| .pick .. | .alloc _| .box .. | .build .. | .buildSlice .. | .insert .. | .load .. | .store .. | .nilCheck _| .binOp .. | .unOp .. | .makeInterface .. | .makeMap .. | .makeSlice .. | .slice ..
 | .fieldAddr .. | .field .. | .indexAddr .. | .index .. | .lookup .. | .mapUpdate .. | .mapEntry .. | .entryStore .. | .range .. | .next .. | .entry _| .extract .. | .panic _=>true
 | .makeFunc (.func f) _ _=>f !=km
 | .convert s d _=>s !=d
 | .call ⟨.value _,_,_⟩=>true
 | .call ⟨.builtin b,_,_⟩=>oK b
 |_=>false)&&o.operands.all (bW S)
def codeOk(S:Kn):Code->Bool
 | .skip| .exit _| .label _| .goto _| .ret| .refuse _=>true
 | .region _ ops _=>ops.all λo=>zT S o.op
 | .seq a b=>codeOk S a&&codeOk S b
 | .cond c a b=>bW S c&&codeOk S a&&codeOk S b
 | .block _ b| .loop b| .scope b=>codeOk S b
 | .rangeFunc f _ a b=>bW S f&&codeOk S a&&codeOk S b
def Kn.code(S:Kn)(c:Code):Prop:=codeOk S c=true
def pN:TypeId:=1000000
def PT:Op->Bool
 | .call ⟨.builtin .unsafeSliceData,_,_⟩=>true
 |_=>false
def opD(S:Kn)(o:Op):Bool:=zT S o||(match o with
 | .call ⟨.builtin .unsafeSliceData,args,_⟩=>args.all (bW S)
 |_=>false)
def b9(o:Oper):Oper:=if PT o.op then{o with type:=pN}else o
def gp:Code->Code
 | .region e ops d=>.region e (ops.map b9) d
 | .seq a b=>.seq (gp a) (gp b)
 |c=>c
def iu(S:Kn):Code->Bool
 | .region _ ops _=>ops.all λo=>opD S o.op
 | .seq a b=>iu S a&&iu S b
 |c=>codeOk S c
def BN{S:Kn}{o}(h:zT S o=true):PT o=false:=by
 cases o with
 |call c=>
  obtain⟨k,a,t⟩:=c;cases k with
  |builtin b=>cases b<;>first|rfl|(simp[zT,ko,oK]at h;done)
  |_=>rfl
 |_=>rfl
theorem gq{S:Kn}:∀{c},codeOk S c=true->gp c=c/\iu S c=true
 | .region g ops d,h=>by
  simp only[codeOk]at h;rw[T4]at h;refine⟨?_,?_⟩
  ·show Code.region g (ops.map b9) d=_
   have e:ops.map b9=ops:=by refine Ur (by simp) λi q f=>?_;rw[Array.getElem_map];unfold b9;rw[RY];rw[BN (h _ (Us f))];simp
   rw[e]
  ·simp only[iu]
   rw[T4];exactλo j=>by unfold opD;rw[h o j];rfl
 | .seq a b,h=>by simp only[codeOk,Sf]at h;obtain⟨k,m⟩:=gq h.1;obtain⟨n,p⟩:=gq h.2;exact⟨by simp only[gp,k,n],by simp only[iu,m,p,Bool.and_self]⟩
 | .skip,h| .exit _,h| .label _,h| .goto _,h| .ret,h| .refuse _,h| .cond ..,h| .rangeFunc ..,h| .block ..,h| .loop _,h| .scope _,h=>⟨rfl,h⟩
structure BO(S:Kn)(π:Ren G)(l L:Loop):Prop where
 state:l.state=L.state
 pending:l.pending=L.pending
 Rm:∀c,l.pending=some c->S.code c
 fn:l.fn=L.fn
 ent:S.ent l.fn=true
 tmps:VsR π l.tmps L.tmps
 params:l.params=L.params
 assign:l.assign=L.assign
 PU:S.code l.assign
 body:l.body=L.body
 PV:S.code l.body
 defers:π l.defers L.defers
def Ij(n:Nat)(f F:Nat×Nat):Prop:=F=f\/(f.1=0/\n<f.2/\F.2<=f.2)
def grow(f:Nat×Nat)(a n:Nat):Nat×Nat:=if f.1==f.2 then(a,a+n)else(min f.1 a,max f.2 (a+n))
def Fle(f F:Nat×Nat):Prop:=F=f\/(F.1<F.2/\(f.1=f.2\/(F.1<=f.1/\f.2<=F.2)))
def Fle.refl(f):Fle f f:=.inl rfl
def Fle.trans{a b c}(h:Fle a b)(e:Fle b c):Fle a c:=by
 obtain rfl|⟨f,h2⟩:=h
 ·exact e
 ·obtain rfl|⟨g,d⟩:=e
  ·exact .inr ⟨f,h2⟩
  ·refine .inr ⟨g,?_⟩
   obtain h2|h2:=h2
   ·exact .inl h2
   ·rcases d with d|d<;>omega
def Fle.back{a b}(h:Fle a b)(c:Fle b a):b=a:=by
 obtain h|⟨d,e⟩:=h
 ·exact h
 ·obtain c|⟨f,g⟩:=c
  ·exact c.symm
  ·have:b.1=a.1/\b.2=a.2:=by omega
   exact Prod.ext this.1 this.2
def Ks(f a n)(b:n≠0):Fle f (grow f a n):=by
 unfold grow;by_cases h:f.1=f.2
 ·rw[RZ (by simpa using h)];exact .inr ⟨by simp;omega,.inl h⟩
 ·rw[RY (by simpa using h)];exact .inr ⟨by simp;omega,.inr (by simp;omega)⟩
inductive fA(S:Kn)(π:Ren G):Obj->Obj->Prop
 |cells {c C:Array Value} (e:TypeId) {f F:Nat×Nat}:VsR π c C->Ij c.size f F->fA S π (.cells c e f) (.cells C e F)
 |map {es ES:Array MapEntry} (n:Nat):aV (iq π) es ES->fA S π (.map es n) (.map ES n)
 |stringIter (s p):fA S π (.stringIter s p) (.stringIter s p)
 |eX (a b c):fA S π (.mapIter none a b c) (.mapIter none a b c)
 |mapIter {m M:Nat} (a b c):π m M->fA S π (.mapIter (some m) a b c) (.mapIter (some M) a b c)
 |loop {l L:Loop}:BO S π l L->fA S π (.loop l) (.loop L)
 |deferred:fA S π (.deferred (some [])) (.deferred (some []))
 |ew:fA S π (.deferred none) (.deferred none)
 |number {a A:Addr} (l:Bool):aN π a A->fA S π (.number a l) (.number A l)
 |view {a A:Addr} (t:TypeId):aN π a A->fA S π (.view a t) (.view A t)
section mono
variable {S:Kn} {π π':Ren G} (l:Ren.le π π')
include l
def VsR.mono{c C:Array Value}(h:VsR π c C):VsR π' c C:=aV.mono (λ_ _ x=>x.mono l) h
def iq.mono{e E:MapEntry}(h:iq π e E):iq π' e E:=⟨h.key.mono l,h.val.mono l,h.born⟩
def o9.mono{e E:Deferred}(h:o9 π e E):o9 π' e E:=by cases h with|mk a=>exact .mk (l _ _ a)
def BO.mono{e E:Loop}(h:BO S π e E):BO S π' e E:={h with tmps:=VsR.mono l h.tmps,defers:=l _ _ h.defers}
def fA.mono{o O:Obj}(h:fA S π o O):fA S π' o O:=by
 cases h with
 |cells e h f=>exact .cells e (VsR.mono l h) f
 |map n h=>exact .map n (aV.mono (λ_ _ x=>x.mono l) h)
 |stringIter=>exact .stringIter _ _
 |eX=>exact .eX _ _ _
 |mapIter a b c h=>exact .mapIter a b c (l _ _ h)
 |loop h=>exact .loop (h.mono l)
 |deferred=>exact .deferred
 |ew=>exact .ew
 |number b h=>exact .number b (h.mono l)
 |view t h=>exact .view t (h.mono l)
end mono
structure bj(S:Kn)(Pr:Nat->Prop)(π:Ren G)(w W:World):Prop where
 obj:∀r R,π r R->∃o O,w.heap[r]? =some o/\W.heap[R]? =some O/\fA S π o O
 uh:∀r R,π r R->Pr R->∃c e f,w.heap[r]? =some (.cells c e f)/\f.1=0/\c.size<f.2
 uR:∀R,Pr R->R<W.heap.size
 gw:G<=w.heap.size
 gW:G<=W.heap.size
 w0:∃c e f,w.heap[0]? =some (.cells c e f)
def aq(w:World)(τ:Nat->Question->Nat)(d:Nat):World:={w with tape:=τ,drawn:=d}
def Fits(τ:Nat->Question->Nat)(d:Nat)(l:List (Question->Nat)):Prop:=∀i g,l[i]? =some g->τ (d+i)=g
def Fits.head{τ d g l}(h:Fits τ d (g::l)):τ d=g:=h 0 g rfl
def Fits.tail{τ d g l}(h:Fits τ d (g::l)):Fits τ (d+1) l:=λi g' a=>by have:=h (i+1) g' (by simpa using a);rw[show d+1+i=d+(i+1) by omega];exact this
def lx(d:Nat)(l:List (Question->Nat)):Nat->Question->Nat:=λn=>(l[n-d]?).getD λ_=>0
def kQ(d l):Fits (lx d l) d l:=λi g h=>by unfold lx;rw[show d+i-d=i by omega,h];rfl
structure Chg(Pr:Nat->Prop)(π:Ren G)(W W':World)(π':Ren G):Prop where
 os:W'.os=W.os
 tape:W'.tape=W.tape
 output:W'.output=W.output
 size:W.heap.size<=W'.heap.size
 keep:∀b,b<W.heap.size->(¬∃r,π r b)->W'.heap[b]? =W.heap[b]?
 nA:∀b,Pr b->∀c e F,W.heap[b]? =some (Obj.cells c e F)->∃F',W'.heap[b]? =some (Obj.cells c e F')
 fz:∀(b:Nat) c e F,W.heap[b]? =some (Obj.cells c e F)->∃c' F',W'.heap[b]? =some (Obj.cells c' e F')/\Fle F F'
 old:∀r R,π' r R->π r R\/W.heap.size<=R
 new:∀R,W.heap.size<=R->R<W'.heap.size->∃r,π' r R
 le:Ren.le π π'
def Chg.refl(Pr)(π:Ren G)(W):Chg Pr π W W π:=⟨rfl,rfl,rfl,R2 _,λ_ _ _=>rfl,λ_ _ _ _ F h=>⟨F,h⟩,λ_ c _ F h=>⟨c,F,h,.refl _⟩,λ_ _ h=>.inl h,λ_ a b=>absurd b (Ti.2 a),λ_ _ h=>h⟩
def Chg.trans{Pr}{π π' π'':Ren G}{W j g}(h:Chg Pr π W j π')(d:Chg Pr π' j g π''):Chg Pr π W g π'':=by
 refine⟨d.os.trans h.os,d.tape.trans h.tape,d.output.trans h.output,R3 h.size d.size,λb f q=>?_,λb f c e F k=>?_,λb c e F k=>?_,λr R i=>?_,λR a b=>?_,Ren.le_trans h.le d.le⟩
 ·rw[d.keep b (R6 f h.size) ?_,h.keep b f q]
  exactλ⟨r,i⟩=>(h.old r b i).elim (λx=>q ⟨r,x⟩) λx=>absurd f (Ti.2 x)
 ·obtain⟨m,n⟩:=h.nA b f c e F k
  exact d.nA b f c e m n
 ·obtain⟨c',m,n,s⟩:=h.fz b c e F k
  obtain⟨o,p,t,u⟩:=d.fz b c' e m n;exact⟨o,p,t,s.trans u⟩
 ·obtain x|x:=d.old r R i
  ·exact h.old r R x
  ·exact .inr (R3 h.size x)
 ·obtain x|x:=R5 R j.heap.size
  ·obtain⟨r,i⟩:=h.new R a x;exact⟨r,d.le _ _ i⟩
  ·exact d.new R x b
def kP(Pr:Nat->Prop)(π:Ren G)(e:Event):Prop:=
 match e.loc with
 | .cell A=>e.sync=false/\(∃r,π r A.block)/\(e.write=true->¬Pr A.block)
 | .obj R=>e.sync=false/\(∃r,π r R)/\(e.write=true->¬Pr R)
 | .mark (.extern _)=>True
 | .mark .noRoom=>True
 |_=>False
def kP.mono{Pr}{π π':Ren G}(l:Ren.le π π'){e}(h:kP Pr π e):kP Pr π' e:=by
 unfold kP at*;split<;>simp_all
 ·obtain⟨_,⟨r,a⟩,_⟩:=h;exact⟨r,l _ _ a⟩
 ·obtain⟨_,⟨r,a⟩,_⟩:=h;exact⟨r,l _ _ a⟩
def fX:Halt->Prop
 | .panic _| .stuck _=>True
 | .unsupported (.initOrder _)=>False
 | .unsupported _=>True
 |_=>False
def nB(w w':World):Prop:=∀(r:Nat) (o:Obj),w.heap[r]? =some o->w'.heap[r]? =some o
def nB.refl(w):nB w w:=λ_ _ h=>h
def nB.trans{a b c}(h:nB a b)(d:nB b c):nB a c:=λr o x=>d r o (h r o x)
def cE{c}(s:Sem c):Prop:=∀(P:Program) (w:World) (es:Array Event),(∃a w' b,s.runT P w es=(.ok a w',b)/\nB w w')\/∃h w' b,s.runT P w es=(.halt h w',b)/\fX h/\nB w w'
def dK{b}(s:Sem b):Prop:=∀(P:Program) (w:World) (es:Array Event),∃h w' a,s.runT P w es=(.halt h w',a)/\fX h/\nB w w'
def dK.halt{a:Type}(h:Halt)(b:fX h:=by exact True.intro):dK (Sem.halt h:Sem a):=λ_ w es=>⟨h,w,es,rfl,b,.refl _⟩
def runT_bind'{e g}(P)(f:e->Sem g)(s:Sem e):∀(w) (es),(∃a w' d,s.runT P w es=(.ok a w',d)/\(s.bind f).runT P w es=(f a).runT P w' d)\/(∃h w' d,s.runT P w es=(.halt h w',d)/\(s.bind f).runT P w es=(.halt h w',d)):=by
 induction s with
 |pure a=>exactλw es=>.inl ⟨a,w,es,rfl,rfl⟩
 |load m a k b=>
  intro w es;simp only[Sem.bind,Sem.runT];cases w.cell? a with
  |some v=>exact b v w _
  |none=>
   simp only[];cases w.farLoad P a (m== .atomic)with
   |ok r=>exact b r.1 w _
   |error h=>exact .inr ⟨h,w,es,rfl,rfl⟩
 |store m a v k b=>
  intro w es;cases v with
  |agg=>exact .inr ⟨_,w,es,rfl,rfl⟩
  |tuple=>exact .inr ⟨_,w,es,rfl,rfl⟩
  |_=>
   simp only[Sem.bind,Sem.runT];cases w.cell? a with
   |some v=>
    simp only[];split
    ·exact .inr ⟨_,w,es,rfl,rfl⟩
    ·exact b _ _
   |none=>
    simp only[];split
    ·exact b _ _
    ·exact .inr ⟨_,w,es,rfl,rfl⟩
 |new o k b=>exactλw es=>b _ _ _
 |shape r k b=>exactλw es=>b _ _ _
 |freeze a n k b=>exactλw es=>b _ _
 |frozen a k b=>exactλw es=>b _ _ _
 |getObj r k b=>
  intro w es;simp only[Sem.bind,Sem.runT];split
  ·exact .inr ⟨_,w,es,rfl,rfl⟩
  ·exact b _ _ _
  ·exact .inr ⟨_,w,es,rfl,rfl⟩
 |setObj r o k b=>
  intro w es;simp only[Sem.bind,Sem.runT];split
  ·exact .inr ⟨_,w,es,rfl,rfl⟩
  ·exact b _ _
  ·exact .inr ⟨_,w,es,rfl,rfl⟩
 |choose q k b=>
  intro w es;simp only[Sem.bind,Sem.runT];split
  ·exact b _ _ _
  ·exact b _ _ _
 |sys c k b=>exactλw es=>b _ _ _
 |program k b=>exactλw es=>b _ _ _
 |mark m k b=>exactλw es=>b _ _
 |halt h=>exactλw es=>.inr ⟨h,w,es,rfl,rfl⟩
def ey{p q}(s)(f:p->Sem q)(c:dK s\/(cE s/\∀a,dK (f a))):dK (s>>= f):=by
 show dK (s.bind f);intro P w es;obtain⟨a,w1,e,d,m⟩|⟨h,w1,e,d,m⟩:=runT_bind' P f s w es
 ·rw[m]
  obtain c|⟨n,c⟩:=c
  ·obtain⟨h,w2,b,g,_⟩:=c P w es
   rw[d]at g;simp at g
  ·obtain⟨h,w3,o,r,i,j⟩:=c a P w1 e
   obtain⟨t,w2,b,g,k⟩|⟨h,w2,b,g,_⟩:=n P w es
   ·rw[d]at g;cases g
    exact⟨h,w3,o,r,i,k.trans j⟩
   ·rw[d]at g;simp at g
 ·rw[m]
  obtain c|⟨n,c⟩:=c
  ·obtain⟨u,w2,b,g,i,j⟩:=c P w es
   rw[d]at g;cases g;exact⟨_,_,_,rfl,i,j⟩
  ·obtain⟨t,w2,b,g,k⟩|⟨u,w2,b,g,i,j⟩:=n P w es
   ·rw[d]at g;simp at g
   ·rw[d]at g;cases g
    exact⟨_,_,_,rfl,i,j⟩
def dK.PW{a}{s:Sem a}(h:dK s):cE s:=λP w es=>.inr (h P w es)
def cE.bind{q r s}{f:q->Sem r}(h:cE s)(t:∀a,cE (f a)):cE (s>>= f):=by
 show cE (s.bind f);intro P w es;obtain⟨a,w1,e,i,m⟩|⟨v,w1,e,i,m⟩:=runT_bind' P f s w es
 ·rw[m]
  obtain⟨u,w2,c,g,k⟩|⟨n,w2,c,g,_⟩:=h P w es
  ·rw[i]at g;cases g
   obtain⟨b,w3,d,o,j⟩|⟨n,w3,d,o,j,p⟩:=t a P w1 e
   ·exact .inl ⟨b,w3,d,o,k.trans j⟩
   ·exact .inr ⟨n,w3,d,o,j,k.trans p⟩
  ·rw[i]at g;simp at g
 ·rw[m]
  obtain⟨u,w2,c,g,k⟩|⟨n,w2,c,g,j,p⟩:=h P w es
  ·rw[i]at g;simp at g
  ·rw[i]at g;cases g
   exact .inr ⟨_,_,_,rfl,j,p⟩
def cE.pure{b}(a):cE (Pure.pure a:Sem b):=λ_ w es=>.inl ⟨a,w,es,rfl,.refl _⟩
def cE.ite{a c}[Decidable c]{s t:Sem a}(h:cE s)(b:cE t):cE (if c then s else t):=by split<;>assumption
def cE.stuck{a}(m):cE (Go.stuck m:Sem a):=(dK.halt _).PW
def cE.unsupported{a:Type}(u:Unsupported)(h:fX (.unsupported u):=by exact True.intro):cE (Go.unsupported u:Sem a):=(dK.halt _ h).PW
def cE.program:cE Go.program:=λP w es=>.inl ⟨P,w,es,rfl,.refl _⟩
def cE.choose(q):cE (Go.choose q):=by
 intro P w es;by_cases h:q.forced=true
 ·exact .inl ⟨0,w,es,by simp[Go.choose,Sem.runT,h],.refl _⟩
 ·exact .inl ⟨_,{w with drawn:=w.drawn+1},es,by simp[Go.choose,Sem.runT,h];rfl,λ_ _ h=>h⟩
def cE.shape(r):cE (Go.shape r):=λ_ w es=>.inl ⟨_,w,es,rfl,.refl _⟩
def cE.frozen(a):cE (Go.frozen a):=λ_ w es=>.inl ⟨_,w,es,rfl,.refl _⟩
def cE.mark(m):cE (Go.mark m):=λ_ w _=>.inl ⟨_,w,_,rfl,.refl _⟩
def cE.newObj(o):cE (Go.newObj o):=λ_ w es=>.inl ⟨_,_,es,rfl,λr x h=>by have:=(R7.1 h).1;simp only[Ta];rw[RY (by omega)];exact h⟩
def Kt{e}(a:Ask e):∀w:World,(w.ask a).2.heap=w.heap:=by
 induction a with
 |done a=>exactλ_=>rfl
 |ask c b k d=>
  intro w;simp only[World.ask];split
  ·exact d _ _
  ·exact(d _ _).trans rfl
def Ku(w:World)(c):(w.sys c).2.heap=w.heap:=by
 unfold World.sys;have:=Kt (Kernel.perform c w.os) w;split
 ·rfl
 ·rename_i h;rw[h]at this;exact this
def cE.sys(c):cE (Go.sys c):=λ_ w es=>.inl ⟨_,(w.sys c).2,_,rfl,λr x h=>by rw[Ku];exact h⟩
inductive SR(S:Kn)(PS P:Program){α β:Type}(Q:Ren G->α->β->Prop):Ren G->Sem α->Sem β->Prop
 |pure {π a b}:Q π a b->SR S PS P Q π (.pure a) (.pure b)
 |load {π a A k K}:aN π a A->(∀v V,av π v V->SR S PS P Q π (k v) (K V))->SR S PS P Q π (.load .plain a k) (.load .plain A K)
 |store {π a A v V k K}:aN π a A->av π v V->SR S PS P Q π k K->SR S PS P Q π (.store .plain a v k) (.store .plain A V K)
 |new {π o O k K}:fA S π o O->(∀π' r R,Ren.le π π'->π' r R->SR S PS P Q π' (k r) (K R))->SR S PS P Q π (.new o k) (.new O K)
 |shape {π r R k K}:π r R->(∀s,SR S PS P Q π (k s) (K s))->SR S PS P Q π (.shape r k) (.shape R K)
 |freeze {π a A n k K}:aN π a A->SR S PS P Q π k K->SR S PS P Q π (.freeze a n k) (.freeze A n K)
 |frozen {π a A k K}:aN π a A->(∀b B:Bool,(B=true->b=true)->SR S PS P Q π (k b) (K B))->SR S PS P Q π (.frozen a k) (.frozen A K)
 |getObj {π r R k K}:π r R->(∀o O,fA S π o O->SR S PS P Q π (k o) (K O))->SR S PS P Q π (.getObj r k) (.getObj R K)
 |setObj {π r R o O k K}:π r R->(∀c e f,o≠ .cells c e f)->fA S π o O->SR S PS P Q π k K->SR S PS P Q π (.setObj r o k) (.setObj R O K)
 |choose {π q k K}:S.free q->(∀n,SR S PS P Q π (k n) (K n))->SR S PS P Q π (.choose q k) (.choose q K)
 |program {π k K}:SR S PS P Q π (k PS) (K P)->SR S PS P Q π (.program k) (.program K)
 |kp {π k s'}:SR S PS P Q π (k PS) s'->SR S PS P Q π (.program k) s'
 |extern {π f k K}:SR S PS P Q π k K->SR S PS P Q π (.mark (.extern f) k) (.mark (.extern f) K)
 |noRoom {π k K}:SR S PS P Q π k K->SR S PS P Q π (.mark .noRoom k) (.mark .noRoom K)
 |mF {π q k s' n} (t:Nat):S.free q->(if q.forced then n=0 else q.cut t=n)->SR S PS P Q π (k n) s'->SR S PS P Q π (.choose q k) s'
 |rU {π s r K}:(∀x,SR S PS P Q π s (K x))->SR S PS P Q π s (.shape r K)
 |rV {π k s'}:(∀x,SR S PS P Q π (k (some x)) s')->SR S PS P Q π (.shape 0 k) s'
 |oL {π s a K}:(∀x,SR S PS P Q π s (K x))->SR S PS P Q π s (.frozen a K)
 |never {π s s'}:dK s->SR S PS P Q π s s'
def SR.bind{S i P k m p u Q₁ Q}{π:Ren G}{s s'}{f:k->Sem p}{F:m->Sem u}
 (h:SR S i P Q₁ π s s') (d:∀π',Ren.le π π'->∀a b,Q₁ π' a b->SR S i P Q π' (f a) (F b)):SR S i P Q π (s>>= f) (s'>>= F):=by
 show SR S i P Q π (s.bind f) (s'.bind F);induction h with
 |pure q=>exact d _ (Ren.le_refl _) _ _ q
 |load a _ c=>exact .load a λv V w=>c v V w d
 |store a v _ c=>exact .store a v (c d)
 |new o _ c=>exact .new o λπ' r R l x=>c π' r R l x λg y=>d g (Ren.le_trans l y)
 |shape r _ c=>exact .shape r λs=>c s d
 |freeze a _ c=>exact .freeze a (c d)
 |frozen a _ c=>exact .frozen a λb B x=>c b B x d
 |getObj r _ c=>exact .getObj r λo O x=>c o O x d
 |setObj r n o _ c=>exact .setObj r n o (c d)
 |choose j _ c=>exact .choose j λn=>c n d
 |program _ c=>exact .program (c d)
 |kp _ c=>exact .kp (c d)
 |extern _ c=>exact .extern (c d)
 |noRoom _ c=>exact .noRoom (c d)
 |mF t j e _ c=>exact .mF t j e (c d)
 |rU _ c=>exact .rU λx=>c x d
 |rV _ c=>exact .rV λx=>c x d
 |oL _ c=>exact .oL λx=>c x d
 |never n=>exact .never (ey _ _ (.inl n))
def SR.mono{S i P j k Q Q'}{π:Ren G}{s:Sem j}{s':Sem k}
 (h:SR S i P Q π s s') (d:∀π',Ren.le π π'->∀a b,Q π' a b->Q' π' a b):SR S i P Q' π s s':=by
 induction h with
 |pure q=>exact .pure (d _ (Ren.le_refl _) _ _ q)
 |load a _ c=>exact .load a λv V m=>c v V m d
 |store a v _ c=>exact .store a v (c d)
 |new o _ c=>exact .new o λπ' r R l x=>c π' r R l x λf p=>d f (Ren.le_trans l p)
 |shape r _ c=>exact .shape r λs=>c s d
 |freeze a _ c=>exact .freeze a (c d)
 |frozen a _ c=>exact .frozen a λb B x=>c b B x d
 |getObj r _ c=>exact .getObj r λo O x=>c o O x d
 |setObj r n o _ c=>exact .setObj r n o (c d)
 |choose g _ c=>exact .choose g λn=>c n d
 |program _ c=>exact .program (c d)
 |kp _ c=>exact .kp (c d)
 |extern _ c=>exact .extern (c d)
 |noRoom _ c=>exact .noRoom (c d)
 |mF t g e _ c=>exact .mF t g e (c d)
 |rU _ c=>exact .rU λx=>c x d
 |rV _ c=>exact .rV λx=>c x d
 |oL _ c=>exact .oL λx=>c x d
 |never n=>exact .never n
end Go.Tm
namespace Go.Tm
variable {G:Nat} {S:Kn} {Pr:Nat->Prop} {π:Ren G} {w W:World}
def ah(P:Program)(fs:Array Func):Program:={P with funcs:=fs}
def Ik(P fs t):(ah P fs).info? t=P.info? t:=rfl
def jv(P fs t):(ah P fs).underlying t=P.underlying t:=rfl
def fQ(P fs):∀(d) (t) (off),byteOfCell (ah P fs) d t off=byteOfCell P d t off:=by
 intro d;induction d with
 |zero=>exactλ_ _=>rfl
 |succ d a=>intro t off;unfold byteOfCell;simp only[a];rfl
def rW(P fs):∀(d) (t) (off),cellHolding (ah P fs) d t off=cellHolding P d t off:=by
 intro d;induction d with
 |zero=>exactλ_ _=>rfl
 |succ d a=>intro t off;unfold cellHolding;simp only[a];rfl
def uS(P fs):∀(d) (t) (off),plainCell (ah P fs) d t off=plainCell P d t off:=by
 intro d;induction d with
 |zero=>exactλ_ _=>rfl
 |succ d a=>intro t off;unfold plainCell;simp only[a];rfl
def EJ(P fs):∀(d) (t),tight (ah P fs) d t=tight P d t:=by
 intro d;induction d with
 |zero=>exactλ_=>rfl
 |succ d a=>intro t;unfold tight;simp only[a];rfl
def av.bytes{v V}(h:av π v V){bs}(a:v.bytes?=some bs):V=v:=by cases h<;>first|rfl|(simp[Value.bytes?]at a)
def pa{v x bs}(h:v.ofBytes bs=some x):av π x x/\∀V,av π v V->V=v:=by
 cases v<;>simp only[Value.ofBytes]at h;case bool=>refine⟨?_,λV a=>by cases a;rfl⟩;split at h<;>first|(cases h;constructor)|cases h
 case int=>refine⟨?_,λV a=>by cases a;rfl⟩;split at h<;>first|(cases h;constructor)|cases h
 case float=>refine⟨?_,λV a=>by cases a;rfl⟩;split at h<;>first|(cases h;constructor)|cases h
 case complex=>refine⟨?_,λV a=>by cases a;rfl⟩;split at h<;>first|(cases h;constructor)|cases h
 all_goals cases h
def xH(P fs){c C}(n:VsR π c C)(e):∀(f x stop) (l),seenCells (ah P fs) c e f x stop=.ok l->seenCells P C e f x stop=.ok l:=by
 intro f;induction f with
 |zero=>intro x stop l h;simp[seenCells]at h
 |succ f o=>
  intro x stop l h;unfold seenCells at h⊢;simp only[show(ah P fs).depth=P.depth from rfl,show ∀t,(ah P fs).cellsOf t=P.cellsOf t fromλ_=>rfl,show ∀t,(ah P fs).bytesOf t=P.bytesOf t fromλ_=>rfl,rW]at h;dsimp only at h⊢;split
  ·rename_i d;rw[RZ d]at h;exact h
  ·rename_i d;rw[RY d]at h
   split
   ·rename_i g;rw[RZ g]at h;cases h
   ·rename_i g;rw[RY g]at h
    split
    ·rename_i j;rw[j]at h;cases h
    ·rename_i i s j
     rw[j]at h;simp only[]at h⊢;have k:=n.get i
     revert k h
     generalize c[i]? =u;generalize C[i]? =v;intro h k;cases k with
     |none=>cases h
     | @some v V r=>
      simp only[]at h⊢;cases a:v.bytes? with
      |none=>rw[a]at h;cases h
      |some bs=>
       rw[r.bytes a,a];rw[a]at h;cases bs with
       |nil=>cases h
       |cons b bs=>
        simp only[]at h⊢;cases m:seenCells (ah P fs) c e f (s+(b::bs).length) stop with
        |error _=>rw[m]at h;cases h
        |ok p=>rw[o _ _ _ m];rw[m]at h;exact h
def BP{P fs}(i:∀r R,π r R->∃o O,w.heap[r]? =some o/\W.heap[R]? =some O/\fA S π o O)
 {a A k K} (D:aN π a A) (E:aN π k K) (u) {x} (h:w.seen (ah P fs) a u k false=.ok x):
 ∃c e f b l cs C F,x=(c,e,f,b,l,cs)/\W.seen P A u K false=.ok (C,e,F,b,l,cs)/\w.heap[a.block]? =some (.cells c e f)/\W.heap[A.block]? =some (.cells C e F)/\VsR π c C/\Ij c.size f F:=by
 cases D with
 | @mk r R o p H=>
 cases E with
 | @mk Q R' o' I J=>
 obtain⟨ob,T,m,L,M⟩:=i _ _ H;unfold World.seen at h⊢;simp only[m,uS,fQ,show(ah P fs).depth=P.depth from rfl,show ∀t,(ah P fs).cellsOf t=P.cellsOf t fromλ_=>rfl,show ∀t,(ah P fs).bytesOf t=P.bytesOf t fromλ_=>rfl]at h;simp only[L];by_cases g:(I.isSome||p.isSome)=true
 ·rw[RZ g]at h;cases h
 rw[RY g]at h⊢;cases n:plainCell P P.depth u o' with
 |none=>rw[n]at h;cases h
 |some d=>
 rw[n]at h;simp only[]at h⊢;cases q:Option.map (λx:List UInt8=>x.length) d.bytes? with
 |none=>rw[q]at h;cases h
 |some size=>
 rw[q]at h;simp only[]at h⊢;cases s:byteOfCell P P.depth u o' with
 |none=>rw[s]at h;cases h
 |some v=>
 rw[s]at h;simp only[]at h⊢;cases M with
 | @cells c C e f F y N=>
  simp only[]at h⊢;by_cases z:P.cellsOf e=0
  ·rw[RZ z]at h;cases h
  rw[RY z]at h⊢;cases j:byteOfCell P P.depth e (o%P.cellsOf e)with
  |none=>rw[j]at h;cases h
  |some B=>
  rw[j]at h;simp only[]at h⊢;cases g:seenCells (ah P fs) c e (size+1) (o/P.cellsOf e*P.bytesOf e+B+v) (o/P.cellsOf e*P.bytesOf e+B+v+size)with
  |error _=>rw[g]at h;cases h
  |ok cs=>rw[xH P fs y e _ _ _ _ g];rw[g]at h;cases h;exact⟨c,e,f,_,d,cs,C,F,rfl,rfl,m,rfl,y,N⟩
 |_=>cases h
def zU{P fs}(d:∀r R,π r R->∃o O,w.heap[r]? =some o/\W.heap[R]? =some O/\fA S π o O)
 {a A k K} (i:aN π a A) (j:aN π k K) (u) {v} {t} (h:w.viewLoad (ah P fs) a u k false=.ok (v,t)):
 ∃T,W.viewLoad P A u K false=.ok (v,T)/\av π v v/\∀X∈T,X.block=A.block:=by
 unfold World.viewLoad at h⊢;cases g:w.seen (ah P fs) a u k false with
 |error _=>rw[g]at h;cases h
 |ok x=>
  obtain⟨c,e,f,b,l,cs,C,F,rfl,m,_,_,_,_⟩:=BP d i j u g;rw[g]at h;rw[m];dsimp only[bind,Except.bind]at h⊢;split at h
  ·rename_i q n
   cases h;exact⟨_,rfl,(pa n).1,λX p=>by obtain⟨x,_,rfl⟩:=TG.1 p;rfl⟩
  ·cases h
def EL{i σ τ j:Type}{g:σ->i->Except j σ}{g':τ->i->Except j τ}{I:σ->τ->Prop}{H}(b:∀c C x c',I c C->g c x=.ok c'->∃a,g' C x=.ok a/\I c' a/\H):
 ∀(cs) {c} {C} {c'},I c C->cs.foldlM g c=.ok c'->∃a,cs.foldlM g' C=.ok a/\I c' a/\(cs=[]->a=C)/\(cs≠[]->H):=by
 intro cs;induction cs with
 |nil=>intro c C c' d h;cases h;exact⟨C,rfl,d,λ_=>rfl,λh=>absurd rfl h⟩
 |cons x cs k=>
  intro c C c' d h;simp only[List.foldlM_cons]at h⊢;cases f:g c x with
  |error e=>rw[f]at h;cases h
  |ok p=>obtain⟨q,e1,l,m⟩:=b _ _ _ _ d f;rw[f]at h;obtain⟨a,n,o,_,_⟩:=k l h;exact⟨a,by rw[e1];exact n,o,by simp,λ_=>m⟩
def xI{P fs}(m:∀r R,π r R->∃o O,w.heap[r]? =some o/\W.heap[R]? =some O/\fA S π o O)
 {a A k K} (ha:aN π a A) (hk:aN π k K) (u) {v V} (hv:av π v V) {w'} {t} (h:w.viewStore (ah P fs) a u k v false=.ok (w',t)):
 ∃c e f C F c' d T,W.viewStore P A u K V false=.ok ({W with heap:=W.heap.setIfInBounds A.block (.cells d e F)},T)/\w'={w with heap:=w.heap.setIfInBounds a.block (.cells c' e f)}/\w.heap[a.block]? =some (.cells c e f)/\W.heap[A.block]? =some (.cells C e F)/\VsR π c C/\VsR π c' d/\c'.size=c.size/\Ij c'.size f F/\(T≠[]->¬(f.1=0/\c.size<f.2))/\(T=[]->d=C)/\∀X∈T,X.block=A.block:=by
 unfold World.viewStore at h⊢;rw[EJ]at h;simp only[show(ah P fs).depth=P.depth from rfl]at h;by_cases Q:(!tight P P.depth u)=true
 ·rw[RZ Q]at h;cases h
 rw[RY Q]at h⊢;cases B:w.seen (ah P fs) a u k false with
 |error _=>rw[B]at h;cases h
 |ok x=>
  obtain⟨c,e,f,b,l,cs,C,F,rfl,g,j,D,U,Y⟩:=BP m ha hk u B;rw[B]at h;rw[g];dsimp only[bind,Except.bind,pure,Except.pure]at h⊢;cases q:v.bytes? with
  |none=>rw[q]at h;cases h
  |some bytes=>
   rw[hv.bytes q,q];rw[q]at h;dsimp only at h⊢;by_cases Z:some bytes.length≠Option.map (λx=>x.length) l.bytes?
   ·rw[RZ Z]at h;cases h
   rw[RY Z]at h⊢;split at h
   ·cases h
   rename_i c' E;generalize J:(List.foldlM _ C cs:Except String (Array Value))=X
   suffices key:∃d,X=.ok d/\(VsR π c' d/\c'.size=c.size)/\(cs=[]->d=C)/\(cs≠[]->¬(f.1=0/\c.size<f.2)) by obtain⟨d,k1,⟨k2,k3⟩,k4,k5⟩:=key;cases h;refine⟨c,e,f,C,F,c',d,cs.map λx=>{block:=A.block,off:=x.1},by rw[k1],rfl,j,D,U,k2,k3,k3▸Y,λL=>k5 (λh0=>L (by rw[h0];rfl)),λL=>k4 (List.map_eq_nil_iff.1 L),λX J=>by obtain⟨x,_,rfl⟩:=TG.1 J;rfl⟩
   rw[<-J];refine EL (I:=λy M=>VsR π y M/\y.size=c.size) (H:=¬(f.1=0/\c.size<f.2)) ?_ cs ⟨U,rfl⟩ E
   ·rintro y M ⟨i,s,bs⟩ c2 ⟨n,N⟩ h
    dsimp only at h⊢;by_cases h1:(decide (s<b)||decide (s+bs.length>b+bytes.length))=true
    ·rw[RZ h1]at h;cases h
    rw[RY h1]at h⊢;by_cases g:(decide (f.1<=i)&&decide (i<f.2))=true
    ·rw[RZ g]at h;cases h
    have p:=n.get i;cases j:y[i]? with
    |none=>rw[RY g,j]at h;cases h
    |some old=>
     rw[j]at p;have hi:=(R7.1 j).1;have D:¬(decide (F.1<=i)&&decide (i<F.2))=true:=by
      obtain rfl|⟨g1,g2,g3⟩:=Y
      ·exact g
      ·simp only[Sf,Sq]at g;omega
     rw[RY g,j]at h;rw[RY D];cases hC:M[i]? with
     |none=>rw[hC]at p;cases p
     |some aa=>
      rw[hC]at p;cases p with
      |some hr=>
      dsimp only at h⊢;cases z:old.ofBytes ((bytes.drop (s-b)).take bs.length)with
      |none=>rw[z]at h;cases h
      |some new=>rw[z]at h;have⟨p1,p2⟩:=pa (π:=π) z;rw[p2 _ hr,z];dsimp only at h⊢;cases h;refine⟨_,rfl,⟨n.set i p1,by simpa using N⟩,?_⟩;simp only[Sf,Sq]at g;omega
def rX(P w τ d a k u v m):
 (aq w τ d).viewStore P a u k v m=(w.viewStore P a u k v m).map λx=>(aq x.1 τ d,x.2):=by
 unfold World.viewStore;rw[show(aq w τ d).seen P a u k m=w.seen P a u k m from rfl];by_cases g:(!tight P P.depth u)=true
 ·rw[RZ g,RZ g];rfl
 rw[RY g,RY g];cases w.seen P a u k m with
 |error _=>rfl
 |ok x=>
  obtain⟨c,e,f,b,l,cs⟩:=x;dsimp only[bind,Except.bind,pure,Except.pure];cases v.bytes? with
  |none=>rfl
  |some bytes=>
   dsimp only;by_cases h:some bytes.length≠Option.map (λx=>x.length) l.bytes?
   ·rw[RZ h,RZ h];rfl
   rw[RY h,RY h];generalize (List.foldlM _ c cs:Except String (Array Value))=X;cases X<;>rfl
def fR(P w τ d a v m):
 (aq w τ d).farStore P a v m=(w.farStore P a v m).map λx=>(aq x.1 τ d,x.2):=by
 unfold World.farStore;rw[show(aq w τ d).heap=w.heap from rfl,show(aq w τ d).noCell a "store: no such cell" =w.noCell a "store: no such cell" from rfl];split
 ·rw[rX]
  cases w.viewStore P _ _ a v m<;>rfl
 ·rfl
end Go.Tm

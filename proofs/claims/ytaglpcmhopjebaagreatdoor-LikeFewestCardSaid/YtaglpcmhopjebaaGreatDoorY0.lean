import GoSem.Step
import Derived.RunT
set_option linter.all false
set_option maxRecDepth 100000
set_option maxHeartbeats 20000000
theorem Go.ex{α:Sort _}(e:α):∃x,x=e:=⟨_,rfl⟩
def Go.Ro:=@if_neg
def Go.Rp:=@if_pos
def Go.Rq:=@Nat.le_refl
def Go.Rr:=@Nat.le_trans
def Go.Rs:=@List.length_cons
def Go.Ru:=@Nat.lt_of_lt_of_le
def Go.Rx:=@Array.getElem?_eq_some_iff
def Go.Ry:=@Nat.lt_or_ge
def Go.Rz:=@decide_eq_false
def Go.RA:=@Nat.zero_le
def Go.RB:=@Nat.zero_add
def Go.RD:=@Bool.and_eq_true
def Go.RE:=@decide_eq_true
def Go.RF:=@List.length_nil
def Go.RG:=@if_true
def Go.RH:=@Array.getElem?_setIfInBounds_ne
def Go.RI:=@List.length_drop
def Go.RJ:=@decide_eq_true_eq
def Go.RM:=@List.length_append
def Go.RN:=@Ne.symm
def Go.RP:=@if_false
def Go.RQ:=@Bool.false_eq_true
def Go.RR:=@List.getElem_mem
def Go.RS:=@List.size_toArray
def Go.RU:=@Option.some.inj
def Go.RV:=@Array.getElem?_eq_getElem
def Go.RX:=@List.mem_cons
def Go.RY:=@List.drop_eq_nil_of_le
def Go.RZ:=@Nat.not_lt_zero
def Go.R2:=@beq_eq_false_iff_ne
def Go.R3:=@Array.size_setIfInBounds
def Go.R4:=@Option.map_eq_some_iff
def Go.R5:=@List.getElem?_eq_getElem
def Go.R6:=@congrArg
def Go.R7:=@List.take_succ_cons
def Go.R8:=@List.append_assoc
def Go.R9:=@List.length_take
def Go.Sd:=@Array.getElem?_push_size
def Go.Se:=@List.not_mem_nil
def Go.Sf:=@or_false
def Go.Sg:=@Option.some.injEq
def Go.Si:=@List.take_zero
def Go.Sj:=@List.drop_zero
def Go.Sk:=@List.drop_succ_cons
def Go.Sl:=@Option.map_some
def Go.Sm:=@List.all_eq_true
def Go.Sn:=@Array.getElem?_setIfInBounds
def Go.Sp:=@Array.getElem?_map
def Go.Sq:=@beq_iff_eq
def Go.Ss:=@List.eq_nil_of_length_eq_zero
def Go.Su:=@of_decide_eq_true
def Go.Sv:=@Array.getElem?_toList
def Go.Sw:=@Array.getD_eq_getD_getElem?
def Go.SD:=@Array.getElem?_push
def Go.SE:=@List.drop_eq_getElem_cons
def Go.SF:=@Nat.eq_zero_or_pos
def Go.SG:=@Nat.mul_one
def Go.SH:=@Array.getElem?_modify
def Go.SI:=@Array.mem_append
def Go.SJ:=@List.length_map
def Go.SK:=@Nat.not_lt
def Go.SL:=@List.length_filter_le
def Go.SM:=@Nat.add_zero
def Go.SN:=@List.mem_of_getElem?
def Go.SO:=@Array.mem_of_getElem?
def Go.SP:=@Array.append_assoc
def Go.SQ:=@Classical.byContradiction
def Go.SS:=@List.mem_toArray
def Go.SU:=@List.mem_map
def Go.SV:=@Bool.eq_iff_iff
def Go.SY:=@List.length_pos_iff
def Go.SZ:=@List.mem_iff_getElem?
def Go.S6:=@List.filter_cons
def Go.S8:=@Array.empty_append
def Go.S9:=@List.isPrefixOf_iff_prefix
def Go.Ta:=@List.any_eq_true
def Go.Tb:=@List.length_eq_zero_iff
def Go.Tc:=@List.nil_append
def Go.Td:=@List.all_cons
def Go.Te:=@Option.getD_some
def Go.Tf:=@List.contains_iff_mem
def Go.Tg:=@Array.getElem?_eq_none
def Go.Th:=@List.append_nil
def Go.Ti:=@Array.forIn_toList
def Go.Tj:=@Bool.not_true
def Go.Tk:=@Nat.le_of_eq
def Go.Tl:=@Option.bind_eq_some_iff
def Go.Tn:=@List.take_succ_eq_append_getElem
def Go.To:=@Nat.lt_succ_self
def Go.Tp:=@List.take_length
def Go.Tq:=@bne_iff_ne
def Go.Tr:=@List.flatMap_cons
def Go.Ts:=@List.getElem?_eq_some_iff
def Go.Tt:=@List.mem_append
def Go.Tu:=@Nat.add_comm
def Go.Tv:=@List.getD_eq_getElem?_getD
def Go.Tw:=@Eq.comm
def Go.Tx:=@dif_pos
def Go.Ty:=@Iff.rfl
def Go.Tz:=@ne_of_beq_false
def Go.TA:=@List.map_append
def Go.TB:=@Int.le_refl
def Go.TC:=@ByteArray.size_extract
def Go.TD:=@List.mem_singleton
def Go.TE:=@List.getElem?_map
def Go.TF:=@Option.bind_some
def Go.TG:=@Array.mem_push_of_mem
def Go.TH:=@Prod.mk.inj
def Go.TJ:=@Array.getElem?_append
def Go.TK:=@List.mem_iff_getElem
def Go.TL:=@List.filter_append
def Go.TM:=@decide_eq_false_iff_not
def Go.TN:=@List.mem_filter
def Go.TO:=@Nat.succ_pos
def Go.TP:=@List.mem_cons_self
def Go.TQ:=@List.mem_cons_of_mem
def Go.TR:=@Nat.add_assoc
def Go.TS:=@Array.append_singleton
def Go.TU:=@List.cons_append
def Go.TW:=@Bool.not_false
def Go.TX:=@Array.size_map
def Go.TY:=@Array.mem_push
def Go.TZ:=@Nat.add_mul
def Go.T1:=@List.getElem?_toArray
def Go.T2:=@List.any_eq_false
def Go.T3:=@Bool.false_ne_true
def Go.T4:=@Bool.true_and
def Go.T5:=@Bool.or_eq_true
def Go.T6:=@List.range_succ
def Go.T7:=@List.getElem?_append_left
def Go.T8:=@Array.foldl_toList
def Go.T9:=@List.flatMap_append
def Go.Ua:=@Bool.false_or
def Go.Ub:=@Array.all_eq_true'
def Go.Uc:=@List.getElem_map
def Go.Ud:=@Nat.exists_eq_add_of_le
def Go.Ue:=@Nat.lt_succ_of_lt
def Go.Uf:=@Option.ne_none_iff_exists'
def Go.Ug:=@Array.ext'
def Go.Uh:=@List.take_of_length_le
def Go.Ui:=@List.length_reverse
def Go.Uj:=@List.foldl_append
def Go.Uk:=@UInt8.toNat_inj
def Go.Ul:=@Decidable.byContradiction
def Go.Um:=@List.getElem?_drop
def Go.Un:=@Array.mem_map
def Go.Uo:=@Array.append_empty
def Go.Up:=@Nat.min_eq_left
def Go.Uq:=@List.mem_range
def Go.Ur:=@List.foldl_cons
def Go.Us:=@Nat.le_total
def Go.Ut:=@Prod.mk.injEq
def Go.Uu:=@Nat.not_le
def Go.Uv:=@Array.mem_iff_getElem?
def Go.Uw:=@List.cons.injEq
def Go.Ux:=@Nat.le_of_lt
def Go.Uy:=@Array.ext
def Go.Uz:=@Array.getElem_mem
def Go.UA:=@getElem!_pos
def Go.UB:=@Array.mem_toList_iff
def Go.UC:=@List.getElem?_take
def Go.UD:=@Array.toList_modify
def Go.UE:=@Nat.lt_trichotomy
def Go.UF:=@Array.getElem?_extract
def Go.UH:=@Array.getElem_toList
def Go.UI:=@Nat.mul_add
def Go.UJ:=@List.drop_drop
def Go.UK:=@List.ne_nil_of_mem
def Go.UL:=@Array.getElem?_replicate
def Go.UM:=@List.getElem?_append_right
def Go.UN:=@List.forIn_cons
def Go.UO:=@Std.Legacy.Range.forIn_eq_forIn_range'
def Go.UP:=@Int.toNat_natCast
def Go.UQ:=@Array.replicate_succ
def Go.UR:=@List.getElem_cons_zero
def Go.US:=@List.mem_flatMap
def Go.UT:=@List.map_cons
def Go.UU:=@List.ext_getElem
def Go.UW:=@Decidable.em
def Go.UX:=@Array.toList_push
def Go.UY:=@Array.getElem?_setIfInBounds_self_of_lt
def Go.UZ:=@List.getElem_range
def Go.U3:=@List.length_range
def Go.U4:=@List.pairwise_cons
def Go.U5:=@Array.all_append
def Go.U6:=@Array.mem_append_left
def Go.U7:=@List.drop_append_of_le_length
def Go.U8:=@List.mem_flatten
def Go.U9:=@List.eq_of_mem_replicate
def Go.Va:=@Option.any_some
def Go.Vb:=@Bool.and_eq_false_iff
def Go.Vd:=@Int.tdiv_eq_ediv_of_nonneg
def Go.Vf:=@List.findIdx?_eq_some_iff_getElem
def Go.Vg:=@List.findIdx?_eq_none_iff
def Go.Vl:=@Array.size_replicate
def Go.Vo:=@Array.toList_zipIdx
def Go.Vt:=@List.filterMap_append
def Go.Vu:=@List.getElem?_cons_zero
def Go.Vy:=@Array.toList_extract
def Go.VB:=@List.mem_append_left
def Go.VD:=@List.getLast?_append
def Go.VF:=@Array.toList_setIfInBounds
def Go.VJ:=@List.getLast?_cons_cons
def Go.VM:=@Array.mem_push_self
def Go.VT:=@Option.isSome_iff_exists
def Go.VV:=@List.flatten_append
def Go.VY:=@List.append_cancel_left_eq
def Go.VZ:=@Array.getElem?_ofFn
def Go.V5:=@Nat.mod_two_eq_zero_or_one
def Go.V8:=@List.perm_ext_iff_of_nodup
def Go.Wa:=@Array.mem_or_eq_of_mem_setIfInBounds
def Go.Wc:=@Array.eq_empty_of_size_eq_zero
def Go.Wi:=@List.length_filterMap_le
def Go.Wl:=@Array.length_toList
namespace Go.Tm
structure Ren(G:Nat) where
 rel:Nat->Nat->Prop
 fn:∀r R R',rel r R->rel r R'->R=R'
 inj:∀r r' R,rel r R->rel r' R->r=r'
 dB:∀r R,rel r R->(r<G↔R<G)
instance{G:Nat}:CoeFun (Ren G) (λ_=>Nat->Nat->Prop):=⟨Ren.rel⟩
variable {G:Nat}
def Ren.le(π a:Ren G):Prop:=∀r s,π r s->a r s
def Ren.le_refl(π:Ren G):Ren.le π π:=λ_ _ h=>h
def Ren.le_trans{a b c:Ren G}(h:Ren.le a b)(d:Ren.le b c):Ren.le a c:=λ_ _ x=>d _ _ (h _ _ x)
inductive aP(π:Ren G):Addr->Addr->Prop
 |mk {r s o:Nat} {p:Option Nat}:π r s->aP π ⟨r,o,p⟩ ⟨s,o,p⟩
def aP.mono{π b:Ren G}(l:Ren.le π b){a A}(h:aP π a A):aP b a A:=by cases h with|mk h=>exact .mk (l _ _ h)
def j8:Nat:=74
inductive FnR(π:Ren G):Fn->Fn->Prop
 |func (f):f≠j8->FnR π (.func f) (.func f)
 |yield {l L:Nat}:π l L->FnR π (.yield l) (.yield L)
def FnR.mono{π b:Ren G}(l:Ren.le π b){a A}(h:FnR π a A):FnR b a A:=by
 cases h with
 |yield h=>exact .yield (l _ _ h)
 |func f h=>exact .func f h
def dU:Value->Bool
 | .pointer (some _)| .slice (some _) _ _| .map (some _)| .chan (some _)| .iface _ _=>true
 | .func (.method _) _ _=>false
 | .func _ _ _=>true
 |_=>false
inductive az(π:Ren G):Value->Value->Prop
 |bool (b):az π (.bool b) (.bool b)
 |int (k n):az π (.int k n) (.int k n)
 |float (k b):az π (.float k b) (.float k b)
 |complex (k a b):az π (.complex k a b) (.complex k a b)
 |string (s):az π (.string s) (.string s)
 |G3:az π (.pointer none) (.pointer none)
 |ptr {a A:Addr}:aP π a A->az π (.pointer (some a)) (.pointer (some A))
 |js (l c):az π (.slice none l c) (.slice none l c)
 |slice {a A:Addr} (l c):aP π a A->az π (.slice (some a) l c) (.slice (some A) l c)
 |Jz:az π (.map none) (.map none)
 |map {r R:Nat}:π r R->az π (.map (some r)) (.map (some R))
 |Pe:az π (.chan none) (.chan none)
 |chan {r R:Nat}:π r R->az π (.chan (some r)) (.chan (some R))
 |func {fn FN:Fn} {f F c C:Array Value}:FnR π fn FN->f.size=F.size->(∀(i:Nat) x X,f[i]? =some x->F[i]? =some X->az π x X)->c.size=C.size->(∀(i:Nat) x X,c[i]? =some x->C[i]? =some X->az π x X)->az π (.func fn f c) (.func FN F C)
 |nilFunc:az π .nilFunc .nilFunc
 |iface (t) {v V:Value}:az π v V->az π (.iface t v) (.iface t V)
 |nilIface:az π .nilIface .nilIface
 |agg {c C:Array Value}:c.size=C.size->(∀(i:Nat) x X,c[i]? =some x->C[i]? =some X->az π x X)->az π (.agg c) (.agg C)
 |tuple {c C:Array Value}:c.size=C.size->(∀(i:Nat) x X,c[i]? =some x->C[i]? =some X->az π x X)->az π (.tuple c) (.tuple C)
 |lL (V):dU V=true->az π (.tuple #[]) V
 |G4 (n f c):az π (.func (.method "") #[.nilIface] #[]) (.func (.method n) f c)
def az.mono{π d:Ren G}(l:Ren.le π d){v V}(h:az π v V):az d v V:=by
 induction h with
 |ptr h=>exact .ptr (h.mono l)
 |slice a b h=>exact .slice a b (h.mono l)
 |map h=>exact .map (l _ _ h)
 |chan h=>exact .chan (l _ _ h)
 |func g i _ j _ k m=>exact .func (g.mono l) i k j m
 |iface t _ e=>exact .iface t e
 |agg s _ e=>exact .agg s e
 |tuple s _ e=>exact .tuple s e
 |lL V a=>exact .lL V a
 |G4 n f c=>exact .G4 n f c
 |_=>constructor
def aU{c d:Type}(R:c->d->Prop)(a:Array c)(b:Array d):Prop:=a.size=b.size/\∀(i:Nat) x y,a[i]? =some x->b[i]? =some y->R x y
def aU.mono{c d}{R R':c->d->Prop}{a b}(e:∀x y,R x y->R' x y)(h:aU R a b):aU R' a b:=⟨h.1,λi x y f g=>e _ _ (h.2 i x y f g)⟩
abbrev VsR(π:Ren G):Array Value->Array Value->Prop:=aU (az π)
def az.Ej{π:Ren G}{c C}(h:VsR π c C):az π (.agg c) (.agg C):=.agg h.1 h.2
def az.tuple'{π:Ren G}{c C}(h:VsR π c C):az π (.tuple c) (.tuple C):=.tuple h.1 h.2
inductive bg{α β:Type}(R:α->β->Prop):List α->List β->Prop
 |nil:bg R [] []
 |cons {x y l m}:R x y->bg R l m->bg R (x::l) (y::m)
def bg.mono{c d}{R R':c->d->Prop}(e:∀x y,R x y->R' x y){a b}(h:bg R a b):bg R' a b:=by
 induction h with
 |nil=>exact .nil
 |cons h _ f=>exact .cons (e _ _ h) f
inductive dO{α β:Type}(R:α->β->Prop):Option α->Option β->Prop
 |none:dO R none none
 |some {x y}:R x y->dO R (some x) (some y)
def dO.mono{c d}{R R':c->d->Prop}(e:∀x y,R x y->R' x y){a b}(h:dO R a b):dO R' a b:=by
 cases h with
 |none=>exact .none
 |some h=>exact .some (e _ _ h)
def bg.length{c d R}{a:List c}{b:List d}(h:bg R a b):a.length=b.length:=by
 induction h with
 |nil=>rfl
 |cons _ _ e=>simp[e]
def bg.append{e f R}{a c:List e}{b d:List f}(h:bg R a b)(g:bg R c d):bg R (a++c) (b++d):=by
 induction h with
 |nil=>exact g
 |cons x _ i=>exact .cons x i
def aU.get{d e R}{a:Array d}{b:Array e}(h:aU R a b)(i:Nat):dO R a[i]? b[i]? :=by
 obtain hi|hi:=Ry i a.size
 ·have c:=h.1▸hi
  rw[RV hi,RV c];exact .some (h.2 i _ _ (RV hi) (RV c))
 ·have c:b.size<=i:=h.1▸hi
  rw[Tg hi,Tg c];exact .none
def aU.kW{c d R}{a:Array c}{b:Array d}(h:∀i:Nat,dO R a[i]? b[i]?):aU R a b:=by
 refine⟨?_,λi x y e f=>?_⟩
 ·obtain h1|h1|h1:=UE a.size b.size
  ·have:=h a.size;rw[Tg (Rq _),RV h1]at this;cases this
  ·exact h1
  ·have:=h b.size;rw[Tg (Rq _),RV h1]at this;cases this
 ·have:=h i;rw[e,f]at this;cases this with|some r=>exact r
def aU.toList{e f R}{a:Array e}{b:Array f}(h:aU R a b):bg R a.toList b.toList:=by
 obtain⟨a⟩:=a;obtain⟨b⟩:=b;simp only[aU,RS,T1]at h⊢;obtain⟨c,d⟩:=h;induction a generalizing b with
 |nil=>cases b with|nil=>exact .nil|cons _ _=>simp at c
 |cons x a g=>
  cases b with
  |nil=>simp at c
  |cons y b=>exact .cons (d 0 x y rfl rfl) (g b (by simpa using c) λi u v j k=>d (i+1) u v (by simpa using j) (by simpa using k))
def bg.get{c d R}{a:List c}{b:List d}(h:bg R a b)(i:Nat):dO R a[i]? b[i]? :=by
 induction h generalizing i with
 |nil=>simpa using dO.none
 |cons x _ e=>cases i with
  |zero=>simpa using dO.some x
  |succ i=>simpa using e i
def bg.toArray{c d R}{a:List c}{b:List d}(h:bg R a b):aU R a.toArray b.toArray:=aU.kW λi=>by simpa using h.get i
def aU.push{c d R a b}(h:aU R a b){x:c}{y:d}(r:R x y):aU R (a.push x) (b.push y):=aU.kW λi=>by
 rw[SD,SD,h.1];split
 ·exact .some r
 ·exact h.get i
def aU.append{e f R}{a c:Array e}{b d:Array f}(h:aU R a b)(g:aU R c d):aU R (a++c) (b++d):=aU.kW λi=>by
 rw[TJ,TJ,h.1];split
 ·exact h.get i
 ·exact g.get _
def aU.set{c d R a b}(h:aU R a b)(i){x:c}{y:d}(r:R x y):aU R (a.setIfInBounds i x) (b.setIfInBounds i y):=aU.kW λj=>by
 rw[Sn,Sn,h.1];split
 ·split
  ·exact .some r
  ·exact .none
 ·exact h.get j
def aU.extract{c d R}{a:Array c}{b:Array d}(h:aU R a b)(i j):aU R (a.extract i j) (b.extract i j):=aU.kW λk=>by
 rw[UF,UF,h.1];split
 ·exact h.get _
 ·exact .none
def aU.empty{a b R}:aU R (#[]:Array a) (#[]:Array b):=⟨rfl,λi x y h=>by simp at h⟩
def aU.map{j k d e R}{S:d->e->Prop}{a b}(h:aU R a b){f:j->d}{g:k->e}(l:∀x y,R x y->S (f x) (g y)):aU S (a.map f) (b.map g):=aU.kW λi=>by
 rw[Sp,Sp];have c:=h.get i
 revert c
 generalize a[i]? =u;generalize b[i]? =v;intro c;cases c with
 |none=>exact .none
 |some r=>exact .some (l _ _ r)
def aU.refl{b}{R:b->b->Prop}{a}(h:∀x,x∈a->R x x):aU R a a:=⟨rfl,λi x y c d=>by rw[c]at d;cases d;exact h x (SO c)⟩
end Go.Tm
namespace Go.Tm
variable {G:Nat}
structure iv(π:Ren G)(e E:MapEntry):Prop where
 key:az π e.key E.key
 val:az π e.val E.val
 born:e.born=E.born
inductive JA(π:Ren G):Target->Target->Prop
 |fn {f F:Fn} {c C:Array Value}:FnR π f F->VsR π c C->JA π (.fn f c) (.fn F C)
 |nil:JA π .nil .nil
 |builtin (b ts t cs):JA π (.builtin b ts t cs) (.builtin b ts t cs)
 |collected {r R:Nat}:π r R->JA π (.collected r) (.collected R)
structure Rn(π:Ren G)(d D:Deferred):Prop where
 target:JA π d.target D.target
 args:VsR π d.args D.args
inductive oY(π:Ren G):Deferred->Deferred->Prop
 |mk {r R:Nat}:π r R->oY π ⟨.collected r,#[]⟩ ⟨.collected R,#[]⟩
def fI:Value->Bool
 | .bool _| .int .. | .float .. | .complex .. | .string _| .pointer none| .slice none _ _| .map none| .chan none| .nilFunc| .nilIface=>true
 | .tuple c=>c.isEmpty
 |_=>false
def Gn:Question->Bool
 | .order _ _=>true
 |_=>false
def JB{q}(h:Gn q=false)(f id):q≠ .order f id:=λe=>by rw[e]at h;cases h
structure Kn where
 dB:Nat->Bool
 ent:Nat->Bool
 stop:Nat->Bool
 own:Nat->Bool
def Kn.free(S:Kn)(q:Question):Prop:=∀f a,q=.order f a->S.own f=false
def Kn.fJ(S:Kn)(g:Question->Nat):Prop:=∀f a,S.own f=true->g (.order f a)=0
def Kn.calm(S:Kn)(g:Question->Nat):Prop:=∀f a,S.ent f=true->S.own f=true->g (.order f a)=0
noncomputable def only(q:Question)(n:Nat):Question->Nat:=open Classical in λa=>if a=q then n else 0
def rY(q n):only q n q=n:=Rp rfl
def yn{S:Kn}{q}(h:S.free q)(n):S.fJ (only q n):=λf b a=>by unfold only;refine Ro λe=>?_;rw[h f b e.symm]at a;cases a
def Ek{S:Kn}{f:FuncId}(h:S.ent f=true){g}(c:S.calm g)(a):S.fJ (only (.order f a) (g (.order f a))):=λd b i=>by
 unfold only;by_cases e:Question.order d b=.order f a
 ·rw[Rp e]
  cases e;exact c f a h i
 ·exact Ro e
def lM{S:Kn}:S.fJ (λ_=>0):=λ_ _ _=>rfl
def cZ(S:Kn):Operand->Bool
 | .tmp _=>true
 | .func f=>f !=j8
 | .const v=>fI v
 | .global g=>S.dB g
def rZ:Builtin->Bool
 | .append| .cap| .copy| .len| .max| .min| .unsafeSliceData| .unsafeString| .panic=>true
 |_=>false
def lN(S:Kn):Op->Bool
 | .call ⟨.value (.func f),args,_⟩=>f==j8&&args.size==1&&args.all (cZ S)
 |_=>false
def Bg(S:Kn)(o:Op):Bool:=
 lN S o||(match o with
 | .move _| .assign _| .pick .. | .alloc _| .box .. | .build .. | .buildSlice .. | .insert .. | .load .. | .store .. | .nilCheck _| .binOp .. | .unOp .. | .convert .. | .makeInterface .. | .makeMap .. | .makeSlice .. | .slice ..
 | .fieldAddr .. | .field .. | .indexAddr .. | .index .. | .lookup .. | .mapUpdate .. | .mapEntry .. | .entryStore .. | .range .. | .next .. | .entry _| .extract .. | .panic _=>true
 | .makeFunc (.func f) _ _=>f !=j8
 | .call ⟨.value _,_,_⟩=>true
 | .call ⟨.builtin b,_,_⟩=>rZ b
 |_=>false)&&o.operands.all (cZ S)
def codeOk(S:Kn):Code->Bool
 | .skip| .exit _| .label _| .goto _| .ret| .refuse _=>true
 | .region _ ops _=>ops.all λo=>Bg S o.op
 | .seq a b=>codeOk S a&&codeOk S b
 | .cond c a b=>cZ S c&&codeOk S a&&codeOk S b
 | .block _ b| .loop b| .scope b=>codeOk S b
 | .rangeFunc f _ a b=>cZ S f&&codeOk S a&&codeOk S b
def Kn.code(S:Kn)(c:Code):Prop:=codeOk S c=true
structure Bh(S:Kn)(π:Ren G)(l L:Loop):Prop where
 state:l.state=L.state
 pending:l.pending=L.pending
 QR:∀c,l.pending=some c->S.code c
 fn:l.fn=L.fn
 ent:S.ent l.fn=true
 tmps:VsR π l.tmps L.tmps
 params:l.params=L.params
 assign:l.assign=L.assign
 Pf:S.code l.assign
 body:l.body=L.body
 Pg:S.code l.body
 defers:π l.defers L.defers
def G5(n:Nat)(f F:Nat×Nat):Prop:=F=f\/(f.1=0/\n<f.2/\F.2<=f.2)
def grow(f:Nat×Nat)(a n:Nat):Nat×Nat:=if f.1==f.2 then(a,a+n)else(min f.1 a,max f.2 (a+n))
def Fle(f F:Nat×Nat):Prop:=F=f\/(F.1<F.2/\(f.1=f.2\/(F.1<=f.1/\f.2<=F.2)))
def Fle.refl(f):Fle f f:=.inl rfl
def Fle.trans{a b c}(h:Fle a b)(e:Fle b c):Fle a c:=by
 obtain rfl|⟨f,h2⟩:=h
 ·exact e
 ·obtain rfl|⟨g,d⟩:=e
  ·exact .inr ⟨f,h2⟩
  ·refine .inr ⟨g,?_⟩
   obtain h2|h2:=h2
   ·exact .inl h2
   ·rcases d with d|d<;>omega
def Fle.back{a b}(h:Fle a b)(c:Fle b a):b=a:=by
 obtain h|⟨d,e⟩:=h
 ·exact h
 ·obtain c|⟨f,g⟩:=c
  ·exact c.symm
  ·have:b.1=a.1/\b.2=a.2:=by omega
   exact Prod.ext this.1 this.2
def JC(f a n)(b:n≠0):Fle f (grow f a n):=by
 unfold grow;by_cases h:f.1=f.2
 ·rw[Rp (by simpa using h)];exact .inr ⟨by simp;omega,.inl h⟩
 ·rw[Ro (by simpa using h)];exact .inr ⟨by simp;omega,.inr (by simp;omega)⟩
inductive fA(S:Kn)(π:Ren G):Obj->Obj->Prop
 |cells {c C:Array Value} (e:TypeId) {f F:Nat×Nat}:VsR π c C->G5 c.size f F->fA S π (.cells c e f) (.cells C e F)
 |map {es ES:Array MapEntry} (n:Nat):aU (iv π) es ES->fA S π (.map es n) (.map ES n)
 |stringIter (s p):fA S π (.stringIter s p) (.stringIter s p)
 |eX (a b c):fA S π (.mapIter none a b c) (.mapIter none a b c)
 |mapIter {m M:Nat} (a b c):π m M->fA S π (.mapIter (some m) a b c) (.mapIter (some M) a b c)
 |loop {l L:Loop}:Bh S π l L->fA S π (.loop l) (.loop L)
 |deferred:fA S π (.deferred (some [])) (.deferred (some []))
 |eu:fA S π (.deferred none) (.deferred none)
 |number {a A:Addr} (l:Bool):aP π a A->fA S π (.number a l) (.number A l)
 |view {a A:Addr} (t:TypeId):aP π a A->fA S π (.view a t) (.view A t)
section mono
variable {S:Kn} {π π':Ren G} (l:Ren.le π π')
include l
def VsR.mono{c C:Array Value}(h:VsR π c C):VsR π' c C:=aU.mono (λ_ _ x=>x.mono l) h
def iv.mono{e E:MapEntry}(h:iv π e E):iv π' e E:=⟨h.key.mono l,h.val.mono l,h.born⟩
def oY.mono{e E:Deferred}(h:oY π e E):oY π' e E:=by cases h with|mk a=>exact .mk (l _ _ a)
def Bh.mono{e E:Loop}(h:Bh S π e E):Bh S π' e E:={h with tmps:=VsR.mono l h.tmps,defers:=l _ _ h.defers}
def fA.mono{o O:Obj}(h:fA S π o O):fA S π' o O:=by
 cases h with
 |cells e h f=>exact .cells e (VsR.mono l h) f
 |map n h=>exact .map n (aU.mono (λ_ _ x=>x.mono l) h)
 |stringIter=>exact .stringIter _ _
 |eX=>exact .eX _ _ _
 |mapIter a b c h=>exact .mapIter a b c (l _ _ h)
 |loop h=>exact .loop (h.mono l)
 |deferred=>exact .deferred
 |eu=>exact .eu
 |number b h=>exact .number b (h.mono l)
 |view t h=>exact .view t (h.mono l)
end mono
structure bj(S:Kn)(Pr:Nat->Prop)(π:Ren G)(w W:World):Prop where
 obj:∀r R,π r R->∃o O,w.heap[r]? =some o/\W.heap[R]? =some O/\fA S π o O
 uf:∀r R,π r R->Pr R->∃c e f,w.heap[r]? =some (.cells c e f)/\f.1=0/\c.size<f.2
 uR:∀R,Pr R->R<W.heap.size
 gw:G<=w.heap.size
 gW:G<=W.heap.size
def av(w:World)(τ:Nat->Question->Nat)(d:Nat):World:={w with tape:=τ,drawn:=d}
def Fits(τ:Nat->Question->Nat)(d:Nat)(l:List (Question->Nat)):Prop:=∀i g,l[i]? =some g->τ (d+i)=g
def Fits.head{τ d g l}(h:Fits τ d (g::l)):τ d=g:=h 0 g rfl
def Fits.tail{τ d g l}(h:Fits τ d (g::l)):Fits τ (d+1) l:=λi g' a=>by have:=h (i+1) g' (by simpa using a);rw[show d+1+i=d+(i+1) by omega];exact this
def kX(d:Nat)(l:List (Question->Nat)):Nat->Question->Nat:=λn=>(l[n-d]?).getD λ_=>0
def kG(d l):Fits (kX d l) d l:=λi g h=>by unfold kX;rw[show d+i-d=i by omega,h];rfl
structure Chg(Pr:Nat->Prop)(π:Ren G)(W W':World)(π':Ren G):Prop where
 os:W'.os=W.os
 tape:W'.tape=W.tape
 output:W'.output=W.output
 size:W.heap.size<=W'.heap.size
 keep:∀b,b<W.heap.size->(¬∃r,π r b)->W'.heap[b]? =W.heap[b]?
 nu:∀b,Pr b->∀c e F,W.heap[b]? =some (Obj.cells c e F)->∃F',W'.heap[b]? =some (Obj.cells c e F')
 fz:∀(b:Nat) c e F,W.heap[b]? =some (Obj.cells c e F)->∃c' F',W'.heap[b]? =some (Obj.cells c' e F')/\Fle F F'
 old:∀r R,π' r R->π r R\/W.heap.size<=R
 new:∀R,W.heap.size<=R->R<W'.heap.size->∃r,π' r R
 le:Ren.le π π'
def Chg.refl(Pr)(π:Ren G)(W):Chg Pr π W W π:=⟨rfl,rfl,rfl,Rq _,λ_ _ _=>rfl,λ_ _ _ _ F h=>⟨F,h⟩,λ_ c _ F h=>⟨c,F,h,.refl _⟩,λ_ _ h=>.inl h,λ_ a b=>absurd b (SK.2 a),λ_ _ h=>h⟩
def Chg.trans{Pr}{π π' π'':Ren G}{W j g}(h:Chg Pr π W j π')(d:Chg Pr π' j g π''):Chg Pr π W g π'':=by
 refine⟨d.os.trans h.os,d.tape.trans h.tape,d.output.trans h.output,Rr h.size d.size,λb f q=>?_,λb f c e F k=>?_,λb c e F k=>?_,λr R i=>?_,λR a b=>?_,Ren.le_trans h.le d.le⟩
 ·rw[d.keep b (Ru f h.size) ?_,h.keep b f q]
  exactλ⟨r,i⟩=>(h.old r b i).elim (λx=>q ⟨r,x⟩) λx=>absurd f (SK.2 x)
 ·obtain⟨m,n⟩:=h.nu b f c e F k
  exact d.nu b f c e m n
 ·obtain⟨c',m,n,s⟩:=h.fz b c e F k
  obtain⟨o,p,t,u⟩:=d.fz b c' e m n;exact⟨o,p,t,s.trans u⟩
 ·obtain x|x:=d.old r R i
  ·exact h.old r R x
  ·exact .inr (Rr h.size x)
 ·obtain x|x:=Ry R j.heap.size
  ·obtain⟨r,i⟩:=h.new R a x;exact⟨r,d.le _ _ i⟩
  ·exact d.new R x b
def kE(Pr:Nat->Prop)(π:Ren G)(e:Event):Prop:=
 match e.loc with
 | .cell A=>e.sync=false/\(∃r,π r A.block)/\(e.write=true->¬Pr A.block)
 | .obj R=>e.sync=false/\(∃r,π r R)/\(e.write=true->¬Pr R)
 | .mark (.extern _)=>True
 | .mark .noRoom=>True
 |_=>False
def kE.mono{Pr}{π π':Ren G}(l:Ren.le π π'){e}(h:kE Pr π e):kE Pr π' e:=by
 unfold kE at*;split<;>simp_all
 ·obtain⟨_,⟨r,a⟩,_⟩:=h;exact⟨r,l _ _ a⟩
 ·obtain⟨_,⟨r,a⟩,_⟩:=h;exact⟨r,l _ _ a⟩
def gl:Halt->Prop
 | .panic _| .stuck _=>True
 | .unsupported (.initOrder _)=>False
 | .unsupported _=>True
 |_=>False
def nv(w w':World):Prop:=∀(r:Nat) (o:Obj),w.heap[r]? =some o->w'.heap[r]? =some o
def nv.refl(w):nv w w:=λ_ _ h=>h
def nv.trans{a b c}(h:nv a b)(d:nv b c):nv a c:=λr o x=>d r o (h r o x)
def cP{c}(s:Sem c):Prop:=∀(P:Program) (w:World) (es:Array Event),(∃a w' b,s.runT P w es=(.ok a w',b)/\nv w w')\/∃h w' b,s.runT P w es=(.halt h w',b)/\gl h/\nv w w'
def dJ{b}(s:Sem b):Prop:=∀(P:Program) (w:World) (es:Array Event),∃h w' a,s.runT P w es=(.halt h w',a)/\gl h/\nv w w'
def dJ.halt{a:Type}(h:Halt)(b:gl h:=by exact True.intro):dJ (Sem.halt h:Sem a):=λ_ w es=>⟨h,w,es,rfl,b,.refl _⟩
def runT_bind'{e g}(P)(f:e->Sem g)(s:Sem e):∀(w) (es),(∃a w' d,s.runT P w es=(.ok a w',d)/\(s.bind f).runT P w es=(f a).runT P w' d)\/(∃h w' d,s.runT P w es=(.halt h w',d)/\(s.bind f).runT P w es=(.halt h w',d)):=by
 induction s with
 |pure a=>exactλw es=>.inl ⟨a,w,es,rfl,rfl⟩
 |load m a k b=>
  intro w es;simp only[Sem.bind,Sem.runT];cases w.cell? a with
  |some v=>exact b v w _
  |none=>
   simp only[];cases w.farLoad P a (m== .atomic)with
   |ok r=>exact b r.1 w _
   |error h=>exact .inr ⟨h,w,es,rfl,rfl⟩
 |store m a v k b=>
  intro w es;cases v with
  |agg=>exact .inr ⟨_,w,es,rfl,rfl⟩
  |tuple=>exact .inr ⟨_,w,es,rfl,rfl⟩
  |_=>
   simp only[Sem.bind,Sem.runT];cases w.cell? a with
   |some v=>
    simp only[];split
    ·exact .inr ⟨_,w,es,rfl,rfl⟩
    ·exact b _ _
   |none=>
    simp only[];split
    ·exact b _ _
    ·exact .inr ⟨_,w,es,rfl,rfl⟩
 |new o k b=>exactλw es=>b _ _ _
 |shape r k b=>exactλw es=>b _ _ _
 |freeze a n k b=>exactλw es=>b _ _
 |frozen a k b=>exactλw es=>b _ _ _
 |getObj r k b=>
  intro w es;simp only[Sem.bind,Sem.runT];split
  ·exact .inr ⟨_,w,es,rfl,rfl⟩
  ·exact b _ _ _
  ·exact .inr ⟨_,w,es,rfl,rfl⟩
 |setObj r o k b=>
  intro w es;simp only[Sem.bind,Sem.runT];split
  ·exact .inr ⟨_,w,es,rfl,rfl⟩
  ·exact b _ _
  ·exact .inr ⟨_,w,es,rfl,rfl⟩
 |choose q k b=>
  intro w es;simp only[Sem.bind,Sem.runT];split
  ·exact b _ _ _
  ·exact b _ _ _
 |sys c k b=>exactλw es=>b _ _ _
 |program k b=>exactλw es=>b _ _ _
 |mark m k b=>exactλw es=>b _ _
 |halt h=>exactλw es=>.inr ⟨h,w,es,rfl,rfl⟩
def ew{p q}(s)(f:p->Sem q)(c:dJ s\/(cP s/\∀a,dJ (f a))):dJ (s>>= f):=by
 show dJ (s.bind f);intro P w es;obtain⟨a,w1,e,d,m⟩|⟨h,w1,e,d,m⟩:=runT_bind' P f s w es
 ·rw[m]
  obtain c|⟨n,c⟩:=c
  ·obtain⟨h,w2,b,g,_⟩:=c P w es
   rw[d]at g;simp at g
  ·obtain⟨h,w3,o,r,i,j⟩:=c a P w1 e
   obtain⟨t,w2,b,g,k⟩|⟨h,w2,b,g,_⟩:=n P w es
   ·rw[d]at g;cases g
    exact⟨h,w3,o,r,i,k.trans j⟩
   ·rw[d]at g;simp at g
 ·rw[m]
  obtain c|⟨n,c⟩:=c
  ·obtain⟨u,w2,b,g,i,j⟩:=c P w es
   rw[d]at g;cases g;exact⟨_,_,_,rfl,i,j⟩
  ·obtain⟨t,w2,b,g,k⟩|⟨u,w2,b,g,i,j⟩:=n P w es
   ·rw[d]at g;simp at g
   ·rw[d]at g;cases g
    exact⟨_,_,_,rfl,i,j⟩
def dJ.Ph{a}{s:Sem a}(h:dJ s):cP s:=λP w es=>.inr (h P w es)
def cP.bind{q r s}{f:q->Sem r}(h:cP s)(t:∀a,cP (f a)):cP (s>>= f):=by
 show cP (s.bind f);intro P w es;obtain⟨a,w1,e,i,m⟩|⟨v,w1,e,i,m⟩:=runT_bind' P f s w es
 ·rw[m]
  obtain⟨u,w2,c,g,k⟩|⟨n,w2,c,g,_⟩:=h P w es
  ·rw[i]at g;cases g
   obtain⟨b,w3,d,o,j⟩|⟨n,w3,d,o,j,p⟩:=t a P w1 e
   ·exact .inl ⟨b,w3,d,o,k.trans j⟩
   ·exact .inr ⟨n,w3,d,o,j,k.trans p⟩
  ·rw[i]at g;simp at g
 ·rw[m]
  obtain⟨u,w2,c,g,k⟩|⟨n,w2,c,g,j,p⟩:=h P w es
  ·rw[i]at g;simp at g
  ·rw[i]at g;cases g
   exact .inr ⟨_,_,_,rfl,j,p⟩
def cP.pure{b}(a):cP (Pure.pure a:Sem b):=λ_ w es=>.inl ⟨a,w,es,rfl,.refl _⟩
def cP.ite{a c}[Decidable c]{s t:Sem a}(h:cP s)(b:cP t):cP (if c then s else t):=by split<;>assumption
def cP.stuck{a}(m):cP (Go.stuck m:Sem a):=(dJ.halt _).Ph
def cP.unsupported{a:Type}(u:Unsupported)(h:gl (.unsupported u):=by exact True.intro):cP (Go.unsupported u:Sem a):=(dJ.halt _ h).Ph
def cP.program:cP Go.program:=λP w es=>.inl ⟨P,w,es,rfl,.refl _⟩
def cP.choose(q):cP (Go.choose q):=by
 intro P w es;by_cases h:q.forced=true
 ·exact .inl ⟨0,w,es,by simp[Go.choose,Sem.runT,h],.refl _⟩
 ·exact .inl ⟨_,{w with drawn:=w.drawn+1},es,by simp[Go.choose,Sem.runT,h];rfl,λ_ _ h=>h⟩
def cP.shape(r):cP (Go.shape r):=λ_ w es=>.inl ⟨_,w,es,rfl,.refl _⟩
def cP.frozen(a):cP (Go.frozen a):=λ_ w es=>.inl ⟨_,w,es,rfl,.refl _⟩
def cP.mark(m):cP (Go.mark m):=λ_ w _=>.inl ⟨_,w,_,rfl,.refl _⟩
def cP.newObj(o):cP (Go.newObj o):=λ_ w es=>.inl ⟨_,_,es,rfl,λr x h=>by have:=(Rx.1 h).1;simp only[SD];rw[Ro (by omega)];exact h⟩
def JD{e}(a:Ask e):∀w:World,(w.ask a).2.heap=w.heap:=by
 induction a with
 |done a=>exactλ_=>rfl
 |ask c b k d=>
  intro w;simp only[World.ask];split
  ·exact d _ _
  ·exact(d _ _).trans rfl
def JE(w:World)(c):(w.sys c).2.heap=w.heap:=by
 unfold World.sys;have:=JD (Kernel.perform c w.os) w;split
 ·rfl
 ·rename_i h;rw[h]at this;exact this
def cP.sys(c):cP (Go.sys c):=λ_ w es=>.inl ⟨_,(w.sys c).2,_,rfl,λr x h=>by rw[JE];exact h⟩
inductive SR(S:Kn)(PS P:Program){α β:Type}(Q:Ren G->α->β->Prop):Ren G->Sem α->Sem β->Prop
 |pure {π a b}:Q π a b->SR S PS P Q π (.pure a) (.pure b)
 |load {π a A k K}:aP π a A->(∀v V,az π v V->SR S PS P Q π (k v) (K V))->SR S PS P Q π (.load .plain a k) (.load .plain A K)
 |store {π a A v V k K}:aP π a A->az π v V->SR S PS P Q π k K->SR S PS P Q π (.store .plain a v k) (.store .plain A V K)
 |new {π o O k K}:fA S π o O->(∀π' r R,Ren.le π π'->π' r R->SR S PS P Q π' (k r) (K R))->SR S PS P Q π (.new o k) (.new O K)
 |shape {π r R k K}:π r R->(∀s,SR S PS P Q π (k s) (K s))->SR S PS P Q π (.shape r k) (.shape R K)
 |freeze {π a A n k K}:aP π a A->SR S PS P Q π k K->SR S PS P Q π (.freeze a n k) (.freeze A n K)
 |frozen {π a A k K}:aP π a A->(∀b B:Bool,(B=true->b=true)->SR S PS P Q π (k b) (K B))->SR S PS P Q π (.frozen a k) (.frozen A K)
 |getObj {π r R k K}:π r R->(∀o O,fA S π o O->SR S PS P Q π (k o) (K O))->SR S PS P Q π (.getObj r k) (.getObj R K)
 |setObj {π r R o O k K}:π r R->(∀c e f,o≠ .cells c e f)->fA S π o O->SR S PS P Q π k K->SR S PS P Q π (.setObj r o k) (.setObj R O K)
 |choose {π q k K}:S.free q->(∀n,SR S PS P Q π (k n) (K n))->SR S PS P Q π (.choose q k) (.choose q K)
 |program {π k K}:SR S PS P Q π (k PS) (K P)->SR S PS P Q π (.program k) (.program K)
 |lO {π k s'}:SR S PS P Q π (k PS) s'->SR S PS P Q π (.program k) s'
 |extern {π f k K}:SR S PS P Q π k K->SR S PS P Q π (.mark (.extern f) k) (.mark (.extern f) K)
 |noRoom {π k K}:SR S PS P Q π k K->SR S PS P Q π (.mark .noRoom k) (.mark .noRoom K)
 |mo {π q k s' n} (t:Nat):S.free q->(if q.forced then n=0 else q.cut t=n)->SR S PS P Q π (k n) s'->SR S PS P Q π (.choose q k) s'
 |se {π s r K}:(∀x,SR S PS P Q π s (K x))->SR S PS P Q π s (.shape r K)
 |oE {π s a K}:(∀x,SR S PS P Q π s (K x))->SR S PS P Q π s (.frozen a K)
 |never {π s s'}:dJ s->SR S PS P Q π s s'
def SR.bind{S i P k m p u Q₁ Q}{π:Ren G}{s s'}{f:k->Sem p}{F:m->Sem u}
 (h:SR S i P Q₁ π s s') (d:∀π',Ren.le π π'->∀a b,Q₁ π' a b->SR S i P Q π' (f a) (F b)):SR S i P Q π (s>>= f) (s'>>= F):=by
 show SR S i P Q π (s.bind f) (s'.bind F);induction h with
 |pure q=>exact d _ (Ren.le_refl _) _ _ q
 |load a _ c=>exact .load a λv V w=>c v V w d
 |store a v _ c=>exact .store a v (c d)
 |new o _ c=>exact .new o λπ' r R l x=>c π' r R l x λg y=>d g (Ren.le_trans l y)
 |shape r _ c=>exact .shape r λs=>c s d
 |freeze a _ c=>exact .freeze a (c d)
 |frozen a _ c=>exact .frozen a λb B x=>c b B x d
 |getObj r _ c=>exact .getObj r λo O x=>c o O x d
 |setObj r n o _ c=>exact .setObj r n o (c d)
 |choose j _ c=>exact .choose j λn=>c n d
 |program _ c=>exact .program (c d)
 |lO _ c=>exact .lO (c d)
 |extern _ c=>exact .extern (c d)
 |noRoom _ c=>exact .noRoom (c d)
 |mo t j e _ c=>exact .mo t j e (c d)
 |se _ c=>exact .se λx=>c x d
 |oE _ c=>exact .oE λx=>c x d
 |never n=>exact .never (ew _ _ (.inl n))
def SR.mono{S i P j k Q Q'}{π:Ren G}{s:Sem j}{s':Sem k}
 (h:SR S i P Q π s s') (d:∀π',Ren.le π π'->∀a b,Q π' a b->Q' π' a b):SR S i P Q' π s s':=by
 induction h with
 |pure q=>exact .pure (d _ (Ren.le_refl _) _ _ q)
 |load a _ c=>exact .load a λv V m=>c v V m d
 |store a v _ c=>exact .store a v (c d)
 |new o _ c=>exact .new o λπ' r R l x=>c π' r R l x λf p=>d f (Ren.le_trans l p)
 |shape r _ c=>exact .shape r λs=>c s d
 |freeze a _ c=>exact .freeze a (c d)
 |frozen a _ c=>exact .frozen a λb B x=>c b B x d
 |getObj r _ c=>exact .getObj r λo O x=>c o O x d
 |setObj r n o _ c=>exact .setObj r n o (c d)
 |choose g _ c=>exact .choose g λn=>c n d
 |program _ c=>exact .program (c d)
 |lO _ c=>exact .lO (c d)
 |extern _ c=>exact .extern (c d)
 |noRoom _ c=>exact .noRoom (c d)
 |mo t g e _ c=>exact .mo t g e (c d)
 |se _ c=>exact .se λx=>c x d
 |oE _ c=>exact .oE λx=>c x d
 |never n=>exact .never n
end Go.Tm

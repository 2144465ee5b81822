import GoSem.Step
import Derived.RunT
set_option linter.all false
set_option maxRecDepth 100000
set_option maxHeartbeats 20000000
theorem Go.ex{α:Sort _}(e:α):∃x,x=e:=⟨_,rfl⟩
def Go.Rm:=@if_neg
def Go.Rn:=@if_pos
def Go.Ro:=@Nat.le_refl
def Go.Rp:=@Nat.le_trans
def Go.Rq:=@List.length_cons
def Go.Rr:=@decide_eq_false
def Go.Rs:=@Nat.lt_of_lt_of_le
def Go.Rv:=@Nat.lt_or_ge
def Go.Rx:=@Array.getElem?_eq_some_iff
def Go.Ry:=@decide_eq_true
def Go.Rz:=@Nat.zero_le
def Go.RA:=@Nat.zero_add
def Go.RB:=@List.length_drop
def Go.RD:=@Bool.and_eq_true
def Go.RE:=@List.length_nil
def Go.RF:=@if_true
def Go.RG:=@Array.getElem?_setIfInBounds_ne
def Go.RH:=@List.length_append
def Go.RI:=@decide_eq_true_eq
def Go.RJ:=@Ne.symm
def Go.RM:=@if_false
def Go.RN:=@List.getElem_mem
def Go.RP:=@Bool.false_eq_true
def Go.RQ:=@List.size_toArray
def Go.RR:=@List.drop_eq_nil_of_le
def Go.RS:=@Option.some.inj
def Go.RU:=@Array.getElem?_eq_getElem
def Go.RV:=@beq_eq_false_iff_ne
def Go.RX:=@List.mem_cons
def Go.RY:=@Nat.not_lt_zero
def Go.RZ:=@Array.size_setIfInBounds
def Go.R2:=@Option.map_eq_some_iff
def Go.R3:=@congrArg
def Go.R4:=@List.append_assoc
def Go.R5:=@List.length_take
def Go.R6:=@List.all_eq_true
def Go.R7:=@List.take_succ_cons
def Go.R8:=@Array.getElem?_push_size
def Go.R9:=@List.not_mem_nil
def Go.Sd:=@or_false
def Go.Se:=@Option.some.injEq
def Go.Sf:=@beq_iff_eq
def Go.Sg:=@List.take_zero
def Go.Si:=@List.drop_zero
def Go.Sj:=@List.drop_succ_cons
def Go.Sk:=@Option.map_some
def Go.Sl:=@Array.getElem?_setIfInBounds
def Go.Sm:=@Array.getElem?_map
def Go.Sn:=@List.getElem?_eq_getElem
def Go.Sp:=@of_decide_eq_true
def Go.Sq:=@Nat.add_zero
def Go.Ss:=@List.eq_nil_of_length_eq_zero
def Go.Su:=@Array.getElem?_toList
def Go.Sv:=@Array.getD_eq_getD_getElem?
def Go.Sw:=@Array.getElem?_push
def Go.SD:=@List.drop_eq_getElem_cons
def Go.SE:=@Nat.eq_zero_or_pos
def Go.SF:=@Array.getElem?_modify
def Go.SG:=@Array.mem_append
def Go.SH:=@List.length_map
def Go.SI:=@Nat.not_lt
def Go.SJ:=@List.length_filter_le
def Go.SK:=@Nat.mul_one
def Go.SL:=@List.mem_of_getElem?
def Go.SM:=@Array.mem_of_getElem?
def Go.SN:=@Array.append_assoc
def Go.SO:=@Classical.byContradiction
def Go.SP:=@List.mem_toArray
def Go.SQ:=@List.mem_map
def Go.SS:=@Bool.eq_iff_iff
def Go.SU:=@List.length_pos_iff
def Go.SV:=@List.mem_iff_getElem?
def Go.SY:=@List.filter_cons
def Go.SZ:=@Array.empty_append
def Go.S6:=@List.isPrefixOf_iff_prefix
def Go.S8:=@List.any_eq_true
def Go.S9:=@List.append_nil
def Go.Ta:=@List.length_eq_zero_iff
def Go.Tb:=@List.nil_append
def Go.Tc:=@List.all_cons
def Go.Td:=@Option.getD_some
def Go.Te:=@List.contains_iff_mem
def Go.Tf:=@Array.getElem?_eq_none
def Go.Tg:=@List.take_length
def Go.Th:=@bne_iff_ne
def Go.Ti:=@Array.forIn_toList
def Go.Tj:=@ByteArray.size_extract
def Go.Tk:=@Bool.not_true
def Go.Tl:=@Nat.le_of_eq
def Go.Tn:=@List.take_succ_eq_append_getElem
def Go.To:=@Nat.lt_succ_self
def Go.Tp:=@List.flatMap_cons
def Go.Tq:=@List.getElem?_eq_some_iff
def Go.Tr:=@List.mem_append
def Go.Ts:=@Nat.add_comm
def Go.Tt:=@Eq.comm
def Go.Tu:=@dif_pos
def Go.Tv:=@Iff.rfl
def Go.Tw:=@Option.bind_eq_some_iff
def Go.Tx:=@ne_of_beq_false
def Go.Ty:=@List.mem_iff_getElem
def Go.Tz:=@List.map_append
def Go.TA:=@Int.le_refl
def Go.TB:=@List.mem_singleton
def Go.TC:=@List.getElem?_map
def Go.TD:=@Option.bind_some
def Go.TE:=@Array.mem_push_of_mem
def Go.TF:=@Prod.mk.inj
def Go.TG:=@Array.getElem?_append
def Go.TH:=@List.filter_append
def Go.TJ:=@decide_eq_false_iff_not
def Go.TK:=@List.mem_filter
def Go.TL:=@Nat.succ_pos
def Go.TM:=@List.mem_cons_self
def Go.TN:=@List.mem_cons_of_mem
def Go.TO:=@Nat.add_assoc
def Go.TP:=@Array.append_singleton
def Go.TQ:=@List.cons_append
def Go.TR:=@Bool.not_false
def Go.TS:=@Array.size_map
def Go.TU:=@Array.mem_push
def Go.TW:=@Nat.add_mul
def Go.TX:=@List.getElem?_toArray
def Go.TY:=@List.any_eq_false
def Go.TZ:=@Bool.false_ne_true
def Go.T1:=@Bool.true_and
def Go.T2:=@Bool.or_eq_true
def Go.T3:=@List.range_succ
def Go.T4:=@UInt8.toNat_inj
def Go.T5:=@List.getElem?_append_left
def Go.T6:=@Array.foldl_toList
def Go.T7:=@List.flatMap_append
def Go.T8:=@List.getD_eq_getElem?_getD
def Go.T9:=@Bool.false_or
def Go.Ua:=@Array.all_eq_true'
def Go.Ub:=@List.getElem_map
def Go.Uc:=@Nat.exists_eq_add_of_le
def Go.Ud:=@Nat.lt_succ_of_lt
def Go.Ue:=@Option.ne_none_iff_exists'
def Go.Uf:=@Array.ext'
def Go.Ug:=@Nat.zero_mul
def Go.Uh:=@List.take_of_length_le
def Go.Ui:=@List.length_reverse
def Go.Uj:=@List.foldl_append
def Go.Uk:=@Decidable.byContradiction
def Go.Ul:=@List.getElem?_drop
def Go.Um:=@Array.mem_map
def Go.Un:=@Array.append_empty
def Go.Uo:=@Nat.min_eq_left
def Go.Up:=@List.mem_range
def Go.Uq:=@List.foldl_cons
def Go.Ur:=@Nat.le_total
def Go.Us:=@Prod.mk.injEq
def Go.Ut:=@Nat.not_le
def Go.Uu:=@Array.mem_iff_getElem?
def Go.Uv:=@List.cons.injEq
def Go.Uw:=@Nat.le_of_lt
def Go.Ux:=@Array.ext
def Go.Uy:=@Array.getElem_mem
def Go.Uz:=@getElem!_pos
def Go.UA:=@Array.mem_toList_iff
def Go.UB:=@Bool.and_false
def Go.UC:=@List.getElem?_take
def Go.UD:=@Array.toList_modify
def Go.UE:=@Nat.lt_trichotomy
def Go.UF:=@Array.getElem?_extract
def Go.UH:=@Array.getElem_toList
def Go.UI:=@Nat.mul_add
def Go.UJ:=@List.drop_drop
def Go.UK:=@List.ne_nil_of_mem
def Go.UL:=@Array.getElem?_replicate
def Go.UM:=@List.getElem?_append_right
def Go.UN:=@List.forIn_cons
def Go.UO:=@Std.Legacy.Range.forIn_eq_forIn_range'
def Go.UP:=@Int.toNat_natCast
def Go.UQ:=@Array.replicate_succ
def Go.UR:=@List.getElem_cons_zero
def Go.US:=@List.mem_flatMap
def Go.UT:=@List.map_cons
def Go.UU:=@Array.toList_extract
def Go.UW:=@List.ext_getElem
def Go.UX:=@Decidable.em
def Go.UY:=@Array.toList_push
def Go.UZ:=@Array.getElem?_setIfInBounds_self_of_lt
def Go.U3:=@List.getElem_range
def Go.U4:=@List.length_range
def Go.U5:=@List.pairwise_cons
def Go.U6:=@Array.all_append
def Go.U7:=@Array.mem_append_left
def Go.U8:=@List.drop_append_of_le_length
def Go.U9:=@List.mem_flatten
def Go.Va:=@List.eq_of_mem_replicate
def Go.Vb:=@Option.any_some
def Go.Vd:=@Bool.and_eq_false_iff
def Go.Ve:=@Int.add_sub_cancel
def Go.Vf:=@Int.tdiv_eq_ediv_of_nonneg
def Go.Vh:=@List.findIdx?_eq_some_iff_getElem
def Go.Vi:=@List.findIdx?_eq_none_iff
def Go.Vn:=@Array.size_replicate
def Go.Vq:=@Array.toList_zipIdx
def Go.Vv:=@List.filterMap_append
def Go.Vw:=@List.getElem?_cons_zero
def Go.VC:=@List.mem_append_left
def Go.VE:=@List.getLast?_append
def Go.VG:=@Array.toList_setIfInBounds
def Go.VK:=@List.getLast?_cons_cons
def Go.VN:=@Array.mem_push_self
def Go.VU:=@Option.isSome_iff_exists
def Go.VX:=@List.flatten_append
def Go.VZ:=@List.append_cancel_left_eq
def Go.V5:=@Array.getElem?_ofFn
def Go.V7:=@Nat.mod_two_eq_zero_or_one
def Go.V9:=@List.perm_ext_iff_of_nodup
def Go.Wb:=@Array.mem_or_eq_of_mem_setIfInBounds
def Go.Wd:=@Array.eq_empty_of_size_eq_zero
def Go.Wj:=@ByteArray.data_extract
def Go.Wl:=@List.length_filterMap_le
def Go.Wo:=@Array.length_toList
namespace Go.Tm
structure Ren(G:Nat) where
 rel:Nat->Nat->Prop
 fn:∀r R R',rel r R->rel r R'->R=R'
 inj:∀r r' R,rel r R->rel r' R->r=r'
 dG:∀r R,rel r R->(r<G↔R<G)
instance{G:Nat}:CoeFun (Ren G) (λ_=>Nat->Nat->Prop):=⟨Ren.rel⟩
variable {G:Nat}
def Ren.le(π a:Ren G):Prop:=∀r s,π r s->a r s
def Ren.le_refl(π:Ren G):Ren.le π π:=λ_ _ h=>h
def Ren.le_trans{a b c:Ren G}(h:Ren.le a b)(d:Ren.le b c):Ren.le a c:=λ_ _ x=>d _ _ (h _ _ x)
inductive aQ(π:Ren G):Addr->Addr->Prop
 |mk {r s o:Nat} {p:Option Nat}:π r s->aQ π ⟨r,o,p⟩ ⟨s,o,p⟩
def aQ.mono{π b:Ren G}(l:Ren.le π b){a A}(h:aQ π a A):aQ b a A:=by cases h with|mk h=>exact .mk (l _ _ h)
def ki:Nat:=74
inductive FnR(π:Ren G):Fn->Fn->Prop
 |func (f):f≠ki->FnR π (.func f) (.func f)
 |yield {l L:Nat}:π l L->FnR π (.yield l) (.yield L)
def FnR.mono{π b:Ren G}(l:Ren.le π b){a A}(h:FnR π a A):FnR b a A:=by
 cases h with
 |yield h=>exact .yield (l _ _ h)
 |func f h=>exact .func f h
def dY:Value->Bool
 | .pointer (some _)| .slice (some _) _ _| .map (some _)| .chan (some _)| .iface _ _=>true
 | .func (.method _) _ _=>false
 | .func _ _ _=>true
 |_=>false
inductive az(π:Ren G):Value->Value->Prop
 |bool (b):az π (.bool b) (.bool b)
 |int (k n):az π (.int k n) (.int k n)
 |float (k b):az π (.float k b) (.float k b)
 |complex (k a b):az π (.complex k a b) (.complex k a b)
 |string (s):az π (.string s) (.string s)
 |G8:az π (.pointer none) (.pointer none)
 |ptr {a A:Addr}:aQ π a A->az π (.pointer (some a)) (.pointer (some A))
 |jw (l c):az π (.slice none l c) (.slice none l c)
 |slice {a A:Addr} (l c):aQ π a A->az π (.slice (some a) l c) (.slice (some A) l c)
 |Jz:az π (.map none) (.map none)
 |map {r R:Nat}:π r R->az π (.map (some r)) (.map (some R))
 |Pb:az π (.chan none) (.chan none)
 |chan {r R:Nat}:π r R->az π (.chan (some r)) (.chan (some R))
 |func {fn FN:Fn} {f F c C:Array Value}:FnR π fn FN->f.size=F.size->(∀(i:Nat) x X,f[i]? =some x->F[i]? =some X->az π x X)->c.size=C.size->(∀(i:Nat) x X,c[i]? =some x->C[i]? =some X->az π x X)->az π (.func fn f c) (.func FN F C)
 |nilFunc:az π .nilFunc .nilFunc
 |iface (t) {v V:Value}:az π v V->az π (.iface t v) (.iface t V)
 |nilIface:az π .nilIface .nilIface
 |agg {c C:Array Value}:c.size=C.size->(∀(i:Nat) x X,c[i]? =some x->C[i]? =some X->az π x X)->az π (.agg c) (.agg C)
 |tuple {c C:Array Value}:c.size=C.size->(∀(i:Nat) x X,c[i]? =some x->C[i]? =some X->az π x X)->az π (.tuple c) (.tuple C)
 |lN (V):dY V=true->az π (.tuple #[]) V
 |G9 (n f c):az π (.func (.method "") #[.nilIface] #[]) (.func (.method n) f c)
def az.mono{π d:Ren G}(l:Ren.le π d){v V}(h:az π v V):az d v V:=by
 induction h with
 |ptr h=>exact .ptr (h.mono l)
 |slice a b h=>exact .slice a b (h.mono l)
 |map h=>exact .map (l _ _ h)
 |chan h=>exact .chan (l _ _ h)
 |func g i _ j _ k m=>exact .func (g.mono l) i k j m
 |iface t _ e=>exact .iface t e
 |agg s _ e=>exact .agg s e
 |tuple s _ e=>exact .tuple s e
 |lN V a=>exact .lN V a
 |G9 n f c=>exact .G9 n f c
 |_=>constructor
def aW{c d:Type}(R:c->d->Prop)(a:Array c)(b:Array d):Prop:=a.size=b.size/\∀(i:Nat) x y,a[i]? =some x->b[i]? =some y->R x y
def aW.mono{c d}{R R':c->d->Prop}{a b}(e:∀x y,R x y->R' x y)(h:aW R a b):aW R' a b:=⟨h.1,λi x y f g=>e _ _ (h.2 i x y f g)⟩
abbrev VsR(π:Ren G):Array Value->Array Value->Prop:=aW (az π)
def az.Et{π:Ren G}{c C}(h:VsR π c C):az π (.agg c) (.agg C):=.agg h.1 h.2
def az.tuple'{π:Ren G}{c C}(h:VsR π c C):az π (.tuple c) (.tuple C):=.tuple h.1 h.2
inductive bg{α β:Type}(R:α->β->Prop):List α->List β->Prop
 |nil:bg R [] []
 |cons {x y l m}:R x y->bg R l m->bg R (x::l) (y::m)
def bg.mono{c d}{R R':c->d->Prop}(e:∀x y,R x y->R' x y){a b}(h:bg R a b):bg R' a b:=by
 induction h with
 |nil=>exact .nil
 |cons h _ f=>exact .cons (e _ _ h) f
inductive dT{α β:Type}(R:α->β->Prop):Option α->Option β->Prop
 |none:dT R none none
 |some {x y}:R x y->dT R (some x) (some y)
def dT.mono{c d}{R R':c->d->Prop}(e:∀x y,R x y->R' x y){a b}(h:dT R a b):dT R' a b:=by
 cases h with
 |none=>exact .none
 |some h=>exact .some (e _ _ h)
def bg.length{c d R}{a:List c}{b:List d}(h:bg R a b):a.length=b.length:=by
 induction h with
 |nil=>rfl
 |cons _ _ e=>simp[e]
def bg.append{e f R}{a c:List e}{b d:List f}(h:bg R a b)(g:bg R c d):bg R (a++c) (b++d):=by
 induction h with
 |nil=>exact g
 |cons x _ i=>exact .cons x i
def aW.get{d e R}{a:Array d}{b:Array e}(h:aW R a b)(i:Nat):dT R a[i]? b[i]? :=by
 obtain hi|hi:=Rv i a.size
 ·have c:=h.1▸hi
  rw[RU hi,RU c];exact .some (h.2 i _ _ (RU hi) (RU c))
 ·have c:b.size<=i:=h.1▸hi
  rw[Tf hi,Tf c];exact .none
def aW.kZ{c d R}{a:Array c}{b:Array d}(h:∀i:Nat,dT R a[i]? b[i]?):aW R a b:=by
 refine⟨?_,λi x y e f=>?_⟩
 ·obtain h1|h1|h1:=UE a.size b.size
  ·have:=h a.size;rw[Tf (Ro _),RU h1]at this;cases this
  ·exact h1
  ·have:=h b.size;rw[Tf (Ro _),RU h1]at this;cases this
 ·have:=h i;rw[e,f]at this;cases this with|some r=>exact r
def aW.toList{e f R}{a:Array e}{b:Array f}(h:aW R a b):bg R a.toList b.toList:=by
 obtain⟨a⟩:=a;obtain⟨b⟩:=b;simp only[aW,RQ,TX]at h⊢;obtain⟨c,d⟩:=h;induction a generalizing b with
 |nil=>cases b with|nil=>exact .nil|cons _ _=>simp at c
 |cons x a g=>
  cases b with
  |nil=>simp at c
  |cons y b=>exact .cons (d 0 x y rfl rfl) (g b (by simpa using c) λi u v j k=>d (i+1) u v (by simpa using j) (by simpa using k))
def bg.get{c d R}{a:List c}{b:List d}(h:bg R a b)(i:Nat):dT R a[i]? b[i]? :=by
 induction h generalizing i with
 |nil=>simpa using dT.none
 |cons x _ e=>cases i with
  |zero=>simpa using dT.some x
  |succ i=>simpa using e i
def bg.toArray{c d R}{a:List c}{b:List d}(h:bg R a b):aW R a.toArray b.toArray:=aW.kZ λi=>by simpa using h.get i
def aW.push{c d R a b}(h:aW R a b){x:c}{y:d}(r:R x y):aW R (a.push x) (b.push y):=aW.kZ λi=>by
 rw[Sw,Sw,h.1];split
 ·exact .some r
 ·exact h.get i
def aW.append{e f R}{a c:Array e}{b d:Array f}(h:aW R a b)(g:aW R c d):aW R (a++c) (b++d):=aW.kZ λi=>by
 rw[TG,TG,h.1];split
 ·exact h.get i
 ·exact g.get _
def aW.set{c d R a b}(h:aW R a b)(i){x:c}{y:d}(r:R x y):aW R (a.setIfInBounds i x) (b.setIfInBounds i y):=aW.kZ λj=>by
 rw[Sl,Sl,h.1];split
 ·split
  ·exact .some r
  ·exact .none
 ·exact h.get j
def aW.extract{c d R}{a:Array c}{b:Array d}(h:aW R a b)(i j):aW R (a.extract i j) (b.extract i j):=aW.kZ λk=>by
 rw[UF,UF,h.1];split
 ·exact h.get _
 ·exact .none
def aW.empty{a b R}:aW R (#[]:Array a) (#[]:Array b):=⟨rfl,λi x y h=>by simp at h⟩
def aW.map{j k d e R}{S:d->e->Prop}{a b}(h:aW R a b){f:j->d}{g:k->e}(l:∀x y,R x y->S (f x) (g y)):aW S (a.map f) (b.map g):=aW.kZ λi=>by
 rw[Sm,Sm];have c:=h.get i
 revert c
 generalize a[i]? =u;generalize b[i]? =v;intro c;cases c with
 |none=>exact .none
 |some r=>exact .some (l _ _ r)
def aW.refl{b}{R:b->b->Prop}{a}(h:∀x,x∈a->R x x):aW R a a:=⟨rfl,λi x y c d=>by rw[c]at d;cases d;exact h x (SM c)⟩
end Go.Tm
namespace Go.Tm
variable {G:Nat}
structure iz(π:Ren G)(e E:MapEntry):Prop where
 key:az π e.key E.key
 val:az π e.val E.val
 born:e.born=E.born
inductive JA(π:Ren G):Target->Target->Prop
 |fn {f F:Fn} {c C:Array Value}:FnR π f F->VsR π c C->JA π (.fn f c) (.fn F C)
 |nil:JA π .nil .nil
 |builtin (b ts t cs):JA π (.builtin b ts t cs) (.builtin b ts t cs)
 |collected {r R:Nat}:π r R->JA π (.collected r) (.collected R)
structure Rl(π:Ren G)(d D:Deferred):Prop where
 target:JA π d.target D.target
 args:VsR π d.args D.args
inductive o6(π:Ren G):Deferred->Deferred->Prop
 |mk {r R:Nat}:π r R->o6 π ⟨.collected r,#[]⟩ ⟨.collected R,#[]⟩
def fN:Value->Bool
 | .bool _| .int .. | .float .. | .complex .. | .string _| .pointer none| .slice none _ _| .map none| .chan none| .nilFunc| .nilIface=>true
 | .tuple c=>c.isEmpty
 |_=>false
def Gt:Question->Bool
 | .order _ _=>true
 |_=>false
def JB{q}(h:Gt q=false)(f id):q≠ .order f id:=λe=>by rw[e]at h;cases h
structure Kn where
 dG:Nat->Bool
 ent:Nat->Bool
 stop:Nat->Bool
 own:Nat->Bool
def Kn.free(S:Kn)(q:Question):Prop:=∀f a,q=.order f a->S.own f=false
def Kn.fO(S:Kn)(g:Question->Nat):Prop:=∀f a,S.own f=true->g (.order f a)=0
def Kn.calm(S:Kn)(g:Question->Nat):Prop:=∀f a,S.ent f=true->S.own f=true->g (.order f a)=0
noncomputable def only(q:Question)(n:Nat):Question->Nat:=open Classical in λa=>if a=q then n else 0
def sg(q n):only q n q=n:=Rn rfl
def yz{S:Kn}{q}(h:S.free q)(n):S.fO (only q n):=λf b a=>by unfold only;refine Rm λe=>?_;rw[h f b e.symm]at a;cases a
def Eu{S:Kn}{f:FuncId}(h:S.ent f=true){g}(c:S.calm g)(a):S.fO (only (.order f a) (g (.order f a))):=λd b i=>by
 unfold only;by_cases e:Question.order d b=.order f a
 ·rw[Rn e]
  cases e;exact c f a h i
 ·exact Rm e
def lO{S:Kn}:S.fO (λ_=>0):=λ_ _ _=>rfl
def cW(S:Kn):Operand->Bool
 | .tmp _=>true
 | .func f=>f !=ki
 | .const v=>fN v
 | .global g=>S.dG g
def si:Builtin->Bool
 | .append| .cap| .copy| .len| .max| .min| .unsafeSliceData| .unsafeString| .panic=>true
 |_=>false
def lP(S:Kn):Op->Bool
 | .call ⟨.value (.func f),args,_⟩=>f==ki&&args.size==1&&args.all (cW S)
 |_=>false
def BG(S:Kn)(o:Op):Bool:=
 lP S o||(match o with
 | .move _| .assign _| .pick .. | .alloc _| .box .. | .build .. | .buildSlice .. | .insert .. | .load .. | .store .. | .nilCheck _| .binOp .. | .unOp .. | .convert .. | .makeInterface .. | .makeMap .. | .makeSlice .. | .slice ..
 | .fieldAddr .. | .field .. | .indexAddr .. | .index .. | .lookup .. | .mapUpdate .. | .mapEntry .. | .entryStore .. | .range .. | .next .. | .entry _| .extract .. | .panic _=>true
 | .makeFunc (.func f) _ _=>f !=ki
 | .call ⟨.value _,_,_⟩=>true
 | .call ⟨.builtin b,_,_⟩=>si b
 |_=>false)&&o.operands.all (cW S)
def codeOk(S:Kn):Code->Bool
 | .skip| .exit _| .label _| .goto _| .ret| .refuse _=>true
 | .region _ ops _=>ops.all λo=>BG S o.op
 | .seq a b=>codeOk S a&&codeOk S b
 | .cond c a b=>cW S c&&codeOk S a&&codeOk S b
 | .block _ b| .loop b| .scope b=>codeOk S b
 | .rangeFunc f _ a b=>cW S f&&codeOk S a&&codeOk S b
def Kn.code(S:Kn)(c:Code):Prop:=codeOk S c=true
structure BH(S:Kn)(π:Ren G)(l L:Loop):Prop where
 state:l.state=L.state
 pending:l.pending=L.pending
 QP:∀c,l.pending=some c->S.code c
 fn:l.fn=L.fn
 ent:S.ent l.fn=true
 tmps:VsR π l.tmps L.tmps
 params:l.params=L.params
 assign:l.assign=L.assign
 Pc:S.code l.assign
 body:l.body=L.body
 Pd:S.code l.body
 defers:π l.defers L.defers
def Ha(n:Nat)(f F:Nat×Nat):Prop:=F=f\/(f.1=0/\n<f.2/\F.2<=f.2)
def grow(f:Nat×Nat)(a n:Nat):Nat×Nat:=if f.1==f.2 then(a,a+n)else(min f.1 a,max f.2 (a+n))
def Fle(f F:Nat×Nat):Prop:=F=f\/(F.1<F.2/\(f.1=f.2\/(F.1<=f.1/\f.2<=F.2)))
def Fle.refl(f):Fle f f:=.inl rfl
def Fle.trans{a b c}(h:Fle a b)(e:Fle b c):Fle a c:=by
 obtain rfl|⟨f,h2⟩:=h
 ·exact e
 ·obtain rfl|⟨g,d⟩:=e
  ·exact .inr ⟨f,h2⟩
  ·refine .inr ⟨g,?_⟩
   obtain h2|h2:=h2
   ·exact .inl h2
   ·rcases d with d|d<;>omega
def Fle.back{a b}(h:Fle a b)(c:Fle b a):b=a:=by
 obtain h|⟨d,e⟩:=h
 ·exact h
 ·obtain c|⟨f,g⟩:=c
  ·exact c.symm
  ·have:b.1=a.1/\b.2=a.2:=by omega
   exact Prod.ext this.1 this.2
def JC(f a n)(b:n≠0):Fle f (grow f a n):=by
 unfold grow;by_cases h:f.1=f.2
 ·rw[Rn (by simpa using h)];exact .inr ⟨by simp;omega,.inl h⟩
 ·rw[Rm (by simpa using h)];exact .inr ⟨by simp;omega,.inr (by simp;omega)⟩
inductive fE(S:Kn)(π:Ren G):Obj->Obj->Prop
 |cells {c C:Array Value} (e:TypeId) {f F:Nat×Nat}:VsR π c C->Ha c.size f F->fE S π (.cells c e f) (.cells C e F)
 |map {es ES:Array MapEntry} (n:Nat):aW (iz π) es ES->fE S π (.map es n) (.map ES n)
 |stringIter (s p):fE S π (.stringIter s p) (.stringIter s p)
 |fe (a b c):fE S π (.mapIter none a b c) (.mapIter none a b c)
 |mapIter {m M:Nat} (a b c):π m M->fE S π (.mapIter (some m) a b c) (.mapIter (some M) a b c)
 |loop {l L:Loop}:BH S π l L->fE S π (.loop l) (.loop L)
 |deferred:fE S π (.deferred (some [])) (.deferred (some []))
 |eE:fE S π (.deferred none) (.deferred none)
 |number {a A:Addr} (l:Bool):aQ π a A->fE S π (.number a l) (.number A l)
 |view {a A:Addr} (t:TypeId):aQ π a A->fE S π (.view a t) (.view A t)
section mono
variable {S:Kn} {π π':Ren G} (l:Ren.le π π')
include l
def VsR.mono{c C:Array Value}(h:VsR π c C):VsR π' c C:=aW.mono (λ_ _ x=>x.mono l) h
def iz.mono{e E:MapEntry}(h:iz π e E):iz π' e E:=⟨h.key.mono l,h.val.mono l,h.born⟩
def o6.mono{e E:Deferred}(h:o6 π e E):o6 π' e E:=by cases h with|mk a=>exact .mk (l _ _ a)
def BH.mono{e E:Loop}(h:BH S π e E):BH S π' e E:={h with tmps:=VsR.mono l h.tmps,defers:=l _ _ h.defers}
def fE.mono{o O:Obj}(h:fE S π o O):fE S π' o O:=by
 cases h with
 |cells e h f=>exact .cells e (VsR.mono l h) f
 |map n h=>exact .map n (aW.mono (λ_ _ x=>x.mono l) h)
 |stringIter=>exact .stringIter _ _
 |fe=>exact .fe _ _ _
 |mapIter a b c h=>exact .mapIter a b c (l _ _ h)
 |loop h=>exact .loop (h.mono l)
 |deferred=>exact .deferred
 |eE=>exact .eE
 |number b h=>exact .number b (h.mono l)
 |view t h=>exact .view t (h.mono l)
end mono
structure bl(S:Kn)(Pr:Nat->Prop)(π:Ren G)(w W:World):Prop where
 obj:∀r R,π r R->∃o O,w.heap[r]? =some o/\W.heap[R]? =some O/\fE S π o O
 uo:∀r R,π r R->Pr R->∃c e f,w.heap[r]? =some (.cells c e f)/\f.1=0/\c.size<f.2
 uW:∀R,Pr R->R<W.heap.size
 gw:G<=w.heap.size
 gW:G<=W.heap.size
def aw(w:World)(τ:Nat->Question->Nat)(d:Nat):World:={w with tape:=τ,drawn:=d}
def Fits(τ:Nat->Question->Nat)(d:Nat)(l:List (Question->Nat)):Prop:=∀i g,l[i]? =some g->τ (d+i)=g
def Fits.head{τ d g l}(h:Fits τ d (g::l)):τ d=g:=h 0 g rfl
def Fits.tail{τ d g l}(h:Fits τ d (g::l)):Fits τ (d+1) l:=λi g' a=>by have:=h (i+1) g' (by simpa using a);rw[show d+1+i=d+(i+1) by omega];exact this
def lg(d:Nat)(l:List (Question->Nat)):Nat->Question->Nat:=λn=>(l[n-d]?).getD λ_=>0
def kJ(d l):Fits (lg d l) d l:=λi g h=>by unfold lg;rw[show d+i-d=i by omega,h];rfl
structure Chg(Pr:Nat->Prop)(π:Ren G)(W W':World)(π':Ren G):Prop where
 os:W'.os=W.os
 tape:W'.tape=W.tape
 output:W'.output=W.output
 size:W.heap.size<=W'.heap.size
 keep:∀b,b<W.heap.size->(¬∃r,π r b)->W'.heap[b]? =W.heap[b]?
 nw:∀b,Pr b->∀c e F,W.heap[b]? =some (Obj.cells c e F)->∃F',W'.heap[b]? =some (Obj.cells c e F')
 fz:∀(b:Nat) c e F,W.heap[b]? =some (Obj.cells c e F)->∃c' F',W'.heap[b]? =some (Obj.cells c' e F')/\Fle F F'
 old:∀r R,π' r R->π r R\/W.heap.size<=R
 new:∀R,W.heap.size<=R->R<W'.heap.size->∃r,π' r R
 le:Ren.le π π'
def Chg.refl(Pr)(π:Ren G)(W):Chg Pr π W W π:=⟨rfl,rfl,rfl,Ro _,λ_ _ _=>rfl,λ_ _ _ _ F h=>⟨F,h⟩,λ_ c _ F h=>⟨c,F,h,.refl _⟩,λ_ _ h=>.inl h,λ_ a b=>absurd b (SI.2 a),λ_ _ h=>h⟩
def Chg.trans{Pr}{π π' π'':Ren G}{W j g}(h:Chg Pr π W j π')(d:Chg Pr π' j g π''):Chg Pr π W g π'':=by
 refine⟨d.os.trans h.os,d.tape.trans h.tape,d.output.trans h.output,Rp h.size d.size,λb f q=>?_,λb f c e F k=>?_,λb c e F k=>?_,λr R i=>?_,λR a b=>?_,Ren.le_trans h.le d.le⟩
 ·rw[d.keep b (Rs f h.size) ?_,h.keep b f q]
  exactλ⟨r,i⟩=>(h.old r b i).elim (λx=>q ⟨r,x⟩) λx=>absurd f (SI.2 x)
 ·obtain⟨m,n⟩:=h.nw b f c e F k
  exact d.nw b f c e m n
 ·obtain⟨c',m,n,s⟩:=h.fz b c e F k
  obtain⟨o,p,t,u⟩:=d.fz b c' e m n;exact⟨o,p,t,s.trans u⟩
 ·obtain x|x:=d.old r R i
  ·exact h.old r R x
  ·exact .inr (Rp h.size x)
 ·obtain x|x:=Rv R j.heap.size
  ·obtain⟨r,i⟩:=h.new R a x;exact⟨r,d.le _ _ i⟩
  ·exact d.new R x b
def kH(Pr:Nat->Prop)(π:Ren G)(e:Event):Prop:=
 match e.loc with
 | .cell A=>e.sync=false/\(∃r,π r A.block)/\(e.write=true->¬Pr A.block)
 | .obj R=>e.sync=false/\(∃r,π r R)/\(e.write=true->¬Pr R)
 | .mark (.extern _)=>True
 | .mark .noRoom=>True
 |_=>False
def kH.mono{Pr}{π π':Ren G}(l:Ren.le π π'){e}(h:kH Pr π e):kH Pr π' e:=by
 unfold kH at*;split<;>simp_all
 ·obtain⟨_,⟨r,a⟩,_⟩:=h;exact⟨r,l _ _ a⟩
 ·obtain⟨_,⟨r,a⟩,_⟩:=h;exact⟨r,l _ _ a⟩
def gq:Halt->Prop
 | .panic _| .stuck _=>True
 | .unsupported (.initOrder _)=>False
 | .unsupported _=>True
 |_=>False
def nz(w w':World):Prop:=∀(r:Nat) (o:Obj),w.heap[r]? =some o->w'.heap[r]? =some o
def nz.refl(w):nz w w:=λ_ _ h=>h
def nz.trans{a b c}(h:nz a b)(d:nz b c):nz a c:=λr o x=>d r o (h r o x)
def cO{c}(s:Sem c):Prop:=∀(P:Program) (w:World) (es:Array Event),(∃a w' b,s.runT P w es=(.ok a w',b)/\nz w w')\/∃h w' b,s.runT P w es=(.halt h w',b)/\gq h/\nz w w'
def dP{b}(s:Sem b):Prop:=∀(P:Program) (w:World) (es:Array Event),∃h w' a,s.runT P w es=(.halt h w',a)/\gq h/\nz w w'
def dP.halt{a:Type}(h:Halt)(b:gq h:=by exact True.intro):dP (Sem.halt h:Sem a):=λ_ w es=>⟨h,w,es,rfl,b,.refl _⟩
def runT_bind'{e g}(P)(f:e->Sem g)(s:Sem e):∀(w) (es),(∃a w' d,s.runT P w es=(.ok a w',d)/\(s.bind f).runT P w es=(f a).runT P w' d)\/(∃h w' d,s.runT P w es=(.halt h w',d)/\(s.bind f).runT P w es=(.halt h w',d)):=by
 induction s with
 |pure a=>exactλw es=>.inl ⟨a,w,es,rfl,rfl⟩
 |load m a k b=>
  intro w es;simp only[Sem.bind,Sem.runT];cases w.cell? a with
  |some v=>exact b v w _
  |none=>
   simp only[];cases w.farLoad P a (m== .atomic)with
   |ok r=>exact b r.1 w _
   |error h=>exact .inr ⟨h,w,es,rfl,rfl⟩
 |store m a v k b=>
  intro w es;cases v with
  |agg=>exact .inr ⟨_,w,es,rfl,rfl⟩
  |tuple=>exact .inr ⟨_,w,es,rfl,rfl⟩
  |_=>
   simp only[Sem.bind,Sem.runT];cases w.cell? a with
   |some v=>
    simp only[];split
    ·exact .inr ⟨_,w,es,rfl,rfl⟩
    ·exact b _ _
   |none=>
    simp only[];split
    ·exact b _ _
    ·exact .inr ⟨_,w,es,rfl,rfl⟩
 |new o k b=>exactλw es=>b _ _ _
 |shape r k b=>exactλw es=>b _ _ _
 |freeze a n k b=>exactλw es=>b _ _
 |frozen a k b=>exactλw es=>b _ _ _
 |getObj r k b=>
  intro w es;simp only[Sem.bind,Sem.runT];split
  ·exact .inr ⟨_,w,es,rfl,rfl⟩
  ·exact b _ _ _
  ·exact .inr ⟨_,w,es,rfl,rfl⟩
 |setObj r o k b=>
  intro w es;simp only[Sem.bind,Sem.runT];split
  ·exact .inr ⟨_,w,es,rfl,rfl⟩
  ·exact b _ _
  ·exact .inr ⟨_,w,es,rfl,rfl⟩
 |choose q k b=>
  intro w es;simp only[Sem.bind,Sem.runT];split
  ·exact b _ _ _
  ·exact b _ _ _
 |sys c k b=>exactλw es=>b _ _ _
 |program k b=>exactλw es=>b _ _ _
 |mark m k b=>exactλw es=>b _ _
 |halt h=>exactλw es=>.inr ⟨h,w,es,rfl,rfl⟩
def eF{p q}(s)(f:p->Sem q)(c:dP s\/(cO s/\∀a,dP (f a))):dP (s>>= f):=by
 show dP (s.bind f);intro P w es;obtain⟨a,w1,e,d,m⟩|⟨h,w1,e,d,m⟩:=runT_bind' P f s w es
 ·rw[m]
  obtain c|⟨n,c⟩:=c
  ·obtain⟨h,w2,b,g,_⟩:=c P w es
   rw[d]at g;simp at g
  ·obtain⟨h,w3,o,r,i,j⟩:=c a P w1 e
   obtain⟨t,w2,b,g,k⟩|⟨h,w2,b,g,_⟩:=n P w es
   ·rw[d]at g;cases g
    exact⟨h,w3,o,r,i,k.trans j⟩
   ·rw[d]at g;simp at g
 ·rw[m]
  obtain c|⟨n,c⟩:=c
  ·obtain⟨u,w2,b,g,i,j⟩:=c P w es
   rw[d]at g;cases g;exact⟨_,_,_,rfl,i,j⟩
  ·obtain⟨t,w2,b,g,k⟩|⟨u,w2,b,g,i,j⟩:=n P w es
   ·rw[d]at g;simp at g
   ·rw[d]at g;cases g
    exact⟨_,_,_,rfl,i,j⟩
def dP.Pe{a}{s:Sem a}(h:dP s):cO s:=λP w es=>.inr (h P w es)
def cO.bind{q r s}{f:q->Sem r}(h:cO s)(t:∀a,cO (f a)):cO (s>>= f):=by
 show cO (s.bind f);intro P w es;obtain⟨a,w1,e,i,m⟩|⟨v,w1,e,i,m⟩:=runT_bind' P f s w es
 ·rw[m]
  obtain⟨u,w2,c,g,k⟩|⟨n,w2,c,g,_⟩:=h P w es
  ·rw[i]at g;cases g
   obtain⟨b,w3,d,o,j⟩|⟨n,w3,d,o,j,p⟩:=t a P w1 e
   ·exact .inl ⟨b,w3,d,o,k.trans j⟩
   ·exact .inr ⟨n,w3,d,o,j,k.trans p⟩
  ·rw[i]at g;simp at g
 ·rw[m]
  obtain⟨u,w2,c,g,k⟩|⟨n,w2,c,g,j,p⟩:=h P w es
  ·rw[i]at g;simp at g
  ·rw[i]at g;cases g
   exact .inr ⟨_,_,_,rfl,j,p⟩
def cO.pure{b}(a):cO (Pure.pure a:Sem b):=λ_ w es=>.inl ⟨a,w,es,rfl,.refl _⟩
def cO.ite{a c}[Decidable c]{s t:Sem a}(h:cO s)(b:cO t):cO (if c then s else t):=by split<;>assumption
def cO.stuck{a}(m):cO (Go.stuck m:Sem a):=(dP.halt _).Pe
def cO.unsupported{a:Type}(u:Unsupported)(h:gq (.unsupported u):=by exact True.intro):cO (Go.unsupported u:Sem a):=(dP.halt _ h).Pe
def cO.program:cO Go.program:=λP w es=>.inl ⟨P,w,es,rfl,.refl _⟩
def cO.choose(q):cO (Go.choose q):=by
 intro P w es;by_cases h:q.forced=true
 ·exact .inl ⟨0,w,es,by simp[Go.choose,Sem.runT,h],.refl _⟩
 ·exact .inl ⟨_,{w with drawn:=w.drawn+1},es,by simp[Go.choose,Sem.runT,h];rfl,λ_ _ h=>h⟩
def cO.shape(r):cO (Go.shape r):=λ_ w es=>.inl ⟨_,w,es,rfl,.refl _⟩
def cO.frozen(a):cO (Go.frozen a):=λ_ w es=>.inl ⟨_,w,es,rfl,.refl _⟩
def cO.mark(m):cO (Go.mark m):=λ_ w _=>.inl ⟨_,w,_,rfl,.refl _⟩
def cO.newObj(o):cO (Go.newObj o):=λ_ w es=>.inl ⟨_,_,es,rfl,λr x h=>by have:=(Rx.1 h).1;simp only[Sw];rw[Rm (by omega)];exact h⟩
def JD{e}(a:Ask e):∀w:World,(w.ask a).2.heap=w.heap:=by
 induction a with
 |done a=>exactλ_=>rfl
 |ask c b k d=>
  intro w;simp only[World.ask];split
  ·exact d _ _
  ·exact(d _ _).trans rfl
def JE(w:World)(c):(w.sys c).2.heap=w.heap:=by
 unfold World.sys;have:=JD (Kernel.perform c w.os) w;split
 ·rfl
 ·rename_i h;rw[h]at this;exact this
def cO.sys(c):cO (Go.sys c):=λ_ w es=>.inl ⟨_,(w.sys c).2,_,rfl,λr x h=>by rw[JE];exact h⟩
inductive SR(S:Kn)(PS P:Program){α β:Type}(Q:Ren G->α->β->Prop):Ren G->Sem α->Sem β->Prop
 |pure {π a b}:Q π a b->SR S PS P Q π (.pure a) (.pure b)
 |load {π a A k K}:aQ π a A->(∀v V,az π v V->SR S PS P Q π (k v) (K V))->SR S PS P Q π (.load .plain a k) (.load .plain A K)
 |store {π a A v V k K}:aQ π a A->az π v V->SR S PS P Q π k K->SR S PS P Q π (.store .plain a v k) (.store .plain A V K)
 |new {π o O k K}:fE S π o O->(∀π' r R,Ren.le π π'->π' r R->SR S PS P Q π' (k r) (K R))->SR S PS P Q π (.new o k) (.new O K)
 |shape {π r R k K}:π r R->(∀s,SR S PS P Q π (k s) (K s))->SR S PS P Q π (.shape r k) (.shape R K)
 |freeze {π a A n k K}:aQ π a A->SR S PS P Q π k K->SR S PS P Q π (.freeze a n k) (.freeze A n K)
 |frozen {π a A k K}:aQ π a A->(∀b B:Bool,(B=true->b=true)->SR S PS P Q π (k b) (K B))->SR S PS P Q π (.frozen a k) (.frozen A K)
 |getObj {π r R k K}:π r R->(∀o O,fE S π o O->SR S PS P Q π (k o) (K O))->SR S PS P Q π (.getObj r k) (.getObj R K)
 |setObj {π r R o O k K}:π r R->(∀c e f,o≠ .cells c e f)->fE S π o O->SR S PS P Q π k K->SR S PS P Q π (.setObj r o k) (.setObj R O K)
 |choose {π q k K}:S.free q->(∀n,SR S PS P Q π (k n) (K n))->SR S PS P Q π (.choose q k) (.choose q K)
 |program {π k K}:SR S PS P Q π (k PS) (K P)->SR S PS P Q π (.program k) (.program K)
 |lQ {π k s'}:SR S PS P Q π (k PS) s'->SR S PS P Q π (.program k) s'
 |extern {π f k K}:SR S PS P Q π k K->SR S PS P Q π (.mark (.extern f) k) (.mark (.extern f) K)
 |noRoom {π k K}:SR S PS P Q π k K->SR S PS P Q π (.mark .noRoom k) (.mark .noRoom K)
 |my {π q k s' n} (t:Nat):S.free q->(if q.forced then n=0 else q.cut t=n)->SR S PS P Q π (k n) s'->SR S PS P Q π (.choose q k) s'
 |sj {π s r K}:(∀x,SR S PS P Q π s (K x))->SR S PS P Q π s (.shape r K)
 |oF {π s a K}:(∀x,SR S PS P Q π s (K x))->SR S PS P Q π s (.frozen a K)
 |never {π s s'}:dP s->SR S PS P Q π s s'
def SR.bind{S i P k m p u Q₁ Q}{π:Ren G}{s s'}{f:k->Sem p}{F:m->Sem u}
 (h:SR S i P Q₁ π s s') (d:∀π',Ren.le π π'->∀a b,Q₁ π' a b->SR S i P Q π' (f a) (F b)):SR S i P Q π (s>>= f) (s'>>= F):=by
 show SR S i P Q π (s.bind f) (s'.bind F);induction h with
 |pure q=>exact d _ (Ren.le_refl _) _ _ q
 |load a _ c=>exact .load a λv V w=>c v V w d
 |store a v _ c=>exact .store a v (c d)
 |new o _ c=>exact .new o λπ' r R l x=>c π' r R l x λg y=>d g (Ren.le_trans l y)
 |shape r _ c=>exact .shape r λs=>c s d
 |freeze a _ c=>exact .freeze a (c d)
 |frozen a _ c=>exact .frozen a λb B x=>c b B x d
 |getObj r _ c=>exact .getObj r λo O x=>c o O x d
 |setObj r n o _ c=>exact .setObj r n o (c d)
 |choose j _ c=>exact .choose j λn=>c n d
 |program _ c=>exact .program (c d)
 |lQ _ c=>exact .lQ (c d)
 |extern _ c=>exact .extern (c d)
 |noRoom _ c=>exact .noRoom (c d)
 |my t j e _ c=>exact .my t j e (c d)
 |sj _ c=>exact .sj λx=>c x d
 |oF _ c=>exact .oF λx=>c x d
 |never n=>exact .never (eF _ _ (.inl n))
def SR.mono{S i P j k Q Q'}{π:Ren G}{s:Sem j}{s':Sem k}
 (h:SR S i P Q π s s') (d:∀π',Ren.le π π'->∀a b,Q π' a b->Q' π' a b):SR S i P Q' π s s':=by
 induction h with
 |pure q=>exact .pure (d _ (Ren.le_refl _) _ _ q)
 |load a _ c=>exact .load a λv V m=>c v V m d
 |store a v _ c=>exact .store a v (c d)
 |new o _ c=>exact .new o λπ' r R l x=>c π' r R l x λf p=>d f (Ren.le_trans l p)
 |shape r _ c=>exact .shape r λs=>c s d
 |freeze a _ c=>exact .freeze a (c d)
 |frozen a _ c=>exact .frozen a λb B x=>c b B x d
 |getObj r _ c=>exact .getObj r λo O x=>c o O x d
 |setObj r n o _ c=>exact .setObj r n o (c d)
 |choose g _ c=>exact .choose g λn=>c n d
 |program _ c=>exact .program (c d)
 |lQ _ c=>exact .lQ (c d)
 |extern _ c=>exact .extern (c d)
 |noRoom _ c=>exact .noRoom (c d)
 |my t g e _ c=>exact .my t g e (c d)
 |sj _ c=>exact .sj λx=>c x d
 |oF _ c=>exact .oF λx=>c x d
 |never n=>exact .never n
end Go.Tm

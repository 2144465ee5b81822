import GoSem.Step
import Derived.RunT
set_option linter.all false
set_option maxRecDepth 100000
set_option maxHeartbeats 20000000
theorem Go.ex{α:Sort _}(e:α):∃x,x=e:=⟨_,rfl⟩
def Go.Sm:=@if_neg
def Go.Sn:=@if_pos
def Go.Sp:=@Nat.le_refl
def Go.Sq:=@Nat.le_trans
def Go.Sr:=@Nat.lt_or_ge
def Go.Ss:=@List.length_cons
def Go.Su:=@Nat.lt_of_lt_of_le
def Go.Sv:=@decide_eq_false
def Go.Sw:=@Array.getElem?_eq_some_iff
def Go.SD:=@decide_eq_true
def Go.SE:=@Nat.zero_le
def Go.SF:=@Nat.zero_add
def Go.SG:=@Bool.and_eq_true
def Go.SH:=@List.getElem_mem
def Go.SI:=@Array.getElem?_setIfInBounds_ne
def Go.SJ:=@if_true
def Go.SK:=@List.length_drop
def Go.SL:=@Nat.not_lt_zero
def Go.SM:=@List.length_nil
def Go.SN:=@Ne.symm
def Go.SO:=@if_false
def Go.SP:=@decide_eq_true_eq
def Go.SQ:=@List.length_append
def Go.SS:=@Bool.false_eq_true
def Go.SU:=@List.size_toArray
def Go.SV:=@Array.getElem?_eq_getElem
def Go.SY:=@beq_eq_false_iff_ne
def Go.SZ:=@Option.some.inj
def Go.S6:=@List.mem_cons
def Go.S8:=@Array.size_setIfInBounds
def Go.S9:=@Array.getElem?_map
def Go.Ta:=@Option.map_eq_some_iff
def Go.Tb:=@List.take_zero
def Go.Tc:=@List.drop_eq_nil_of_le
def Go.Td:=@List.getElem?_eq_getElem
def Go.Te:=@congrArg
def Go.Tf:=@of_decide_eq_true
def Go.Tg:=@List.all_eq_true
def Go.Th:=@List.take_succ_cons
def Go.Ti:=@List.not_mem_nil
def Go.Tj:=@or_false
def Go.Tk:=@List.drop_zero
def Go.Tl:=@Option.map_some
def Go.Tn:=@Option.some.injEq
def Go.To:=@Array.getElem?_push_size
def Go.Tp:=@List.drop_succ_cons
def Go.Tq:=@Array.getElem?_setIfInBounds
def Go.Tr:=@List.eq_nil_of_length_eq_zero
def Go.Ts:=@beq_iff_eq
def Go.Tt:=@Array.getElem?_push
def Go.Tu:=@Nat.mul_one
def Go.Tv:=@Array.getElem?_modify
def Go.Tw:=@Array.getD_eq_getD_getElem?
def Go.Tx:=@Array.mem_of_getElem?
def Go.Ty:=@Nat.eq_zero_or_pos
def Go.Tz:=@Array.mem_append
def Go.TA:=@Array.getElem?_toList
def Go.TB:=@List.length_map
def Go.TC:=@List.mem_toArray
def Go.TD:=@Nat.not_lt
def Go.TE:=@List.any_eq_true
def Go.TF:=@List.length_filter_le
def Go.TG:=@Nat.lt_succ_self
def Go.TH:=@List.length_take
def Go.TJ:=@Array.append_assoc
def Go.TK:=@Nat.add_zero
def Go.TL:=@List.mem_of_getElem?
def Go.TM:=@Classical.byContradiction
def Go.TN:=@Bool.eq_iff_iff
def Go.TO:=@List.length_pos_iff
def Go.TP:=@List.append_assoc
def Go.TQ:=@List.append_nil
def Go.TR:=@List.mem_iff_getElem?
def Go.TS:=@List.filter_cons
def Go.TU:=@Array.empty_append
def Go.TW:=@List.isPrefixOf_iff_prefix
def Go.TX:=@List.getElem?_eq_some_iff
def Go.TY:=@Bool.not_true
def Go.TZ:=@Option.bind_eq_some_iff
def Go.T1:=@Array.getElem?_eq_none
def Go.T2:=@List.mem_map
def Go.T3:=@List.length_eq_zero_iff
def Go.T4:=@Array.forIn_toList
def Go.T5:=@List.getElem?_map
def Go.T6:=@Array.size_map
def Go.T7:=@Nat.le_of_eq
def Go.T8:=@List.contains_iff_mem
def Go.T9:=@List.mem_iff_getElem
def Go.Ua:=@Bool.or_eq_true
def Go.Ub:=@bne_iff_ne
def Go.Uc:=@List.flatMap_cons
def Go.Ud:=@List.mem_append
def Go.Ue:=@ByteArray.size_extract
def Go.Uf:=@List.mem_singleton
def Go.Ug:=@Eq.comm
def Go.Uh:=@dif_pos
def Go.Ui:=@Option.getD_some
def Go.Uj:=@Iff.rfl
def Go.Uk:=@ne_of_beq_false
def Go.Ul:=@List.getElem_of_mem
def Go.Um:=@Array.all_eq_true'
def Go.Un:=@List.any_eq_false
def Go.Uo:=@List.take_length
def Go.Up:=@List.map_append
def Go.Uq:=@List.getElem?_append_left
def Go.Ur:=@Nat.add_assoc
def Go.Us:=@Option.bind_some
def Go.Ut:=@Nat.zero_mul
def Go.Uu:=@Array.mem_push_of_mem
def Go.Uv:=@Array.getElem?_append
def Go.Uw:=@List.filter_append
def Go.Ux:=@List.drop_eq_getElem_cons
def Go.Uy:=@List.mem_filter
def Go.Uz:=@Nat.succ_pos
def Go.UA:=@Array.append_singleton
def Go.UB:=@List.nil_append
def Go.UC:=@List.getElem_cons_zero
def Go.UD:=@Bool.not_false
def Go.UE:=@List.all_cons
def Go.UF:=@Array.mem_push
def Go.UG:=@Nat.add_mul
def Go.UH:=@Prod.mk.inj
def Go.UI:=@Bool.and_false
def Go.UJ:=@List.getElem?_toArray
def Go.UK:=@Array.ext
def Go.UL:=@Array.getElem_mem
def Go.UM:=@Bool.false_ne_true
def Go.UN:=@List.take_succ_eq_append_getElem
def Go.UO:=@List.drop_drop
def Go.UP:=@Bool.true_and
def Go.UQ:=@List.range_succ
def Go.UR:=@Array.foldl_toList
def Go.US:=@List.flatMap_append
def Go.UT:=@List.cons_append
def Go.UU:=@Nat.add_comm
def Go.UW:=@List.getD_eq_getElem?_getD
def Go.UX:=@Bool.false_or
def Go.UY:=@List.mem_append_left
def Go.UZ:=@List.getElem_map
def Go.U3:=@Nat.exists_eq_add_of_le
def Go.U4:=@Array.mem_iff_getElem?
def Go.U5:=@Nat.lt_succ_of_lt
def Go.U6:=@Option.ne_none_iff_exists'
def Go.U7:=@Array.ext'
def Go.U8:=@UInt8.toNat_inj
def Go.U9:=@Bool.eq_false_iff
def Go.Va:=@List.take_of_length_le
def Go.Vb:=@List.length_reverse
def Go.Vd:=@List.foldl_append
def Go.Ve:=@Decidable.byContradiction
def Go.Vf:=@List.getElem?_drop
def Go.Vg:=@Int.le_refl
def Go.Vh:=@List.mem_cons_of_mem
def Go.Vi:=@Array.mem_map
def Go.Vj:=@Array.append_empty
def Go.Vk:=@of_decide_eq_false
def Go.Vl:=@List.mem_range
def Go.Vm:=@List.foldl_cons
def Go.Vn:=@Prod.mk.injEq
def Go.Vo:=@Bool.false_and
def Go.Vp:=@Nat.not_le
def Go.Vq:=@List.cons.injEq
def Go.Vr:=@Nat.le_of_lt
def Go.Vs:=@getElem!_pos
def Go.Vt:=@Array.mem_toList_iff
def Go.Vu:=@Array.toList_modify
def Go.Vv:=@List.mem_take_iff_getElem
def Go.Vw:=@Nat.lt_trichotomy
def Go.Vx:=@Array.getElem?_extract
def Go.Vy:=@Array.getElem_toList
def Go.Vz:=@List.ne_nil_of_mem
def Go.VA:=@List.mem_cons_self
def Go.VB:=@Array.getElem?_replicate
def Go.VC:=@Nat.pos_of_ne_zero
def Go.VD:=@List.getElem?_append_right
def Go.VE:=@List.forIn_cons
def Go.VF:=@Std.Legacy.Range.forIn_eq_forIn_range'
def Go.VG:=@Array.replicate_succ
def Go.VH:=@List.mem_flatMap
def Go.VI:=@List.map_cons
def Go.VJ:=@List.ext_getElem
def Go.VK:=@Array.toList_push
def Go.VL:=@List.mem_append_right
def Go.VM:=@Array.getElem?_setIfInBounds_self_of_lt
def Go.VN:=@Nat.le_add_right
def Go.VO:=@List.getElem_range
def Go.VP:=@List.length_range
def Go.VR:=@List.pairwise_cons
def Go.VT:=@Array.all_append
def Go.VU:=@Array.mem_append_left
def Go.VV:=@List.mem_flatten
def Go.VX:=@List.eq_of_mem_replicate
def Go.VY:=@Option.any_some
def Go.VZ:=@List.getElem?_take
def Go.V5:=@Int.tdiv_eq_ediv_of_nonneg
def Go.V7:=@List.findIdx?_eq_some_iff_getElem
def Go.V8:=@List.findIdx?_eq_none_iff
def Go.V9:=@Nat.add_sub_cancel_left
def Go.Wa:=@List.getElem?_cons_zero
def Go.Wb:=@Array.toList_setIfInBounds
def Go.Wc:=@List.getLast?_cons_cons
def Go.Wd:=@Option.isSome_iff_exists
def Go.Wh:=@List.append_cancel_left_eq
def Go.Wi:=@Nat.mod_two_eq_zero_or_one
def Go.Wj:=@List.perm_ext_iff_of_nodup
def Go.Wk:=@Array.mem_or_eq_of_mem_setIfInBounds
def Go.Wl:=@List.pairwise_iff_getElem
def Go.Wm:=@Array.eq_empty_of_size_eq_zero
def Go.Wn:=@List.length_filterMap_le
namespace Go.Tm
structure Ren(G:Nat) where
 rel:Nat->Nat->Prop
 fn:∀r R R',rel r R->rel r R'->R=R'
 inj:∀r r' R,rel r R->rel r' R->r=r'
 dx:∀r R,rel r R->(r<G↔R<G)
instance{G:Nat}:CoeFun (Ren G) (λ_=>Nat->Nat->Prop):=⟨Ren.rel⟩
variable {G:Nat}
def Ren.le(π a:Ren G):Prop:=∀r s,π r s->a r s
def Ren.le_refl(π:Ren G):Ren.le π π:=λ_ _ h=>h
def Ren.le_trans{a b c:Ren G}(h:Ren.le a b)(d:Ren.le b c):Ren.le a c:=λ_ _ x=>d _ _ (h _ _ x)
inductive aO(π:Ren G):Addr->Addr->Prop
 |mk {r s o:Nat} {p:Option Nat}:π r s->aO π ⟨r,o,p⟩ ⟨s,o,p⟩
def aO.mono{π b:Ren G}(l:Ren.le π b){a A}(h:aO π a A):aO b a A:=by cases h with|mk h=>exact .mk (l _ _ h)
def kq:Nat:=74
inductive FnR(π:Ren G):Fn->Fn->Prop
 |func (f):f≠kq->FnR π (.func f) (.func f)
 |yield {l L:Nat}:π l L->FnR π (.yield l) (.yield L)
def FnR.mono{π b:Ren G}(l:Ren.le π b){a A}(h:FnR π a A):FnR b a A:=by cases h with|yield h=>exact .yield (l _ _ h)|func f h=>exact .func f h
def dW:Value->Bool
 | .pointer (some _)| .slice (some _) _ _| .map (some _)| .chan (some _)| .iface _ _=>true
 | .func (.method _) _ _=>false
 | .func _ _ _=>true
 |_=>false
inductive aw(π:Ren G):Value->Value->Prop
 |bool (b):aw π (.bool b) (.bool b)
 |int (k n):aw π (.int k n) (.int k n)
 |float (k b):aw π (.float k b) (.float k b)
 |complex (k a b):aw π (.complex k a b) (.complex k a b)
 |string (s):aw π (.string s) (.string s)
 |Is:aw π (.pointer none) (.pointer none)
 |ptr {a A:Addr}:aO π a A->aw π (.pointer (some a)) (.pointer (some A))
 |iu (l c):aw π (.slice none l c) (.slice none l c)
 |slice {a A:Addr} (l c):aO π a A->aw π (.slice (some a) l c) (.slice (some A) l c)
 |pN (A:Addr):aw π (.slice (some ⟨0,0,some 0⟩) 0 0) (.slice (some A) 0 0)
 |KE:aw π (.map none) (.map none)
 |map {r R:Nat}:π r R->aw π (.map (some r)) (.map (some R))
 |Qc:aw π (.chan none) (.chan none)
 |chan {r R:Nat}:π r R->aw π (.chan (some r)) (.chan (some R))
 |func {fn FN:Fn} {f F c C:Array Value}:FnR π fn FN->f.size=F.size->(∀(i:Nat) x X,f[i]? =some x->F[i]? =some X->aw π x X)->c.size=C.size->(∀(i:Nat) x X,c[i]? =some x->C[i]? =some X->aw π x X)->aw π (.func fn f c) (.func FN F C)
 |nilFunc:aw π .nilFunc .nilFunc
 |iface (t) {v V:Value}:aw π v V->aw π (.iface t v) (.iface t V)
 |nilIface:aw π .nilIface .nilIface
 |agg {c C:Array Value}:c.size=C.size->(∀(i:Nat) x X,c[i]? =some x->C[i]? =some X->aw π x X)->aw π (.agg c) (.agg C)
 |tuple {c C:Array Value}:c.size=C.size->(∀(i:Nat) x X,c[i]? =some x->C[i]? =some X->aw π x X)->aw π (.tuple c) (.tuple C)
 |lS (V):dW V=true->aw π (.tuple #[]) V
 |It (n f c):aw π (.func (.method "") #[.nilIface] #[]) (.func (.method n) f c)
def aw.mono{π d:Ren G}(l:Ren.le π d){v V}(h:aw π v V):aw d v V:=by induction h with|ptr h=>exact .ptr (h.mono l)|slice a b h=>exact .slice a b (h.mono l)|map h=>exact .map (l _ _ h)|chan h=>exact .chan (l _ _ h)|func g i _ j _ k m=>exact .func (g.mono l) i k j m|iface t _ e=>exact .iface t e|agg s _ e=>exact .agg s e|tuple s _ e=>exact .tuple s e|lS V a=>exact .lS V a|It n f c=>exact .It n f c|pN A=>exact .pN A|_=>constructor
def aX{c d:Type}(R:c->d->Prop)(a:Array c)(b:Array d):Prop:=a.size=b.size/\∀(i:Nat) x y,a[i]? =some x->b[i]? =some y->R x y
def aX.mono{c d}{R R':c->d->Prop}{a b}(e:∀x y,R x y->R' x y)(h:aX R a b):aX R' a b:=⟨h.1,λi x y f g=>e _ _ (h.2 i x y f g)⟩
abbrev VsR(π:Ren G):Array Value->Array Value->Prop:=aX (aw π)
def aw.ET{π:Ren G}{c C}(h:VsR π c C):aw π (.agg c) (.agg C):=.agg h.1 h.2
def aw.tuple'{π:Ren G}{c C}(h:VsR π c C):aw π (.tuple c) (.tuple C):=.tuple h.1 h.2
inductive bj{α β:Type}(R:α->β->Prop):List α->List β->Prop
 |nil:bj R [] []
 |cons {x y l m}:R x y->bj R l m->bj R (x::l) (y::m)
def bj.mono{c d}{R R':c->d->Prop}(e:∀x y,R x y->R' x y){a b}(h:bj R a b):bj R' a b:=by induction h with|nil=>exact .nil|cons h _ f=>exact .cons (e _ _ h) f
inductive dH{α β:Type}(R:α->β->Prop):Option α->Option β->Prop
 |none:dH R none none
 |some {x y}:R x y->dH R (some x) (some y)
def dH.mono{c d}{R R':c->d->Prop}(e:∀x y,R x y->R' x y){a b}(h:dH R a b):dH R' a b:=by cases h with|none=>exact .none|some h=>exact .some (e _ _ h)
def bj.length{c d R}{a:List c}{b:List d}(h:bj R a b):a.length=b.length:=by induction h with|nil=>rfl|cons _ _ e=>simp[e]
def bj.append{e f R}{a c:List e}{b d:List f}(h:bj R a b)(g:bj R c d):bj R (a++c) (b++d):=by induction h with|nil=>exact g|cons x _ i=>exact .cons x i
def aX.get{d e R}{a:Array d}{b:Array e}(h:aX R a b)(i:Nat):dH R a[i]? b[i]? :=by obtain hi|hi:=Sr i a.size;have c:=h.1▸hi;rw[SV hi,SV c];exact .some (h.2 i _ _ (SV hi) (SV c));have c:b.size<=i:=h.1▸hi;rw[T1 hi,T1 c];exact .none
def aX.lu{c d R}{a:Array c}{b:Array d}(h:∀i:Nat,dH R a[i]? b[i]?):aX R a b:=by refine⟨?_,λi x y e f=>?_⟩;obtain h1|h1|h1:=Vw a.size b.size;have:=h a.size;rw[T1 (Sp _),SV h1]at this;cases this;exact h1;have:=h b.size;rw[T1 (Sp _),SV h1]at this;cases this;have:=h i;rw[e,f]at this;cases this with|some r=>exact r
def aX.toList{e f R}{a:Array e}{b:Array f}(h:aX R a b):bj R a.toList b.toList:=by
 obtain⟨a⟩:=a;obtain⟨b⟩:=b;simp only[aX,SU,UJ]at h⊢;obtain⟨c,d⟩:=h;induction a generalizing b with
 |nil=>cases b with|nil=>exact .nil|cons _ _=>simp at c
 |cons x a g=>cases b with|nil=>simp at c|cons y b=>exact .cons (d 0 x y rfl rfl) (g b (by simpa using c) λi u v j k=>d (i+1) u v (by simpa using j) (by simpa using k))
def bj.get{c d R}{a:List c}{b:List d}(h:bj R a b)(i:Nat):dH R a[i]? b[i]? :=by
 induction h generalizing i with
 |nil=>simpa using dH.none
 |cons x _ e=>cases i with
  |zero=>simpa using dH.some x
  |succ i=>simpa using e i
def bj.toArray{c d R}{a:List c}{b:List d}(h:bj R a b):aX R a.toArray b.toArray:=aX.lu λi=>by simpa using h.get i
def aX.push{c d R a b}(h:aX R a b){x:c}{y:d}(r:R x y):aX R (a.push x) (b.push y):=aX.lu λi=>by rw[Tt,Tt,h.1];split;exact .some r;exact h.get i
def aX.append{e f R}{a c:Array e}{b d:Array f}(h:aX R a b)(g:aX R c d):aX R (a++c) (b++d):=aX.lu λi=>by rw[Uv,Uv,h.1];split;exact h.get i;exact g.get _
def aX.set{c d R a b}(h:aX R a b)(i){x:c}{y:d}(r:R x y):aX R (a.setIfInBounds i x) (b.setIfInBounds i y):=aX.lu λj=>by rw[Tq,Tq,h.1];split;split;exact .some r;exact .none;exact h.get j
def aX.extract{c d R}{a:Array c}{b:Array d}(h:aX R a b)(i j):aX R (a.extract i j) (b.extract i j):=aX.lu λk=>by rw[Vx,Vx,h.1];split;exact h.get _;exact .none
def aX.empty{a b R}:aX R (#[]:Array a) (#[]:Array b):=⟨rfl,λi x y h=>by simp at h⟩
def aX.map{j k d e R}{S:d->e->Prop}{a b}(h:aX R a b){f:j->d}{g:k->e}(l:∀x y,R x y->S (f x) (g y)):aX S (a.map f) (b.map g):=aX.lu λi=>by rw[S9,S9];have c:=h.get i;revert c;generalize a[i]? =u;generalize b[i]? =v;intro c;cases c with|none=>exact .none|some r=>exact .some (l _ _ r)
def aX.refl{b}{R:b->b->Prop}{a}(h:∀x,x∈a->R x x):aX R a a:=⟨rfl,λi x y c d=>by rw[c]at d;cases d;exact h x (Tx c)⟩
end Go.Tm
namespace Go.Tm
variable {G:Nat}
structure iv(π:Ren G)(e E:MapEntry):Prop where
 key:aw π e.key E.key
 val:aw π e.val E.val
 born:e.born=E.born
inductive pa(π:Ren G):Deferred->Deferred->Prop
 |mk {r R:Nat}:π r R->pa π ⟨.collected r,#[]⟩ ⟨.collected R,#[]⟩
def fJ:Value->Bool
 | .bool _| .int .. | .float .. | .complex .. | .string _| .pointer none| .slice none _ _| .map none| .chan none| .nilFunc| .nilIface=>true
 | .tuple c=>c.isEmpty
 |_=>false
def He:Question->Bool
 | .order _ _=>true
 |_=>false
def KF{q}(h:He q=false)(f id):q≠ .order f id:=λe=>by rw[e]at h;cases h
structure Kn where
 dx:Nat->Bool
 ent:Nat->Bool
 stop:Nat->Bool
 own:Nat->Bool
def Kn.free(S:Kn)(q:Question):Prop:=∀f a,q=.order f a->S.own f=false
def Kn.fK(S:Kn)(g:Question->Nat):Prop:=∀f a,S.own f=true->g (.order f a)=0
def Kn.calm(S:Kn)(g:Question->Nat):Prop:=∀f a,S.ent f=true->S.own f=true->g (.order f a)=0
noncomputable def only(q:Question)(n:Nat):Question->Nat:=open Classical in λa=>if a=q then n else 0
def si(q n):only q n q=n:=Sn rfl
def yP{S:Kn}{q}(h:S.free q)(n):S.fK (only q n):=λf b a=>by unfold only;refine Sm λe=>?_;rw[h f b e.symm]at a;cases a
def EU{S:Kn}{f:FuncId}(h:S.ent f=true){g}(c:S.calm g)(a):S.fK (only (.order f a) (g (.order f a))):=λd b i=>by unfold only;by_cases e:Question.order d b=.order f a;rw[Sn e];cases e;exact c f a h i;exact Sm e
def lT{S:Kn}:S.fK (λ_=>0):=λ_ _ _=>rfl
def bX(S:Kn):Operand->Bool
 | .tmp _=>true
 | .func f=>f !=kq
 | .const v=>fJ v
 | .global g=>S.dx g
def oK:Builtin->Bool
 | .append| .cap| .copy| .len| .max| .min| .unsafeString| .panic=>true
 |_=>false
def kr(S:Kn):Op->Bool
 | .call ⟨.value (.func f),args,_⟩=>f==kq&&args.size==1&&args.all (bX S)
 |_=>false
def Al(S:Kn)(o:Op):Bool:=
 kr S o||(match o with
 | .move _| .assign _| .pick .. | .alloc _| .box .. | .build .. | .buildSlice .. | .insert .. | .load .. | .store .. | .nilCheck _| .binOp .. | .unOp .. | .makeInterface .. | .makeMap .. | .makeSlice .. | .slice ..
 | .fieldAddr .. | .field .. | .indexAddr .. | .index .. | .lookup .. | .mapUpdate .. | .mapEntry .. | .entryStore .. | .range .. | .next .. | .entry _| .extract .. | .panic _=>true
 | .makeFunc (.func f) _ _=>f !=kq
 | .convert s d _=>s !=d
 | .call ⟨.value _,_,_⟩=>true
 | .call ⟨.builtin b,_,_⟩=>oK b
 |_=>false)&&o.operands.all (bX S)
def codeOk(S:Kn):Code->Bool
 | .skip| .exit _| .label _| .goto _| .ret| .refuse _=>true
 | .region _ ops _=>ops.all λo=>Al S o.op
 | .seq a b=>codeOk S a&&codeOk S b
 | .cond c a b=>bX S c&&codeOk S a&&codeOk S b
 | .block _ b| .loop b| .scope b=>codeOk S b
 | .rangeFunc f _ a b=>bX S f&&codeOk S a&&codeOk S b
def Kn.code(S:Kn)(c:Code):Prop:=codeOk S c=true
def pO:TypeId:=1000000
def Qd:Op->Bool
 | .call ⟨.builtin .unsafeSliceData,_,_⟩=>true
 |_=>false
def opD(S:Kn)(o:Op):Bool:=Al S o||(match o with
 | .call ⟨.builtin .unsafeSliceData,args,_⟩=>args.all (bX S)
 |_=>false)
def cj(o:Oper):Oper:=if Qd o.op then{o with type:=pO}else o
def gD:Code->Code
 | .region e ops d=>.region e (ops.map cj) d
 | .seq a b=>.seq (gD a) (gD b)
 |c=>c
def iy(S:Kn):Code->Bool
 | .region _ ops _=>ops.all λo=>opD S o.op
 | .seq a b=>iy S a&&iy S b
 |c=>codeOk S c
def Cd{S:Kn}{o}(h:Al S o=true):Qd o=false:=by
 cases o with
 |call c=>
  obtain⟨k,a,t⟩:=c;cases k with
  |builtin b=>cases b<;>first|rfl|(simp[Al,kr,oK]at h;done)
  |_=>rfl
 |_=>rfl
theorem gF{S:Kn}:∀{c},codeOk S c=true->gD c=c/\iy S c=true
 | .region g ops d,h=>by
  simp only[codeOk]at h;rw[Um]at h;refine⟨?_,?_⟩
  ·show Code.region g (ops.map cj) d=_
   have e:ops.map cj=ops:=by refine UK (by simp) λi q f=>?_;rw[Array.getElem_map];unfold cj;rw[Sm];rw[Cd (h _ (UL f))];simp
   rw[e]
  ·simp only[iy]
   rw[Um];exactλo j=>by unfold opD;rw[h o j];rfl
 | .seq a b,h=>by simp only[codeOk,SG]at h;obtain⟨k,m⟩:=gF h.1;obtain⟨n,p⟩:=gF h.2;exact⟨by simp only[gD,k,n],by simp only[iy,m,p,Bool.and_self]⟩
 | .skip,h| .exit _,h| .label _,h| .goto _,h| .ret,h| .refuse _,h| .cond ..,h| .rangeFunc ..,h| .block ..,h| .loop _,h| .scope _,h=>⟨rfl,h⟩
structure Ce(S:Kn)(π:Ren G)(l L:Loop):Prop where
 state:l.state=L.state
 pending:l.pending=L.pending
 RH:∀c,l.pending=some c->S.code c
 fn:l.fn=L.fn
 ent:S.ent l.fn=true
 tmps:VsR π l.tmps L.tmps
 params:l.params=L.params
 assign:l.assign=L.assign
 Qe:S.code l.assign
 body:l.body=L.body
 Qf:S.code l.body
 defers:π l.defers L.defers
def Iu(n:Nat)(f F:Nat×Nat):Prop:=F=f\/(f.1=0/\n<f.2/\F.2<=f.2)
def grow(f:Nat×Nat)(a n:Nat):Nat×Nat:=if f.1==f.2 then(a,a+n)else(min f.1 a,max f.2 (a+n))
def Fle(f F:Nat×Nat):Prop:=F=f\/(F.1<F.2/\(f.1=f.2\/(F.1<=f.1/\f.2<=F.2)))
def Fle.refl(f):Fle f f:=.inl rfl
def Fle.trans{a b c}(h:Fle a b)(e:Fle b c):Fle a c:=by obtain rfl|⟨f,h2⟩:=h;exact e;obtain rfl|⟨g,d⟩:=e;exact .inr ⟨f,h2⟩;refine .inr ⟨g,?_⟩;obtain h2|h2:=h2;exact .inl h2;rcases d with d|d<;>omega
def Fle.back{a b}(h:Fle a b)(c:Fle b a):b=a:=by obtain h|⟨d,e⟩:=h;exact h;obtain c|⟨f,g⟩:=c;exact c.symm;(have:b.1=a.1/\b.2=a.2:=by omega);exact Prod.ext this.1 this.2
def KG(f a n)(b:n≠0):Fle f (grow f a n):=by unfold grow;by_cases h:f.1=f.2;rw[Sn (by simpa using h)];exact .inr ⟨by simp;omega,.inl h⟩;rw[Sm (by simpa using h)];exact .inr ⟨by simp;omega,.inr (by simp;omega)⟩
inductive fA(S:Kn)(π:Ren G):Obj->Obj->Prop
 |cells {c C:Array Value} (e:TypeId) {f F:Nat×Nat}:VsR π c C->Iu c.size f F->fA S π (.cells c e f) (.cells C e F)
 |map {es ES:Array MapEntry} (n:Nat):aX (iv π) es ES->fA S π (.map es n) (.map ES n)
 |stringIter (s p):fA S π (.stringIter s p) (.stringIter s p)
 |eZ (a b c):fA S π (.mapIter none a b c) (.mapIter none a b c)
 |mapIter {m M:Nat} (a b c):π m M->fA S π (.mapIter (some m) a b c) (.mapIter (some M) a b c)
 |loop {l L:Loop}:Ce S π l L->fA S π (.loop l) (.loop L)
 |deferred:fA S π (.deferred (some [])) (.deferred (some []))
 |eC:fA S π (.deferred none) (.deferred none)
 |number {a A:Addr} (l:Bool):aO π a A->fA S π (.number a l) (.number A l)
 |view {a A:Addr} (t:TypeId):aO π a A->fA S π (.view a t) (.view A t)
section mono
variable {S:Kn} {π π':Ren G} (l:Ren.le π π')
include l
def VsR.mono{c C:Array Value}(h:VsR π c C):VsR π' c C:=aX.mono (λ_ _ x=>x.mono l) h
def iv.mono{e E:MapEntry}(h:iv π e E):iv π' e E:=⟨h.key.mono l,h.val.mono l,h.born⟩
def pa.mono{e E:Deferred}(h:pa π e E):pa π' e E:=by cases h with|mk a=>exact .mk (l _ _ a)
def Ce.mono{e E:Loop}(h:Ce S π e E):Ce S π' e E:={h with tmps:=VsR.mono l h.tmps,defers:=l _ _ h.defers}
def fA.mono{o O:Obj}(h:fA S π o O):fA S π' o O:=by cases h with|cells e h f=>exact .cells e (VsR.mono l h) f|map n h=>exact .map n (aX.mono (λ_ _ x=>x.mono l) h)|stringIter=>exact .stringIter _ _|eZ=>exact .eZ _ _ _|mapIter a b c h=>exact .mapIter a b c (l _ _ h)|loop h=>exact .loop (h.mono l)|deferred=>exact .deferred|eC=>exact .eC|number b h=>exact .number b (h.mono l)|view t h=>exact .view t (h.mono l)
end mono
structure bn(S:Kn)(Pr:Nat->Prop)(π:Ren G)(w W:World):Prop where
 obj:∀r R,π r R->∃o O,w.heap[r]? =some o/\W.heap[R]? =some O/\fA S π o O
 ux:∀r R,π r R->Pr R->∃c e f,w.heap[r]? =some (.cells c e f)/\f.1=0/\c.size<f.2
 vi:∀R,Pr R->R<W.heap.size
 gw:G<=w.heap.size
 gW:G<=W.heap.size
 w0:∃c e f,w.heap[0]? =some (.cells c e f)
def au(w:World)(τ:Nat->Question->Nat)(d:Nat):World:={w with tape:=τ,drawn:=d}
def Fits(τ:Nat->Question->Nat)(d:Nat)(l:List (Question->Nat)):Prop:=∀i g,l[i]? =some g->τ (d+i)=g
def Fits.head{τ d g l}(h:Fits τ d (g::l)):τ d=g:=h 0 g rfl
def Fits.tail{τ d g l}(h:Fits τ d (g::l)):Fits τ (d+1) l:=λi g' a=>by have:=h (i+1) g' (by simpa using a);rw[show d+1+i=d+(i+1) by omega];exact this
def lx(d:Nat)(l:List (Question->Nat)):Nat->Question->Nat:=λn=>(l[n-d]?).getD λ_=>0
def kR(d l):Fits (lx d l) d l:=λi g h=>by unfold lx;rw[show d+i-d=i by omega,h];rfl
structure Chg(Pr:Nat->Prop)(π:Ren G)(W W':World)(π':Ren G):Prop where
 os:W'.os=W.os
 tape:W'.tape=W.tape
 output:W'.output=W.output
 size:W.heap.size<=W'.heap.size
 keep:∀b,b<W.heap.size->(¬∃r,π r b)->W'.heap[b]? =W.heap[b]?
 nA:∀b,Pr b->∀c e F,W.heap[b]? =some (Obj.cells c e F)->∃F',W'.heap[b]? =some (Obj.cells c e F')
 fz:∀(b:Nat) c e F,W.heap[b]? =some (Obj.cells c e F)->∃c' F',W'.heap[b]? =some (Obj.cells c' e F')/\Fle F F'
 old:∀r R,π' r R->π r R\/W.heap.size<=R
 new:∀R,W.heap.size<=R->R<W'.heap.size->∃r,π' r R
 le:Ren.le π π'
def Chg.refl(Pr)(π:Ren G)(W):Chg Pr π W W π:=⟨rfl,rfl,rfl,Sp _,λ_ _ _=>rfl,λ_ _ _ _ F h=>⟨F,h⟩,λ_ c _ F h=>⟨c,F,h,.refl _⟩,λ_ _ h=>.inl h,λ_ a b=>absurd b (TD.2 a),λ_ _ h=>h⟩
def Chg.trans{Pr}{π π' π'':Ren G}{W j g}(h:Chg Pr π W j π')(d:Chg Pr π' j g π''):Chg Pr π W g π'':=by refine⟨d.os.trans h.os,d.tape.trans h.tape,d.output.trans h.output,Sq h.size d.size,λb f q=>?_,λb f c e F k=>?_,λb c e F k=>?_,λr R i=>?_,λR a b=>?_,Ren.le_trans h.le d.le⟩;rw[d.keep b (Su f h.size) ?_,h.keep b f q];(exactλ⟨r,i⟩=>(h.old r b i).elim (λx=>q ⟨r,x⟩) λx=>absurd f (TD.2 x));obtain⟨m,n⟩:=h.nA b f c e F k;exact d.nA b f c e m n;obtain⟨c',m,n,s⟩:=h.fz b c e F k;obtain⟨o,p,t,u⟩:=d.fz b c' e m n;exact⟨o,p,t,s.trans u⟩;obtain x|x:=d.old r R i;exact h.old r R x;exact .inr (Sq h.size x);obtain x|x:=Sr R j.heap.size;obtain⟨r,i⟩:=h.new R a x;exact⟨r,d.le _ _ i⟩;exact d.new R x b
def kQ(Pr:Nat->Prop)(π:Ren G)(e:Event):Prop:=
 match e.loc with
 | .cell A=>e.sync=false/\(∃r,π r A.block)/\(e.write=true->¬Pr A.block)
 | .obj R=>e.sync=false/\(∃r,π r R)/\(e.write=true->¬Pr R)
 | .mark (.extern _)=>True
 | .mark .noRoom=>True
 |_=>False
def kQ.mono{Pr}{π π':Ren G}(l:Ren.le π π'){e}(h:kQ Pr π e):kQ Pr π' e:=by unfold kQ at*;split<;>simp_all;obtain⟨_,⟨r,a⟩,_⟩:=h;exact⟨r,l _ _ a⟩;obtain⟨_,⟨r,a⟩,_⟩:=h;exact⟨r,l _ _ a⟩
def ga:Halt->Prop
 | .panic _| .stuck _=>True
 | .unsupported (.initOrder _)=>False
 | .unsupported _=>True
 |_=>False
def nB(w w':World):Prop:=∀(r:Nat) (o:Obj),w.heap[r]? =some o->w'.heap[r]? =some o
def nB.refl(w):nB w w:=λ_ _ h=>h
def nB.trans{a b c}(h:nB a b)(d:nB b c):nB a c:=λr o x=>d r o (h r o x)
def cu{c}(s:Sem c):Prop:=∀(P:Program) (w:World) (es:Array Event),(∃a w' b,s.runT P w es=(.ok a w',b)/\nB w w')\/∃h w' b,s.runT P w es=(.halt h w',b)/\ga h/\nB w w'
def dK{b}(s:Sem b):Prop:=∀(P:Program) (w:World) (es:Array Event),∃h w' a,s.runT P w es=(.halt h w',a)/\ga h/\nB w w'
def dK.halt{a:Type}(h:Halt)(b:ga h:=by exact True.intro):dK (Sem.halt h:Sem a):=λ_ w es=>⟨h,w,es,rfl,b,.refl _⟩
def runT_bind'{e g}(P)(f:e->Sem g)(s:Sem e):∀(w) (es),(∃a w' d,s.runT P w es=(.ok a w',d)/\(s.bind f).runT P w es=(f a).runT P w' d)\/(∃h w' d,s.runT P w es=(.halt h w',d)/\(s.bind f).runT P w es=(.halt h w',d)):=by
 induction s with
 |pure a=>exactλw es=>.inl ⟨a,w,es,rfl,rfl⟩
 |load m a k b=>intro w es;simp only[Sem.bind,Sem.runT];cases w.cell? a with|some v=>exact b v w _|none=>simp only[];cases w.farLoad P a (m== .atomic)with|ok r=>exact b r.1 w _|error h=>exact .inr ⟨h,w,es,rfl,rfl⟩
 |store m a v k b=>intro w es;cases v with|agg=>exact .inr ⟨_,w,es,rfl,rfl⟩|tuple=>exact .inr ⟨_,w,es,rfl,rfl⟩|_=>simp only[Sem.bind,Sem.runT];cases w.cell? a with|some v=>simp only[];split;exact .inr ⟨_,w,es,rfl,rfl⟩;exact b _ _|none=>simp only[];split;exact b _ _;exact .inr ⟨_,w,es,rfl,rfl⟩
 |new o k b=>exactλw es=>b _ _ _
 |shape r k b=>exactλw es=>b _ _ _
 |freeze a n k b=>exactλw es=>b _ _
 |frozen a k b=>exactλw es=>b _ _ _
 |getObj r k b=>intro w es;simp only[Sem.bind,Sem.runT];split;exact .inr ⟨_,w,es,rfl,rfl⟩;exact b _ _ _;exact .inr ⟨_,w,es,rfl,rfl⟩
 |setObj r o k b=>intro w es;simp only[Sem.bind,Sem.runT];split;exact .inr ⟨_,w,es,rfl,rfl⟩;exact b _ _;exact .inr ⟨_,w,es,rfl,rfl⟩
 |choose q k b=>intro w es;simp only[Sem.bind,Sem.runT];split;exact b _ _ _;exact b _ _ _
 |sys c k b=>exactλw es=>b _ _ _
 |program k b=>exactλw es=>b _ _ _
 |mark m k b=>exactλw es=>b _ _
 |halt h=>exactλw es=>.inr ⟨h,w,es,rfl,rfl⟩
def eD{p q}(s)(f:p->Sem q)(c:dK s\/(cu s/\∀a,dK (f a))):dK (s>>= f):=by show dK (s.bind f);intro P w es;obtain⟨a,w1,e,d,m⟩|⟨h,w1,e,d,m⟩:=runT_bind' P f s w es;rw[m];obtain c|⟨n,c⟩:=c;obtain⟨h,w2,b,g,_⟩:=c P w es;rw[d]at g;simp at g;obtain⟨h,w3,o,r,i,j⟩:=c a P w1 e;obtain⟨t,w2,b,g,k⟩|⟨h,w2,b,g,_⟩:=n P w es;rw[d]at g;cases g;exact⟨h,w3,o,r,i,k.trans j⟩;rw[d]at g;simp at g;rw[m];obtain c|⟨n,c⟩:=c;obtain⟨u,w2,b,g,i,j⟩:=c P w es;rw[d]at g;cases g;exact⟨_,_,_,rfl,i,j⟩;obtain⟨t,w2,b,g,k⟩|⟨u,w2,b,g,i,j⟩:=n P w es;rw[d]at g;simp at g;rw[d]at g;cases g;exact⟨_,_,_,rfl,i,j⟩
def dK.Qg{a}{s:Sem a}(h:dK s):cu s:=λP w es=>.inr (h P w es)
def cu.bind{q r s}{f:q->Sem r}(h:cu s)(t:∀a,cu (f a)):cu (s>>= f):=by show cu (s.bind f);intro P w es;obtain⟨a,w1,e,i,m⟩|⟨v,w1,e,i,m⟩:=runT_bind' P f s w es;rw[m];obtain⟨u,w2,c,g,k⟩|⟨n,w2,c,g,_⟩:=h P w es;rw[i]at g;cases g;obtain⟨b,w3,d,o,j⟩|⟨n,w3,d,o,j,p⟩:=t a P w1 e;exact .inl ⟨b,w3,d,o,k.trans j⟩;exact .inr ⟨n,w3,d,o,j,k.trans p⟩;rw[i]at g;simp at g;rw[m];obtain⟨u,w2,c,g,k⟩|⟨n,w2,c,g,j,p⟩:=h P w es;rw[i]at g;simp at g;rw[i]at g;cases g;exact .inr ⟨_,_,_,rfl,j,p⟩
def cu.pure{b}(a):cu (Pure.pure a:Sem b):=λ_ w es=>.inl ⟨a,w,es,rfl,.refl _⟩
def cu.ite{a c}[Decidable c]{s t:Sem a}(h:cu s)(b:cu t):cu (if c then s else t):=by split<;>assumption
def cu.stuck{a}(m):cu (Go.stuck m:Sem a):=(dK.halt _).Qg
def cu.unsupported{a:Type}(u:Unsupported)(h:ga (.unsupported u):=by exact True.intro):cu (Go.unsupported u:Sem a):=(dK.halt _ h).Qg
def cu.program:cu Go.program:=λP w es=>.inl ⟨P,w,es,rfl,.refl _⟩
def cu.choose(q):cu (Go.choose q):=by intro P w es;by_cases h:q.forced=true;exact .inl ⟨0,w,es,by simp[Go.choose,Sem.runT,h],.refl _⟩;exact .inl ⟨_,{w with drawn:=w.drawn+1},es,by simp[Go.choose,Sem.runT,h];rfl,λ_ _ h=>h⟩
def cu.shape(r):cu (Go.shape r):=λ_ w es=>.inl ⟨_,w,es,rfl,.refl _⟩
def cu.frozen(a):cu (Go.frozen a):=λ_ w es=>.inl ⟨_,w,es,rfl,.refl _⟩
def cu.mark(m):cu (Go.mark m):=λ_ w _=>.inl ⟨_,w,_,rfl,.refl _⟩
def cu.newObj(o):cu (Go.newObj o):=λ_ w es=>.inl ⟨_,_,es,rfl,λr x h=>by have:=(Sw.1 h).1;simp only[Tt];rw[Sm (by omega)];exact h⟩
def KH{e}(a:Ask e):∀w:World,(w.ask a).2.heap=w.heap:=by induction a with|done a=>exactλ_=>rfl|ask c b k d=>intro w;simp only[World.ask];split;exact d _ _;exact(d _ _).trans rfl
def KI(w:World)(c):(w.sys c).2.heap=w.heap:=by unfold World.sys;have:=KH (Kernel.perform c w.os) w;split;rfl;rename_i h;rw[h]at this;exact this
def cu.sys(c):cu (Go.sys c):=λ_ w es=>.inl ⟨_,(w.sys c).2,_,rfl,λr x h=>by rw[KI];exact h⟩
inductive SR(S:Kn)(PS P:Program){α β:Type}(Q:Ren G->α->β->Prop):Ren G->Sem α->Sem β->Prop
 |pure {π a b}:Q π a b->SR S PS P Q π (.pure a) (.pure b)
 |load {π a A k K}:aO π a A->(∀v V,aw π v V->SR S PS P Q π (k v) (K V))->SR S PS P Q π (.load .plain a k) (.load .plain A K)
 |store {π a A v V k K}:aO π a A->aw π v V->SR S PS P Q π k K->SR S PS P Q π (.store .plain a v k) (.store .plain A V K)
 |new {π o O k K}:fA S π o O->(∀π' r R,Ren.le π π'->π' r R->SR S PS P Q π' (k r) (K R))->SR S PS P Q π (.new o k) (.new O K)
 |shape {π r R k K}:π r R->(∀s,SR S PS P Q π (k s) (K s))->SR S PS P Q π (.shape r k) (.shape R K)
 |freeze {π a A n k K}:aO π a A->SR S PS P Q π k K->SR S PS P Q π (.freeze a n k) (.freeze A n K)
 |frozen {π a A k K}:aO π a A->(∀b B:Bool,(B=true->b=true)->SR S PS P Q π (k b) (K B))->SR S PS P Q π (.frozen a k) (.frozen A K)
 |getObj {π r R k K}:π r R->(∀o O,fA S π o O->SR S PS P Q π (k o) (K O))->SR S PS P Q π (.getObj r k) (.getObj R K)
 |setObj {π r R o O k K}:π r R->(∀c e f,o≠ .cells c e f)->fA S π o O->SR S PS P Q π k K->SR S PS P Q π (.setObj r o k) (.setObj R O K)
 |choose {π q k K}:S.free q->(∀n,SR S PS P Q π (k n) (K n))->SR S PS P Q π (.choose q k) (.choose q K)
 |program {π k K}:SR S PS P Q π (k PS) (K P)->SR S PS P Q π (.program k) (.program K)
 |ks {π k s'}:SR S PS P Q π (k PS) s'->SR S PS P Q π (.program k) s'
 |extern {π f k K}:SR S PS P Q π k K->SR S PS P Q π (.mark (.extern f) k) (.mark (.extern f) K)
 |noRoom {π k K}:SR S PS P Q π k K->SR S PS P Q π (.mark .noRoom k) (.mark .noRoom K)
 |mD {π q k s' n} (t:Nat):S.free q->(if q.forced then n=0 else q.cut t=n)->SR S PS P Q π (k n) s'->SR S PS P Q π (.choose q k) s'
 |sj {π s r K}:(∀x,SR S PS P Q π s (K x))->SR S PS P Q π s (.shape r K)
 |sk {π k s'}:(∀x,SR S PS P Q π (k (some x)) s')->SR S PS P Q π (.shape 0 k) s'
 |oL {π s a K}:(∀x,SR S PS P Q π s (K x))->SR S PS P Q π s (.frozen a K)
 |never {π s s'}:dK s->SR S PS P Q π s s'
def SR.bind{S i P k m p u Q₁ Q}{π:Ren G}{s s'}{f:k->Sem p}{F:m->Sem u} (h:SR S i P Q₁ π s s') (d:∀π',Ren.le π π'->∀a b,Q₁ π' a b->SR S i P Q π' (f a) (F b)):SR S i P Q π (s>>= f) (s'>>= F):=by show SR S i P Q π (s.bind f) (s'.bind F);induction h with|pure q=>exact d _ (Ren.le_refl _) _ _ q|load a _ c=>exact .load a λv V w=>c v V w d|store a v _ c=>exact .store a v (c d)|new o _ c=>exact .new o λπ' r R l x=>c π' r R l x λg y=>d g (Ren.le_trans l y)|shape r _ c=>exact .shape r λs=>c s d|freeze a _ c=>exact .freeze a (c d)|frozen a _ c=>exact .frozen a λb B x=>c b B x d|getObj r _ c=>exact .getObj r λo O x=>c o O x d|setObj r n o _ c=>exact .setObj r n o (c d)|choose j _ c=>exact .choose j λn=>c n d|program _ c=>exact .program (c d)|ks _ c=>exact .ks (c d)|extern _ c=>exact .extern (c d)|noRoom _ c=>exact .noRoom (c d)|mD t j e _ c=>exact .mD t j e (c d)|sj _ c=>exact .sj λx=>c x d|sk _ c=>exact .sk λx=>c x d|oL _ c=>exact .oL λx=>c x d|never n=>exact .never (eD _ _ (.inl n))
def SR.mono{S i P j k Q Q'}{π:Ren G}{s:Sem j}{s':Sem k} (h:SR S i P Q π s s') (d:∀π',Ren.le π π'->∀a b,Q π' a b->Q' π' a b):SR S i P Q' π s s':=by induction h with|pure q=>exact .pure (d _ (Ren.le_refl _) _ _ q)|load a _ c=>exact .load a λv V m=>c v V m d|store a v _ c=>exact .store a v (c d)|new o _ c=>exact .new o λπ' r R l x=>c π' r R l x λf p=>d f (Ren.le_trans l p)|shape r _ c=>exact .shape r λs=>c s d|freeze a _ c=>exact .freeze a (c d)|frozen a _ c=>exact .frozen a λb B x=>c b B x d|getObj r _ c=>exact .getObj r λo O x=>c o O x d|setObj r n o _ c=>exact .setObj r n o (c d)|choose g _ c=>exact .choose g λn=>c n d|program _ c=>exact .program (c d)|ks _ c=>exact .ks (c d)|extern _ c=>exact .extern (c d)|noRoom _ c=>exact .noRoom (c d)|mD t g e _ c=>exact .mD t g e (c d)|sj _ c=>exact .sj λx=>c x d|sk _ c=>exact .sk λx=>c x d|oL _ c=>exact .oL λx=>c x d|never n=>exact .never n
end Go.Tm
namespace Go.Tm
variable {G:Nat} {S:Kn} {Pr:Nat->Prop} {π:Ren G} {w W:World}
def ah(P:Program)(fs:Array Func):Program:={P with funcs:=fs}
def Iv(P fs t):(ah P fs).info? t=P.info? t:=rfl
def jy(P fs t):(ah P fs).underlying t=P.underlying t:=rfl
def fR(P fs):∀(d) (t) (off),byteOfCell (ah P fs) d t off=byteOfCell P d t off:=by intro d;induction d with|zero=>exactλ_ _=>rfl|succ d a=>intro t off;unfold byteOfCell;simp only[a];rfl
def sq(P fs):∀(d) (t) (off),cellHolding (ah P fs) d t off=cellHolding P d t off:=by intro d;induction d with|zero=>exactλ_ _=>rfl|succ d a=>intro t off;unfold cellHolding;simp only[a];rfl
def vl(P fs):∀(d) (t) (off),plainCell (ah P fs) d t off=plainCell P d t off:=by intro d;induction d with|zero=>exactλ_ _=>rfl|succ d a=>intro t off;unfold plainCell;simp only[a];rfl
def EV(P fs):∀(d) (t),tight (ah P fs) d t=tight P d t:=by intro d;induction d with|zero=>exactλ_=>rfl|succ d a=>intro t;unfold tight;simp only[a];rfl
def aw.bytes{v V}(h:aw π v V){bs}(a:v.bytes?=some bs):V=v:=by cases h<;>first|rfl|(simp[Value.bytes?]at a)
def pb{v x bs}(h:v.ofBytes bs=some x):aw π x x/\∀V,aw π v V->V=v:=by (cases v<;>simp only[Value.ofBytes]at h;case bool=>refine⟨?_,λV a=>by cases a;rfl⟩;split at h<;>first|(cases h;constructor)|cases h);(case int=>refine⟨?_,λV a=>by cases a;rfl⟩;split at h<;>first|(cases h;constructor)|cases h);(case float=>refine⟨?_,λV a=>by cases a;rfl⟩;split at h<;>first|(cases h;constructor)|cases h);(case complex=>refine⟨?_,λV a=>by cases a;rfl⟩;split at h<;>first|(cases h;constructor)|cases h);all_goals cases h
def xV(P fs){c C}(n:VsR π c C)(e):∀(f x stop) (l),seenCells (ah P fs) c e f x stop=.ok l->seenCells P C e f x stop=.ok l:=by intro f;induction f with|zero=>intro x stop l h;simp[seenCells]at h|succ f o=>intro x stop l h;unfold seenCells at h⊢;simp only[show(ah P fs).depth=P.depth from rfl,show ∀t,(ah P fs).cellsOf t=P.cellsOf t fromλ_=>rfl,show ∀t,(ah P fs).bytesOf t=P.bytesOf t fromλ_=>rfl,sq]at h;dsimp only at h⊢;split;rename_i d;rw[Sn d]at h;exact h;rename_i d;rw[Sm d]at h;split;rename_i g;rw[Sn g]at h;cases h;rename_i g;rw[Sm g]at h;split;rename_i j;rw[j]at h;cases h;rename_i i s j;rw[j]at h;simp only[]at h⊢;have k:=n.get i;revert k h;generalize c[i]? =u;generalize C[i]? =v;intro h k;cases k with|none=>cases h| @some v V r=>simp only[]at h⊢;cases a:v.bytes? with|none=>rw[a]at h;cases h|some bs=>rw[r.bytes a,a];rw[a]at h;cases bs with|nil=>cases h|cons b bs=>simp only[]at h⊢;cases m:seenCells (ah P fs) c e f (s+(b::bs).length) stop with|error _=>rw[m]at h;cases h|ok p=>rw[o _ _ _ m];rw[m]at h;exact h
def Cg{P fs}(i:∀r R,π r R->∃o O,w.heap[r]? =some o/\W.heap[R]? =some O/\fA S π o O) {a A k K} (D:aO π a A) (E:aO π k K) (u) {x} (h:w.seen (ah P fs) a u k false=.ok x):∃c e f b l cs C F,x=(c,e,f,b,l,cs)/\W.seen P A u K false=.ok (C,e,F,b,l,cs)/\w.heap[a.block]? =some (.cells c e f)/\W.heap[A.block]? =some (.cells C e F)/\VsR π c C/\Iu c.size f F:=by
 cases D with
 | @mk r R o p H=>
 cases E with
 | @mk Q R' o' I J=>
 obtain⟨ob,T,m,L,M⟩:=i _ _ H;unfold World.seen at h⊢;simp only[m,vl,fR,show(ah P fs).depth=P.depth from rfl,show ∀t,(ah P fs).cellsOf t=P.cellsOf t fromλ_=>rfl,show ∀t,(ah P fs).bytesOf t=P.bytesOf t fromλ_=>rfl]at h;simp only[L];by_cases g:(I.isSome||p.isSome)=true;rw[Sn g]at h;cases h
 rw[Sm g]at h⊢;cases n:plainCell P P.depth u o' with
 |none=>rw[n]at h;cases h
 |some d=>
 rw[n]at h;simp only[]at h⊢;cases q:Option.map (λx:List UInt8=>x.length) d.bytes? with
 |none=>rw[q]at h;cases h
 |some size=>
 rw[q]at h;simp only[]at h⊢;cases s:byteOfCell P P.depth u o' with
 |none=>rw[s]at h;cases h
 |some v=>
 rw[s]at h;simp only[]at h⊢;cases M with
 | @cells c C e f F y N=>simp only[]at h⊢;by_cases z:P.cellsOf e=0;rw[Sn z]at h;cases h;rw[Sm z]at h⊢;cases j:byteOfCell P P.depth e (o%P.cellsOf e)with|none=>rw[j]at h;cases h|some B=>rw[j]at h;simp only[]at h⊢;cases g:seenCells (ah P fs) c e (size+1) (o/P.cellsOf e*P.bytesOf e+B+v) (o/P.cellsOf e*P.bytesOf e+B+v+size)with|error _=>rw[g]at h;cases h|ok cs=>rw[xV P fs y e _ _ _ _ g];rw[g]at h;cases h;exact⟨c,e,f,_,d,cs,C,F,rfl,rfl,m,rfl,y,N⟩
 |_=>cases h
def Am{P fs}(d:∀r R,π r R->∃o O,w.heap[r]? =some o/\W.heap[R]? =some O/\fA S π o O) {a A k K} (i:aO π a A) (j:aO π k K) (u) {v} {t} (h:w.viewLoad (ah P fs) a u k false=.ok (v,t)):∃T,W.viewLoad P A u K false=.ok (v,T)/\aw π v v/\∀X∈T,X.block=A.block:=by unfold World.viewLoad at h⊢;cases g:w.seen (ah P fs) a u k false with|error _=>rw[g]at h;cases h|ok x=>obtain⟨c,e,f,b,l,cs,C,F,rfl,m,_,_,_,_⟩:=Cg d i j u g;rw[g]at h;rw[m];dsimp only[bind,Except.bind]at h⊢;split at h;rename_i q n;cases h;exact⟨_,rfl,(pb n).1,λX p=>by obtain⟨x,_,rfl⟩:=T2.1 p;rfl⟩;cases h
def EW{i σ τ j:Type}{g:σ->i->Except j σ}{g':τ->i->Except j τ}{I:σ->τ->Prop}{H}(b:∀c C x c',I c C->g c x=.ok c'->∃a,g' C x=.ok a/\I c' a/\H):∀(cs) {c} {C} {c'},I c C->cs.foldlM g c=.ok c'->∃a,cs.foldlM g' C=.ok a/\I c' a/\(cs=[]->a=C)/\(cs≠[]->H):=by intro cs;induction cs with|nil=>intro c C c' d h;cases h;exact⟨C,rfl,d,λ_=>rfl,λh=>absurd rfl h⟩|cons x cs k=>intro c C c' d h;simp only[List.foldlM_cons]at h⊢;cases f:g c x with|error e=>rw[f]at h;cases h|ok p=>obtain⟨q,e1,l,m⟩:=b _ _ _ _ d f;rw[f]at h;obtain⟨a,n,o,_,_⟩:=k l h;exact⟨a,by rw[e1];exact n,o,by simp,λ_=>m⟩
def xW{P fs}(m:∀r R,π r R->∃o O,w.heap[r]? =some o/\W.heap[R]? =some O/\fA S π o O) {a A k K} (ha:aO π a A) (hk:aO π k K) (u) {v V} (hv:aw π v V) {w'} {t} (h:w.viewStore (ah P fs) a u k v false=.ok (w',t)):∃c e f C F c' d T,W.viewStore P A u K V false=.ok ({W with heap:=W.heap.setIfInBounds A.block (.cells d e F)},T)/\w'={w with heap:=w.heap.setIfInBounds a.block (.cells c' e f)}/\w.heap[a.block]? =some (.cells c e f)/\W.heap[A.block]? =some (.cells C e F)/\VsR π c C/\VsR π c' d/\c'.size=c.size/\Iu c'.size f F/\(T≠[]->¬(f.1=0/\c.size<f.2))/\(T=[]->d=C)/\∀X∈T,X.block=A.block:=by unfold World.viewStore at h⊢;rw[EV]at h;simp only[show(ah P fs).depth=P.depth from rfl]at h;by_cases Q:(!tight P P.depth u)=true;rw[Sn Q]at h;cases h;rw[Sm Q]at h⊢;cases B:w.seen (ah P fs) a u k false with|error _=>rw[B]at h;cases h|ok x=>obtain⟨c,e,f,b,l,cs,C,F,rfl,g,j,D,U,Y⟩:=Cg m ha hk u B;rw[B]at h;rw[g];dsimp only[bind,Except.bind,pure,Except.pure]at h⊢;cases q:v.bytes? with|none=>rw[q]at h;cases h|some bytes=>rw[hv.bytes q,q];rw[q]at h;dsimp only at h⊢;by_cases Z:some bytes.length≠Option.map (λx=>x.length) l.bytes?;rw[Sn Z]at h;cases h;rw[Sm Z]at h⊢;split at h;cases h;rename_i c' E;generalize J:(List.foldlM _ C cs:Except String (Array Value))=X;(suffices key:∃d,X=.ok d/\(VsR π c' d/\c'.size=c.size)/\(cs=[]->d=C)/\(cs≠[]->¬(f.1=0/\c.size<f.2)) by obtain⟨d,k1,⟨k2,k3⟩,k4,k5⟩:=key;cases h;refine⟨c,e,f,C,F,c',d,cs.map λx=>{block:=A.block,off:=x.1},by rw[k1],rfl,j,D,U,k2,k3,k3▸Y,λL=>k5 (λh0=>L (by rw[h0];rfl)),λL=>k4 (List.map_eq_nil_iff.1 L),λX J=>by obtain⟨x,_,rfl⟩:=T2.1 J;rfl⟩);rw[<-J];refine EW (I:=λy M=>VsR π y M/\y.size=c.size) (H:=¬(f.1=0/\c.size<f.2)) ?_ cs ⟨U,rfl⟩ E;rintro y M ⟨i,s,bs⟩ c2 ⟨n,N⟩ h;dsimp only at h⊢;by_cases h1:(decide (s<b)||decide (s+bs.length>b+bytes.length))=true;rw[Sn h1]at h;cases h;rw[Sm h1]at h⊢;by_cases g:(decide (f.1<=i)&&decide (i<f.2))=true;rw[Sn g]at h;cases h;have p:=n.get i;cases j:y[i]? with|none=>rw[Sm g,j]at h;cases h|some old=>(rw[j]at p;have hi:=(Sw.1 j).1;have D:¬(decide (F.1<=i)&&decide (i<F.2))=true:=by obtain rfl|⟨g1,g2,g3⟩:=Y;exact g;simp only[SG,SP]at g;omega);rw[Sm g,j]at h;rw[Sm D];cases hC:M[i]? with|none=>rw[hC]at p;cases p|some aa=>rw[hC]at p;cases p with|some hr=>dsimp only at h⊢;cases z:old.ofBytes ((bytes.drop (s-b)).take bs.length)with|none=>rw[z]at h;cases h|some new=>rw[z]at h;have⟨p1,p2⟩:=pb (π:=π) z;rw[p2 _ hr,z];dsimp only at h⊢;cases h;refine⟨_,rfl,⟨n.set i p1,by simpa using N⟩,?_⟩;simp only[SG,SP]at g;omega
def su(P w τ d a k u v m):(au w τ d).viewStore P a u k v m=(w.viewStore P a u k v m).map λx=>(au x.1 τ d,x.2):=by unfold World.viewStore;rw[show(au w τ d).seen P a u k m=w.seen P a u k m from rfl];by_cases g:(!tight P P.depth u)=true;rw[Sn g,Sn g];rfl;rw[Sm g,Sm g];cases w.seen P a u k m with|error _=>rfl|ok x=>obtain⟨c,e,f,b,l,cs⟩:=x;dsimp only[bind,Except.bind,pure,Except.pure];cases v.bytes? with|none=>rfl|some bytes=>dsimp only;by_cases h:some bytes.length≠Option.map (λx=>x.length) l.bytes?;rw[Sn h,Sn h];rfl;rw[Sm h,Sm h];generalize (List.foldlM _ c cs:Except String (Array Value))=X;cases X<;>rfl
def fS(P w τ d a v m):(au w τ d).farStore P a v m=(w.farStore P a v m).map λx=>(au x.1 τ d,x.2):=by unfold World.farStore;rw[show(au w τ d).heap=w.heap from rfl,show(au w τ d).noCell a "store: no such cell" =w.noCell a "store: no such cell" from rfl];split;rw[su];cases w.viewStore P _ _ a v m<;>rfl;rfl
end Go.Tm

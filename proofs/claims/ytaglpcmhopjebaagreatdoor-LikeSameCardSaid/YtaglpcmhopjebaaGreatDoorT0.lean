import GoSem.Step
import Derived.RunT
set_option linter.all false
set_option maxRecDepth 100000
set_option maxHeartbeats 20000000
theorem Go.ex{α:Sort _}(e:α):∃x,x=e:=⟨_,rfl⟩
def Go.SQ:=@if_neg
def Go.SS:=@if_pos
def Go.SU:=@Nat.le_refl
def Go.SV:=@Nat.le_trans
def Go.SY:=@List.length_cons
def Go.SZ:=@Nat.lt_of_lt_of_le
def Go.S6:=@Nat.lt_or_ge
def Go.S8:=@Array.getElem?_eq_some_iff
def Go.S9:=@decide_eq_false
def Go.Ta:=@decide_eq_true
def Go.Tb:=@Nat.zero_le
def Go.Tc:=@Nat.zero_add
def Go.Td:=@Bool.and_eq_true
def Go.Te:=@Array.getElem?_setIfInBounds_ne
def Go.Tf:=@if_true
def Go.Tg:=@List.length_drop
def Go.Th:=@List.length_nil
def Go.Ti:=@List.getElem_mem
def Go.Tj:=@decide_eq_true_eq
def Go.Tk:=@if_false
def Go.Tl:=@Ne.symm
def Go.Tn:=@Bool.false_eq_true
def Go.To:=@List.length_append
def Go.Tp:=@List.size_toArray
def Go.Tq:=@Array.getElem?_eq_getElem
def Go.Tr:=@Option.some.inj
def Go.Ts:=@List.mem_cons
def Go.Tt:=@Nat.not_lt_zero
def Go.Tu:=@beq_eq_false_iff_ne
def Go.Tv:=@Array.size_setIfInBounds
def Go.Tw:=@Array.getElem?_map
def Go.Tx:=@congrArg
def Go.Ty:=@Option.map_eq_some_iff
def Go.Tz:=@List.drop_eq_nil_of_le
def Go.TA:=@List.getElem?_eq_getElem
def Go.TB:=@List.not_mem_nil
def Go.TC:=@or_false
def Go.TD:=@List.eq_nil_of_length_eq_zero
def Go.TE:=@List.take_succ_cons
def Go.TF:=@List.drop_zero
def Go.TG:=@of_decide_eq_true
def Go.TH:=@Option.map_some
def Go.TJ:=@Option.some.injEq
def Go.TK:=@List.length_filter_le
def Go.TL:=@List.take_zero
def Go.TM:=@Array.getElem?_push_size
def Go.TN:=@List.drop_succ_cons
def Go.TO:=@List.all_eq_true
def Go.TP:=@Array.getElem?_setIfInBounds
def Go.TQ:=@Array.getElem?_push
def Go.TR:=@Array.getElem?_modify
def Go.TS:=@Array.getD_eq_getD_getElem?
def Go.TU:=@Array.mem_of_getElem?
def Go.TW:=@List.length_pos_iff
def Go.TX:=@Nat.eq_zero_or_pos
def Go.TY:=@Nat.mul_one
def Go.TZ:=@Array.mem_append
def Go.T1:=@Array.getElem?_toList
def Go.T2:=@List.length_map
def Go.T3:=@List.mem_toArray
def Go.T4:=@Nat.not_lt
def Go.T5:=@Bool.eq_iff_iff
def Go.T6:=@beq_iff_eq
def Go.T7:=@Nat.lt_succ_self
def Go.T8:=@List.isPrefixOf_iff_prefix
def Go.T9:=@List.any_eq_true
def Go.Ua:=@List.length_take
def Go.Ub:=@Array.append_assoc
def Go.Uc:=@Nat.add_zero
def Go.Ud:=@Bool.not_true
def Go.Ue:=@List.mem_of_getElem?
def Go.Uf:=@Classical.byContradiction
def Go.Ug:=@List.mem_iff_getElem?
def Go.Uh:=@List.filter_cons
def Go.Ui:=@Array.empty_append
def Go.Uj:=@List.append_assoc
def Go.Uk:=@List.getElem?_eq_some_iff
def Go.Ul:=@Option.bind_eq_some_iff
def Go.Um:=@Array.getElem?_eq_none
def Go.Un:=@List.mem_map
def Go.Uo:=@List.take_length
def Go.Up:=@List.length_eq_zero_iff
def Go.Uq:=@List.range_succ
def Go.Ur:=@Array.forIn_toList
def Go.Us:=@Nat.add_comm
def Go.Ut:=@List.getElem?_map
def Go.Uu:=@Array.size_map
def Go.Uv:=@Nat.le_of_eq
def Go.Uw:=@List.contains_iff_mem
def Go.Ux:=@List.append_nil
def Go.Uy:=@Bool.or_eq_true
def Go.Uz:=@List.map_append
def Go.UA:=@bne_iff_ne
def Go.UB:=@List.flatMap_cons
def Go.UC:=@List.mem_append
def Go.UD:=@ByteArray.size_extract
def Go.UE:=@List.mem_singleton
def Go.UF:=@Eq.comm
def Go.UG:=@dif_pos
def Go.UH:=@Option.getD_some
def Go.UI:=@Iff.rfl
def Go.UJ:=@ne_of_beq_false
def Go.UK:=@Array.all_eq_true'
def Go.UL:=@List.take_succ_eq_append_getElem
def Go.UM:=@List.getElem?_append_left
def Go.UN:=@Nat.add_assoc
def Go.UO:=@Option.bind_some
def Go.UP:=@Nat.zero_mul
def Go.UQ:=@Array.mem_push_of_mem
def Go.UR:=@List.getElem_of_mem
def Go.US:=@Array.getElem?_append
def Go.UT:=@List.mem_iff_getElem
def Go.UU:=@List.filter_append
def Go.UW:=@List.drop_eq_getElem_cons
def Go.UX:=@List.length_reverse
def Go.UY:=@List.mem_filter
def Go.UZ:=@Nat.succ_pos
def Go.U3:=@Array.append_singleton
def Go.U4:=@List.nil_append
def Go.U5:=@List.map_cons
def Go.U6:=@Bool.not_false
def Go.U7:=@List.all_cons
def Go.U8:=@Array.mem_push
def Go.U9:=@Nat.add_mul
def Go.Va:=@Prod.mk.inj
def Go.Vb:=@List.getElem?_toArray
def Go.Vd:=@Array.ext
def Go.Ve:=@Array.getElem_mem
def Go.Vf:=@List.any_eq_false
def Go.Vg:=@List.drop_drop
def Go.Vh:=@Bool.true_and
def Go.Vi:=@List.foldl_append
def Go.Vj:=@Array.foldl_toList
def Go.Vk:=@List.flatMap_append
def Go.Vl:=@List.cons_append
def Go.Vm:=@List.getD_eq_getElem?_getD
def Go.Vn:=@Bool.false_or
def Go.Vo:=@List.mem_append_left
def Go.Vp:=@List.getElem_map
def Go.Vq:=@List.foldl_cons
def Go.Vr:=@Nat.exists_eq_add_of_le
def Go.Vs:=@Array.mem_iff_getElem?
def Go.Vt:=@Nat.lt_succ_of_lt
def Go.Vu:=@Option.ne_none_iff_exists'
def Go.Vv:=@Array.ext'
def Go.Vw:=@Nat.lt_trichotomy
def Go.Vx:=@Bool.false_ne_true
def Go.Vy:=@List.take_of_length_le
def Go.Vz:=@Decidable.byContradiction
def Go.VA:=@List.getElem?_drop
def Go.VB:=@Int.mul_ediv_cancel
def Go.VC:=@Int.le_refl
def Go.VD:=@List.mem_cons_of_mem
def Go.VE:=@List.sum_cons
def Go.VF:=@Array.mem_map
def Go.VG:=@Array.append_empty
def Go.VH:=@Nat.min_eq_left
def Go.VI:=@List.mem_range
def Go.VJ:=@Nat.le_total
def Go.VK:=@Prod.mk.injEq
def Go.VL:=@Nat.not_le
def Go.VM:=@List.cons.injEq
def Go.VN:=@Nat.le_of_lt
def Go.VO:=@getElem!_pos
def Go.VP:=@Array.mem_toList_iff
def Go.VR:=@Array.toList_modify
def Go.VT:=@Array.getElem?_extract
def Go.VU:=@Array.getElem_toList
def Go.VV:=@List.prefix_refl
def Go.VX:=@List.sum_append
def Go.VY:=@UInt8.toNat_inj
def Go.VZ:=@List.ne_nil_of_mem
def Go.V5:=@Int.ediv_nonneg
def Go.V7:=@Bool.not_eq_false
def Go.V8:=@List.mem_cons_self
def Go.V9:=@Array.getElem?_replicate
def Go.Wa:=@Nat.pos_of_ne_zero
def Go.Wb:=@List.getElem?_append_right
def Go.Wc:=@List.forIn_cons
def Go.Wd:=@Std.Legacy.Range.forIn_eq_forIn_range'
def Go.Wh:=@Array.replicate_succ
def Go.Wi:=@List.getElem_cons_zero
def Go.Wj:=@List.mem_flatMap
def Go.Wk:=@List.ext_getElem
def Go.Wl:=@Array.toList_push
def Go.Wm:=@List.mem_append_right
def Go.Wn:=@List.any_append
def Go.Wo:=@Array.getElem?_setIfInBounds_self_of_lt
def Go.Wp:=@Nat.le_add_right
def Go.Wq:=@List.getElem_range
def Go.Wr:=@List.length_range
def Go.Ws:=@List.pairwise_cons
def Go.Wt:=@Array.all_append
def Go.Wu:=@Array.mem_append_left
def Go.Wv:=@Bool.false_and
def Go.Ww:=@List.mem_flatten
def Go.Wx:=@List.eq_of_mem_replicate
def Go.Wy:=@List.perm_ext_iff_of_nodup
def Go.Wz:=@Option.any_some
def Go.WA:=@List.getElem?_take
def Go.WB:=@Int.tdiv_eq_ediv_of_nonneg
def Go.WC:=@Bool.not_eq_eq_eq_not
def Go.WE:=@List.reverse_reverse
def Go.WG:=@List.findIdx?_eq_some_iff_getElem
def Go.WH:=@List.findIdx?_eq_none_iff
def Go.WI:=@Nat.add_sub_cancel_left
def Go.WJ:=@List.isSuffixOf_iff_suffix
def Go.WK:=@List.getElem?_cons_zero
def Go.WL:=@Array.toList_setIfInBounds
def Go.WM:=@List.getLast?_cons_cons
def Go.WN:=@Option.isSome_iff_exists
def Go.WO:=@List.append_cancel_left_eq
def Go.WQ:=@Nat.mod_two_eq_zero_or_one
def Go.WR:=@Array.mem_or_eq_of_mem_setIfInBounds
def Go.WS:=@List.pairwise_iff_getElem
def Go.WT:=@Array.eq_empty_of_size_eq_zero
def Go.WU:=@List.length_filterMap_le
namespace Go.Tm
structure Ren(G:Nat) where
 rel:Nat->Nat->Prop
 fn:∀r R R',rel r R->rel r R'->R=R'
 inj:∀r r' R,rel r R->rel r' R->r=r'
 dz:∀r R,rel r R->(r<G↔R<G)
instance{G:Nat}:CoeFun (Ren G) (λ_=>Nat->Nat->Prop):=⟨Ren.rel⟩
variable {G:Nat}
def Ren.le(π a:Ren G):Prop:=∀r s,π r s->a r s
def Ren.le_refl(π:Ren G):Ren.le π π:=λ_ _ h=>h
def Ren.le_trans{a b c:Ren G}(h:Ren.le a b)(d:Ren.le b c):Ren.le a c:=λ_ _ x=>d _ _ (h _ _ x)
inductive aQ(π:Ren G):Addr->Addr->Prop
 |mk {r s o:Nat} {p:Option Nat}:π r s->aQ π ⟨r,o,p⟩ ⟨s,o,p⟩
def aQ.mono{π b:Ren G}(l:Ren.le π b){a A}(h:aQ π a A):aQ b a A:=by cases h with|mk h=>exact .mk (l _ _ h)
def kp:Nat:=74
inductive FnR(π:Ren G):Fn->Fn->Prop
 |func (f):f≠kp->FnR π (.func f) (.func f)
 |yield {l L:Nat}:π l L->FnR π (.yield l) (.yield L)
def FnR.mono{π b:Ren G}(l:Ren.le π b){a A}(h:FnR π a A):FnR b a A:=by cases h with|yield h=>exact .yield (l _ _ h)|func f h=>exact .func f h
def dU:Value->Bool
 | .pointer (some _)| .slice (some _) _ _| .map (some _)| .chan (some _)| .iface _ _=>true
 | .func (.method _) _ _=>false
 | .func _ _ _=>true
 |_=>false
inductive av(π:Ren G):Value->Value->Prop
 |bool (b):av π (.bool b) (.bool b)
 |int (k n):av π (.int k n) (.int k n)
 |float (k b):av π (.float k b) (.float k b)
 |complex (k a b):av π (.complex k a b) (.complex k a b)
 |string (s):av π (.string s) (.string s)
 |IJ:av π (.pointer none) (.pointer none)
 |ptr {a A:Addr}:aQ π a A->av π (.pointer (some a)) (.pointer (some A))
 |iq (l c):av π (.slice none l c) (.slice none l c)
 |slice {a A:Addr} (l c):aQ π a A->av π (.slice (some a) l c) (.slice (some A) l c)
 |pQ (A:Addr):av π (.slice (some ⟨0,0,some 0⟩) 0 0) (.slice (some A) 0 0)
 |KZ:av π (.map none) (.map none)
 |map {r R:Nat}:π r R->av π (.map (some r)) (.map (some R))
 |Qv:av π (.chan none) (.chan none)
 |chan {r R:Nat}:π r R->av π (.chan (some r)) (.chan (some R))
 |func {fn FN:Fn} {f F c C:Array Value}:FnR π fn FN->f.size=F.size->(∀(i:Nat) x X,f[i]? =some x->F[i]? =some X->av π x X)->c.size=C.size->(∀(i:Nat) x X,c[i]? =some x->C[i]? =some X->av π x X)->av π (.func fn f c) (.func FN F C)
 |nilFunc:av π .nilFunc .nilFunc
 |iface (t) {v V:Value}:av π v V->av π (.iface t v) (.iface t V)
 |nilIface:av π .nilIface .nilIface
 |agg {c C:Array Value}:c.size=C.size->(∀(i:Nat) x X,c[i]? =some x->C[i]? =some X->av π x X)->av π (.agg c) (.agg C)
 |tuple {c C:Array Value}:c.size=C.size->(∀(i:Nat) x X,c[i]? =some x->C[i]? =some X->av π x X)->av π (.tuple c) (.tuple C)
 |lS (V):dU V=true->av π (.tuple #[]) V
 |IK (n f c):av π (.func (.method "") #[.nilIface] #[]) (.func (.method n) f c)
def av.mono{π d:Ren G}(l:Ren.le π d){v V}(h:av π v V):av d v V:=by induction h with|ptr h=>exact .ptr (h.mono l)|slice a b h=>exact .slice a b (h.mono l)|map h=>exact .map (l _ _ h)|chan h=>exact .chan (l _ _ h)|func g i _ j _ k m=>exact .func (g.mono l) i k j m|iface t _ e=>exact .iface t e|agg s _ e=>exact .agg s e|tuple s _ e=>exact .tuple s e|lS V a=>exact .lS V a|IK n f c=>exact .IK n f c|pQ A=>exact .pQ A|_=>constructor
def aW{c d:Type}(R:c->d->Prop)(a:Array c)(b:Array d):Prop:=a.size=b.size/\∀(i:Nat) x y,a[i]? =some x->b[i]? =some y->R x y
def aW.mono{c d}{R R':c->d->Prop}{a b}(e:∀x y,R x y->R' x y)(h:aW R a b):aW R' a b:=⟨h.1,λi x y f g=>e _ _ (h.2 i x y f g)⟩
abbrev VsR(π:Ren G):Array Value->Array Value->Prop:=aW (av π)
def av.E9{π:Ren G}{c C}(h:VsR π c C):av π (.agg c) (.agg C):=.agg h.1 h.2
def av.tuple'{π:Ren G}{c C}(h:VsR π c C):av π (.tuple c) (.tuple C):=.tuple h.1 h.2
inductive bl{α β:Type}(R:α->β->Prop):List α->List β->Prop
 |nil:bl R [] []
 |cons {x y l m}:R x y->bl R l m->bl R (x::l) (y::m)
def bl.mono{c d}{R R':c->d->Prop}(e:∀x y,R x y->R' x y){a b}(h:bl R a b):bl R' a b:=by induction h with|nil=>exact .nil|cons h _ f=>exact .cons (e _ _ h) f
inductive dJ{α β:Type}(R:α->β->Prop):Option α->Option β->Prop
 |none:dJ R none none
 |some {x y}:R x y->dJ R (some x) (some y)
def dJ.mono{c d}{R R':c->d->Prop}(e:∀x y,R x y->R' x y){a b}(h:dJ R a b):dJ R' a b:=by cases h with|none=>exact .none|some h=>exact .some (e _ _ h)
def bl.length{c d R}{a:List c}{b:List d}(h:bl R a b):a.length=b.length:=by induction h with|nil=>rfl|cons _ _ e=>simp[e]
def bl.append{e f R}{a c:List e}{b d:List f}(h:bl R a b)(g:bl R c d):bl R (a++c) (b++d):=by induction h with|nil=>exact g|cons x _ i=>exact .cons x i
def aW.get{d e R}{a:Array d}{b:Array e}(h:aW R a b)(i:Nat):dJ R a[i]? b[i]? :=by obtain hi|hi:=S6 i a.size;have c:=h.1▸hi;rw[Tq hi,Tq c];exact .some (h.2 i _ _ (Tq hi) (Tq c));have c:b.size<=i:=h.1▸hi;rw[Um hi,Um c];exact .none
def aW.lu{c d R}{a:Array c}{b:Array d}(h:∀i:Nat,dJ R a[i]? b[i]?):aW R a b:=by refine⟨?_,λi x y e f=>?_⟩;obtain h1|h1|h1:=Vw a.size b.size;have:=h a.size;rw[Um (SU _),Tq h1]at this;cases this;exact h1;have:=h b.size;rw[Um (SU _),Tq h1]at this;cases this;have:=h i;rw[e,f]at this;cases this with|some r=>exact r
def aW.toList{e f R}{a:Array e}{b:Array f}(h:aW R a b):bl R a.toList b.toList:=by
 obtain⟨a⟩:=a;obtain⟨b⟩:=b;simp only[aW,Tp,Vb]at h⊢;obtain⟨c,d⟩:=h;induction a generalizing b with
 |nil=>cases b with|nil=>exact .nil|cons _ _=>simp at c
 |cons x a g=>cases b with|nil=>simp at c|cons y b=>exact .cons (d 0 x y rfl rfl) (g b (by simpa using c) λi u v j k=>d (i+1) u v (by simpa using j) (by simpa using k))
def bl.get{c d R}{a:List c}{b:List d}(h:bl R a b)(i:Nat):dJ R a[i]? b[i]? :=by
 induction h generalizing i with
 |nil=>simpa using dJ.none
 |cons x _ e=>cases i with
  |zero=>simpa using dJ.some x
  |succ i=>simpa using e i
def bl.toArray{c d R}{a:List c}{b:List d}(h:bl R a b):aW R a.toArray b.toArray:=aW.lu λi=>by simpa using h.get i
def aW.push{c d R a b}(h:aW R a b){x:c}{y:d}(r:R x y):aW R (a.push x) (b.push y):=aW.lu λi=>by rw[TQ,TQ,h.1];split;exact .some r;exact h.get i
def aW.append{e f R}{a c:Array e}{b d:Array f}(h:aW R a b)(g:aW R c d):aW R (a++c) (b++d):=aW.lu λi=>by rw[US,US,h.1];split;exact h.get i;exact g.get _
def aW.set{c d R a b}(h:aW R a b)(i){x:c}{y:d}(r:R x y):aW R (a.setIfInBounds i x) (b.setIfInBounds i y):=aW.lu λj=>by rw[TP,TP,h.1];split;split;exact .some r;exact .none;exact h.get j
def aW.extract{c d R}{a:Array c}{b:Array d}(h:aW R a b)(i j):aW R (a.extract i j) (b.extract i j):=aW.lu λk=>by rw[VT,VT,h.1];split;exact h.get _;exact .none
def aW.empty{a b R}:aW R (#[]:Array a) (#[]:Array b):=⟨rfl,λi x y h=>by simp at h⟩
def aW.map{j k d e R}{S:d->e->Prop}{a b}(h:aW R a b){f:j->d}{g:k->e}(l:∀x y,R x y->S (f x) (g y)):aW S (a.map f) (b.map g):=aW.lu λi=>by rw[Tw,Tw];have c:=h.get i;revert c;generalize a[i]? =u;generalize b[i]? =v;intro c;cases c with|none=>exact .none|some r=>exact .some (l _ _ r)
def aW.refl{b}{R:b->b->Prop}{a}(h:∀x,x∈a->R x x):aW R a a:=⟨rfl,λi x y c d=>by rw[c]at d;cases d;exact h x (TU c)⟩
end Go.Tm
namespace Go.Tm
variable {G:Nat}
structure ir(π:Ren G)(e E:MapEntry):Prop where
 key:av π e.key E.key
 val:av π e.val E.val
 born:e.born=E.born
inductive pd(π:Ren G):Deferred->Deferred->Prop
 |mk {r R:Nat}:π r R->pd π ⟨.collected r,#[]⟩ ⟨.collected R,#[]⟩
def fK:Value->Bool
 | .bool _| .int .. | .float .. | .complex .. | .string _| .pointer none| .slice none _ _| .map none| .chan none| .nilFunc| .nilIface=>true
 | .tuple c=>c.isEmpty
 |_=>false
def Ht:Question->Bool
 | .order _ _=>true
 |_=>false
def K4{q}(h:Ht q=false)(f id):q≠ .order f id:=λe=>by rw[e]at h;cases h
structure Kn where
 dz:Nat->Bool
 ent:Nat->Bool
 stop:Nat->Bool
 own:Nat->Bool
def Kn.free(S:Kn)(q:Question):Prop:=∀f a,q=.order f a->S.own f=false
def Kn.fL(S:Kn)(g:Question->Nat):Prop:=∀f a,S.own f=true->g (.order f a)=0
def Kn.calm(S:Kn)(g:Question->Nat):Prop:=∀f a,S.ent f=true->S.own f=true->g (.order f a)=0
noncomputable def only(q:Question)(n:Nat):Question->Nat:=open Classical in λa=>if a=q then n else 0
def ss(q n):only q n q=n:=SS rfl
def yU{S:Kn}{q}(h:S.free q)(n):S.fL (only q n):=λf b a=>by unfold only;refine SQ λe=>?_;rw[h f b e.symm]at a;cases a
def Fa{S:Kn}{f:FuncId}(h:S.ent f=true){g}(c:S.calm g)(a):S.fL (only (.order f a) (g (.order f a))):=λd b i=>by unfold only;by_cases e:Question.order d b=.order f a;rw[SS e];cases e;exact c f a h i;exact SQ e
def lT{S:Kn}:S.fL (λ_=>0):=λ_ _ _=>rfl
def bY(S:Kn):Operand->Bool
 | .tmp _=>true
 | .func f=>f !=kp
 | .const v=>fK v
 | .global g=>S.dz g
def oM:Builtin->Bool
 | .append| .cap| .copy| .len| .max| .min| .unsafeString| .panic=>true
 |_=>false
def kq(S:Kn):Op->Bool
 | .call ⟨.value (.func f),args,_⟩=>f==kp&&args.size==1&&args.all (bY S)
 |_=>false
def Aq(S:Kn)(o:Op):Bool:=
 kq S o||(match o with
 | .move _| .assign _| .pick .. | .alloc _| .box .. | .build .. | .buildSlice .. | .insert .. | .load .. | .store .. | .nilCheck _| .binOp .. | .unOp .. | .makeInterface .. | .makeMap .. | .makeSlice .. | .slice ..
 | .fieldAddr .. | .field .. | .indexAddr .. | .index .. | .lookup .. | .mapUpdate .. | .mapEntry .. | .entryStore .. | .range .. | .next .. | .entry _| .extract .. | .panic _=>true
 | .makeFunc (.func f) _ _=>f !=kp
 | .convert s d _=>s !=d
 | .call ⟨.value _,_,_⟩=>true
 | .call ⟨.builtin b,_,_⟩=>oM b
 |_=>false)&&o.operands.all (bY S)
def codeOk(S:Kn):Code->Bool
 | .skip| .exit _| .label _| .goto _| .ret| .refuse _=>true
 | .region _ ops _=>ops.all λo=>Aq S o.op
 | .seq a b=>codeOk S a&&codeOk S b
 | .cond c a b=>bY S c&&codeOk S a&&codeOk S b
 | .block _ b| .loop b| .scope b=>codeOk S b
 | .rangeFunc f _ a b=>bY S f&&codeOk S a&&codeOk S b
def Kn.code(S:Kn)(c:Code):Prop:=codeOk S c=true
def pR:TypeId:=1000000
def Qw:Op->Bool
 | .call ⟨.builtin .unsafeSliceData,_,_⟩=>true
 |_=>false
def opD(S:Kn)(o:Op):Bool:=Aq S o||(match o with
 | .call ⟨.builtin .unsafeSliceData,args,_⟩=>args.all (bY S)
 |_=>false)
def cj(o:Oper):Oper:=if Qw o.op then{o with type:=pR}else o
def gD:Code->Code
 | .region e ops d=>.region e (ops.map cj) d
 | .seq a b=>.seq (gD a) (gD b)
 |c=>c
def iv(S:Kn):Code->Bool
 | .region _ ops _=>ops.all λo=>opD S o.op
 | .seq a b=>iv S a&&iv S b
 |c=>codeOk S c
def Ch{S:Kn}{o}(h:Aq S o=true):Qw o=false:=by
 cases o with
 |call c=>
  obtain⟨k,a,t⟩:=c;cases k with
  |builtin b=>cases b<;>first|rfl|(simp[Aq,kq,oM]at h;done)
  |_=>rfl
 |_=>rfl
theorem gF{S:Kn}:∀{c},codeOk S c=true->gD c=c/\iv S c=true
 | .region g ops d,h=>by
  simp only[codeOk]at h;rw[UK]at h;refine⟨?_,?_⟩
  ·show Code.region g (ops.map cj) d=_
   have e:ops.map cj=ops:=by refine Vd (by simp) λi q f=>?_;rw[Array.getElem_map];unfold cj;rw[SQ];rw[Ch (h _ (Ve f))];simp
   rw[e]
  ·simp only[iv]
   rw[UK];exactλo j=>by unfold opD;rw[h o j];rfl
 | .seq a b,h=>by simp only[codeOk,Td]at h;obtain⟨k,m⟩:=gF h.1;obtain⟨n,p⟩:=gF h.2;exact⟨by simp only[gD,k,n],by simp only[iv,m,p,Bool.and_self]⟩
 | .skip,h| .exit _,h| .label _,h| .goto _,h| .ret,h| .refuse _,h| .cond ..,h| .rangeFunc ..,h| .block ..,h| .loop _,h| .scope _,h=>⟨rfl,h⟩
structure Ci(S:Kn)(π:Ren G)(l L:Loop):Prop where
 state:l.state=L.state
 pending:l.pending=L.pending
 R9:∀c,l.pending=some c->S.code c
 fn:l.fn=L.fn
 ent:S.ent l.fn=true
 tmps:VsR π l.tmps L.tmps
 params:l.params=L.params
 assign:l.assign=L.assign
 Qx:S.code l.assign
 body:l.body=L.body
 Qy:S.code l.body
 defers:π l.defers L.defers
def IL(n:Nat)(f F:Nat×Nat):Prop:=F=f\/(f.1=0/\n<f.2/\F.2<=f.2)
def grow(f:Nat×Nat)(a n:Nat):Nat×Nat:=if f.1==f.2 then(a,a+n)else(min f.1 a,max f.2 (a+n))
def Fle(f F:Nat×Nat):Prop:=F=f\/(F.1<F.2/\(f.1=f.2\/(F.1<=f.1/\f.2<=F.2)))
def Fle.refl(f):Fle f f:=.inl rfl
def Fle.trans{a b c}(h:Fle a b)(e:Fle b c):Fle a c:=by obtain rfl|⟨f,h2⟩:=h;exact e;obtain rfl|⟨g,d⟩:=e;exact .inr ⟨f,h2⟩;refine .inr ⟨g,?_⟩;obtain h2|h2:=h2;exact .inl h2;rcases d with d|d<;>omega
def Fle.back{a b}(h:Fle a b)(c:Fle b a):b=a:=by obtain h|⟨d,e⟩:=h;exact h;obtain c|⟨f,g⟩:=c;exact c.symm;(have:b.1=a.1/\b.2=a.2:=by omega);exact Prod.ext this.1 this.2
def K6(f a n)(b:n≠0):Fle f (grow f a n):=by unfold grow;by_cases h:f.1=f.2;rw[SS (by simpa using h)];exact .inr ⟨by simp;omega,.inl h⟩;rw[SQ (by simpa using h)];exact .inr ⟨by simp;omega,.inr (by simp;omega)⟩
inductive fw(S:Kn)(π:Ren G):Obj->Obj->Prop
 |cells {c C:Array Value} (e:TypeId) {f F:Nat×Nat}:VsR π c C->IL c.size f F->fw S π (.cells c e f) (.cells C e F)
 |map {es ES:Array MapEntry} (n:Nat):aW (ir π) es ES->fw S π (.map es n) (.map ES n)
 |stringIter (s p):fw S π (.stringIter s p) (.stringIter s p)
 |eY (a b c):fw S π (.mapIter none a b c) (.mapIter none a b c)
 |mapIter {m M:Nat} (a b c):π m M->fw S π (.mapIter (some m) a b c) (.mapIter (some M) a b c)
 |loop {l L:Loop}:Ci S π l L->fw S π (.loop l) (.loop L)
 |deferred:fw S π (.deferred (some [])) (.deferred (some []))
 |eu:fw S π (.deferred none) (.deferred none)
 |number {a A:Addr} (l:Bool):aQ π a A->fw S π (.number a l) (.number A l)
 |view {a A:Addr} (t:TypeId):aQ π a A->fw S π (.view a t) (.view A t)
section mono
variable {S:Kn} {π π':Ren G} (l:Ren.le π π')
include l
def VsR.mono{c C:Array Value}(h:VsR π c C):VsR π' c C:=aW.mono (λ_ _ x=>x.mono l) h
def ir.mono{e E:MapEntry}(h:ir π e E):ir π' e E:=⟨h.key.mono l,h.val.mono l,h.born⟩
def pd.mono{e E:Deferred}(h:pd π e E):pd π' e E:=by cases h with|mk a=>exact .mk (l _ _ a)
def Ci.mono{e E:Loop}(h:Ci S π e E):Ci S π' e E:={h with tmps:=VsR.mono l h.tmps,defers:=l _ _ h.defers}
def fw.mono{o O:Obj}(h:fw S π o O):fw S π' o O:=by cases h with|cells e h f=>exact .cells e (VsR.mono l h) f|map n h=>exact .map n (aW.mono (λ_ _ x=>x.mono l) h)|stringIter=>exact .stringIter _ _|eY=>exact .eY _ _ _|mapIter a b c h=>exact .mapIter a b c (l _ _ h)|loop h=>exact .loop (h.mono l)|deferred=>exact .deferred|eu=>exact .eu|number b h=>exact .number b (h.mono l)|view t h=>exact .view t (h.mono l)
end mono
structure bn(S:Kn)(Pr:Nat->Prop)(π:Ren G)(w W:World):Prop where
 obj:∀r R,π r R->∃o O,w.heap[r]? =some o/\W.heap[R]? =some O/\fw S π o O
 uC:∀r R,π r R->Pr R->∃c e f,w.heap[r]? =some (.cells c e f)/\f.1=0/\c.size<f.2
 vp:∀R,Pr R->R<W.heap.size
 gw:G<=w.heap.size
 gW:G<=W.heap.size
 w0:∃c e f,w.heap[0]? =some (.cells c e f)
def au(w:World)(τ:Nat->Question->Nat)(d:Nat):World:={w with tape:=τ,drawn:=d}
def Fits(τ:Nat->Question->Nat)(d:Nat)(l:List (Question->Nat)):Prop:=∀i g,l[i]? =some g->τ (d+i)=g
def Fits.head{τ d g l}(h:Fits τ d (g::l)):τ d=g:=h 0 g rfl
def Fits.tail{τ d g l}(h:Fits τ d (g::l)):Fits τ (d+1) l:=λi g' a=>by have:=h (i+1) g' (by simpa using a);rw[show d+1+i=d+(i+1) by omega];exact this
def lx(d:Nat)(l:List (Question->Nat)):Nat->Question->Nat:=λn=>(l[n-d]?).getD λ_=>0
def kQ(d l):Fits (lx d l) d l:=λi g h=>by unfold lx;rw[show d+i-d=i by omega,h];rfl
structure Chg(Pr:Nat->Prop)(π:Ren G)(W W':World)(π':Ren G):Prop where
 os:W'.os=W.os
 tape:W'.tape=W.tape
 output:W'.output=W.output
 size:W.heap.size<=W'.heap.size
 keep:∀b,b<W.heap.size->(¬∃r,π r b)->W'.heap[b]? =W.heap[b]?
 nA:∀b,Pr b->∀c e F,W.heap[b]? =some (Obj.cells c e F)->∃F',W'.heap[b]? =some (Obj.cells c e F')
 fz:∀(b:Nat) c e F,W.heap[b]? =some (Obj.cells c e F)->∃c' F',W'.heap[b]? =some (Obj.cells c' e F')/\Fle F F'
 old:∀r R,π' r R->π r R\/W.heap.size<=R
 new:∀R,W.heap.size<=R->R<W'.heap.size->∃r,π' r R
 le:Ren.le π π'
def Chg.refl(Pr)(π:Ren G)(W):Chg Pr π W W π:=⟨rfl,rfl,rfl,SU _,λ_ _ _=>rfl,λ_ _ _ _ F h=>⟨F,h⟩,λ_ c _ F h=>⟨c,F,h,.refl _⟩,λ_ _ h=>.inl h,λ_ a b=>absurd b (T4.2 a),λ_ _ h=>h⟩
def Chg.trans{Pr}{π π' π'':Ren G}{W j g}(h:Chg Pr π W j π')(d:Chg Pr π' j g π''):Chg Pr π W g π'':=by refine⟨d.os.trans h.os,d.tape.trans h.tape,d.output.trans h.output,SV h.size d.size,λb f q=>?_,λb f c e F k=>?_,λb c e F k=>?_,λr R i=>?_,λR a b=>?_,Ren.le_trans h.le d.le⟩;rw[d.keep b (SZ f h.size) ?_,h.keep b f q];(exactλ⟨r,i⟩=>(h.old r b i).elim (λx=>q ⟨r,x⟩) λx=>absurd f (T4.2 x));obtain⟨m,n⟩:=h.nA b f c e F k;exact d.nA b f c e m n;obtain⟨c',m,n,s⟩:=h.fz b c e F k;obtain⟨o,p,t,u⟩:=d.fz b c' e m n;exact⟨o,p,t,s.trans u⟩;obtain x|x:=d.old r R i;exact h.old r R x;exact .inr (SV h.size x);obtain x|x:=S6 R j.heap.size;obtain⟨r,i⟩:=h.new R a x;exact⟨r,d.le _ _ i⟩;exact d.new R x b
def kP(Pr:Nat->Prop)(π:Ren G)(e:Event):Prop:=
 match e.loc with
 | .cell A=>e.sync=false/\(∃r,π r A.block)/\(e.write=true->¬Pr A.block)
 | .obj R=>e.sync=false/\(∃r,π r R)/\(e.write=true->¬Pr R)
 | .mark (.extern _)=>True
 | .mark .noRoom=>True
 |_=>False
def kP.mono{Pr}{π π':Ren G}(l:Ren.le π π'){e}(h:kP Pr π e):kP Pr π' e:=by unfold kP at*;split<;>simp_all;obtain⟨_,⟨r,a⟩,_⟩:=h;exact⟨r,l _ _ a⟩;obtain⟨_,⟨r,a⟩,_⟩:=h;exact⟨r,l _ _ a⟩
def gi:Halt->Prop
 | .panic _| .stuck _=>True
 | .unsupported (.initOrder _)=>False
 | .unsupported _=>True
 |_=>False
def nB(w w':World):Prop:=∀(r:Nat) (o:Obj),w.heap[r]? =some o->w'.heap[r]? =some o
def nB.refl(w):nB w w:=λ_ _ h=>h
def nB.trans{a b c}(h:nB a b)(d:nB b c):nB a c:=λr o x=>d r o (h r o x)
def cu{c}(s:Sem c):Prop:=∀(P:Program) (w:World) (es:Array Event),(∃a w' b,s.runT P w es=(.ok a w',b)/\nB w w')\/∃h w' b,s.runT P w es=(.halt h w',b)/\gi h/\nB w w'
def dL{b}(s:Sem b):Prop:=∀(P:Program) (w:World) (es:Array Event),∃h w' a,s.runT P w es=(.halt h w',a)/\gi h/\nB w w'
def dL.halt{a:Type}(h:Halt)(b:gi h:=by exact True.intro):dL (Sem.halt h:Sem a):=λ_ w es=>⟨h,w,es,rfl,b,.refl _⟩
def runT_bind'{e g}(P)(f:e->Sem g)(s:Sem e):∀(w) (es),(∃a w' d,s.runT P w es=(.ok a w',d)/\(s.bind f).runT P w es=(f a).runT P w' d)\/(∃h w' d,s.runT P w es=(.halt h w',d)/\(s.bind f).runT P w es=(.halt h w',d)):=by
 induction s with
 |pure a=>exactλw es=>.inl ⟨a,w,es,rfl,rfl⟩
 |load m a k b=>intro w es;simp only[Sem.bind,Sem.runT];cases w.cell? a with|some v=>exact b v w _|none=>simp only[];cases w.farLoad P a (m== .atomic)with|ok r=>exact b r.1 w _|error h=>exact .inr ⟨h,w,es,rfl,rfl⟩
 |store m a v k b=>intro w es;cases v with|agg=>exact .inr ⟨_,w,es,rfl,rfl⟩|tuple=>exact .inr ⟨_,w,es,rfl,rfl⟩|_=>simp only[Sem.bind,Sem.runT];cases w.cell? a with|some v=>simp only[];split;exact .inr ⟨_,w,es,rfl,rfl⟩;exact b _ _|none=>simp only[];split;exact b _ _;exact .inr ⟨_,w,es,rfl,rfl⟩
 |new o k b=>exactλw es=>b _ _ _
 |shape r k b=>exactλw es=>b _ _ _
 |freeze a n k b=>exactλw es=>b _ _
 |frozen a k b=>exactλw es=>b _ _ _
 |getObj r k b=>intro w es;simp only[Sem.bind,Sem.runT];split;exact .inr ⟨_,w,es,rfl,rfl⟩;exact b _ _ _;exact .inr ⟨_,w,es,rfl,rfl⟩
 |setObj r o k b=>intro w es;simp only[Sem.bind,Sem.runT];split;exact .inr ⟨_,w,es,rfl,rfl⟩;exact b _ _;exact .inr ⟨_,w,es,rfl,rfl⟩
 |choose q k b=>intro w es;simp only[Sem.bind,Sem.runT];split;exact b _ _ _;exact b _ _ _
 |sys c k b=>exactλw es=>b _ _ _
 |program k b=>exactλw es=>b _ _ _
 |mark m k b=>exactλw es=>b _ _
 |halt h=>exactλw es=>.inr ⟨h,w,es,rfl,rfl⟩
def ew{p q}(s)(f:p->Sem q)(c:dL s\/(cu s/\∀a,dL (f a))):dL (s>>= f):=by show dL (s.bind f);intro P w es;obtain⟨a,w1,e,d,m⟩|⟨h,w1,e,d,m⟩:=runT_bind' P f s w es;rw[m];obtain c|⟨n,c⟩:=c;obtain⟨h,w2,b,g,_⟩:=c P w es;rw[d]at g;simp at g;obtain⟨h,w3,o,r,i,j⟩:=c a P w1 e;obtain⟨t,w2,b,g,k⟩|⟨h,w2,b,g,_⟩:=n P w es;rw[d]at g;cases g;exact⟨h,w3,o,r,i,k.trans j⟩;rw[d]at g;simp at g;rw[m];obtain c|⟨n,c⟩:=c;obtain⟨u,w2,b,g,i,j⟩:=c P w es;rw[d]at g;cases g;exact⟨_,_,_,rfl,i,j⟩;obtain⟨t,w2,b,g,k⟩|⟨u,w2,b,g,i,j⟩:=n P w es;rw[d]at g;simp at g;rw[d]at g;cases g;exact⟨_,_,_,rfl,i,j⟩
def dL.Qz{a}{s:Sem a}(h:dL s):cu s:=λP w es=>.inr (h P w es)
def cu.bind{q r s}{f:q->Sem r}(h:cu s)(t:∀a,cu (f a)):cu (s>>= f):=by show cu (s.bind f);intro P w es;obtain⟨a,w1,e,i,m⟩|⟨v,w1,e,i,m⟩:=runT_bind' P f s w es;rw[m];obtain⟨u,w2,c,g,k⟩|⟨n,w2,c,g,_⟩:=h P w es;rw[i]at g;cases g;obtain⟨b,w3,d,o,j⟩|⟨n,w3,d,o,j,p⟩:=t a P w1 e;exact .inl ⟨b,w3,d,o,k.trans j⟩;exact .inr ⟨n,w3,d,o,j,k.trans p⟩;rw[i]at g;simp at g;rw[m];obtain⟨u,w2,c,g,k⟩|⟨n,w2,c,g,j,p⟩:=h P w es;rw[i]at g;simp at g;rw[i]at g;cases g;exact .inr ⟨_,_,_,rfl,j,p⟩
def cu.pure{b}(a):cu (Pure.pure a:Sem b):=λ_ w es=>.inl ⟨a,w,es,rfl,.refl _⟩
def cu.ite{a c}[Decidable c]{s t:Sem a}(h:cu s)(b:cu t):cu (if c then s else t):=by split<;>assumption
def cu.stuck{a}(m):cu (Go.stuck m:Sem a):=(dL.halt _).Qz
def cu.unsupported{a:Type}(u:Unsupported)(h:gi (.unsupported u):=by exact True.intro):cu (Go.unsupported u:Sem a):=(dL.halt _ h).Qz
def cu.program:cu Go.program:=λP w es=>.inl ⟨P,w,es,rfl,.refl _⟩
def cu.choose(q):cu (Go.choose q):=by intro P w es;by_cases h:q.forced=true;exact .inl ⟨0,w,es,by simp[Go.choose,Sem.runT,h],.refl _⟩;exact .inl ⟨_,{w with drawn:=w.drawn+1},es,by simp[Go.choose,Sem.runT,h];rfl,λ_ _ h=>h⟩
def cu.shape(r):cu (Go.shape r):=λ_ w es=>.inl ⟨_,w,es,rfl,.refl _⟩
def cu.frozen(a):cu (Go.frozen a):=λ_ w es=>.inl ⟨_,w,es,rfl,.refl _⟩
def cu.mark(m):cu (Go.mark m):=λ_ w _=>.inl ⟨_,w,_,rfl,.refl _⟩
def cu.newObj(o):cu (Go.newObj o):=λ_ w es=>.inl ⟨_,_,es,rfl,λr x h=>by have:=(S8.1 h).1;simp only[TQ];rw[SQ (by omega)];exact h⟩
def K7{e}(a:Ask e):∀w:World,(w.ask a).2.heap=w.heap:=by induction a with|done a=>exactλ_=>rfl|ask c b k d=>intro w;simp only[World.ask];split;exact d _ _;exact(d _ _).trans rfl
def K8(w:World)(c):(w.sys c).2.heap=w.heap:=by unfold World.sys;have:=K7 (Kernel.perform c w.os) w;split;rfl;rename_i h;rw[h]at this;exact this
def cu.sys(c):cu (Go.sys c):=λ_ w es=>.inl ⟨_,(w.sys c).2,_,rfl,λr x h=>by rw[K8];exact h⟩
inductive SR(S:Kn)(PS P:Program){α β:Type}(Q:Ren G->α->β->Prop):Ren G->Sem α->Sem β->Prop
 |pure {π a b}:Q π a b->SR S PS P Q π (.pure a) (.pure b)
 |load {π a A k K}:aQ π a A->(∀v V,av π v V->SR S PS P Q π (k v) (K V))->SR S PS P Q π (.load .plain a k) (.load .plain A K)
 |store {π a A v V k K}:aQ π a A->av π v V->SR S PS P Q π k K->SR S PS P Q π (.store .plain a v k) (.store .plain A V K)
 |new {π o O k K}:fw S π o O->(∀π' r R,Ren.le π π'->π' r R->SR S PS P Q π' (k r) (K R))->SR S PS P Q π (.new o k) (.new O K)
 |shape {π r R k K}:π r R->(∀s,SR S PS P Q π (k s) (K s))->SR S PS P Q π (.shape r k) (.shape R K)
 |freeze {π a A n k K}:aQ π a A->SR S PS P Q π k K->SR S PS P Q π (.freeze a n k) (.freeze A n K)
 |frozen {π a A k K}:aQ π a A->(∀b B:Bool,(B=true->b=true)->SR S PS P Q π (k b) (K B))->SR S PS P Q π (.frozen a k) (.frozen A K)
 |getObj {π r R k K}:π r R->(∀o O,fw S π o O->SR S PS P Q π (k o) (K O))->SR S PS P Q π (.getObj r k) (.getObj R K)
 |setObj {π r R o O k K}:π r R->(∀c e f,o≠ .cells c e f)->fw S π o O->SR S PS P Q π k K->SR S PS P Q π (.setObj r o k) (.setObj R O K)
 |choose {π q k K}:S.free q->(∀n,SR S PS P Q π (k n) (K n))->SR S PS P Q π (.choose q k) (.choose q K)
 |program {π k K}:SR S PS P Q π (k PS) (K P)->SR S PS P Q π (.program k) (.program K)
 |kr {π k s'}:SR S PS P Q π (k PS) s'->SR S PS P Q π (.program k) s'
 |extern {π f k K}:SR S PS P Q π k K->SR S PS P Q π (.mark (.extern f) k) (.mark (.extern f) K)
 |noRoom {π k K}:SR S PS P Q π k K->SR S PS P Q π (.mark .noRoom k) (.mark .noRoom K)
 |mF {π q k s' n} (t:Nat):S.free q->(if q.forced then n=0 else q.cut t=n)->SR S PS P Q π (k n) s'->SR S PS P Q π (.choose q k) s'
 |su {π s r K}:(∀x,SR S PS P Q π s (K x))->SR S PS P Q π s (.shape r K)
 |sC {π k s'}:(∀x,SR S PS P Q π (k (some x)) s')->SR S PS P Q π (.shape 0 k) s'
 |oN {π s a K}:(∀x,SR S PS P Q π s (K x))->SR S PS P Q π s (.frozen a K)
 |never {π s s'}:dL s->SR S PS P Q π s s'
def SR.bind{S i P k m p u Q₁ Q}{π:Ren G}{s s'}{f:k->Sem p}{F:m->Sem u} (h:SR S i P Q₁ π s s') (d:∀π',Ren.le π π'->∀a b,Q₁ π' a b->SR S i P Q π' (f a) (F b)):SR S i P Q π (s>>= f) (s'>>= F):=by show SR S i P Q π (s.bind f) (s'.bind F);induction h with|pure q=>exact d _ (Ren.le_refl _) _ _ q|load a _ c=>exact .load a λv V w=>c v V w d|store a v _ c=>exact .store a v (c d)|new o _ c=>exact .new o λπ' r R l x=>c π' r R l x λg y=>d g (Ren.le_trans l y)|shape r _ c=>exact .shape r λs=>c s d|freeze a _ c=>exact .freeze a (c d)|frozen a _ c=>exact .frozen a λb B x=>c b B x d|getObj r _ c=>exact .getObj r λo O x=>c o O x d|setObj r n o _ c=>exact .setObj r n o (c d)|choose j _ c=>exact .choose j λn=>c n d|program _ c=>exact .program (c d)|kr _ c=>exact .kr (c d)|extern _ c=>exact .extern (c d)|noRoom _ c=>exact .noRoom (c d)|mF t j e _ c=>exact .mF t j e (c d)|su _ c=>exact .su λx=>c x d|sC _ c=>exact .sC λx=>c x d|oN _ c=>exact .oN λx=>c x d|never n=>exact .never (ew _ _ (.inl n))
def SR.mono{S i P j k Q Q'}{π:Ren G}{s:Sem j}{s':Sem k} (h:SR S i P Q π s s') (d:∀π',Ren.le π π'->∀a b,Q π' a b->Q' π' a b):SR S i P Q' π s s':=by induction h with|pure q=>exact .pure (d _ (Ren.le_refl _) _ _ q)|load a _ c=>exact .load a λv V m=>c v V m d|store a v _ c=>exact .store a v (c d)|new o _ c=>exact .new o λπ' r R l x=>c π' r R l x λf p=>d f (Ren.le_trans l p)|shape r _ c=>exact .shape r λs=>c s d|freeze a _ c=>exact .freeze a (c d)|frozen a _ c=>exact .frozen a λb B x=>c b B x d|getObj r _ c=>exact .getObj r λo O x=>c o O x d|setObj r n o _ c=>exact .setObj r n o (c d)|choose g _ c=>exact .choose g λn=>c n d|program _ c=>exact .program (c d)|kr _ c=>exact .kr (c d)|extern _ c=>exact .extern (c d)|noRoom _ c=>exact .noRoom (c d)|mF t g e _ c=>exact .mF t g e (c d)|su _ c=>exact .su λx=>c x d|sC _ c=>exact .sC λx=>c x d|oN _ c=>exact .oN λx=>c x d|never n=>exact .never n
end Go.Tm
namespace Go.Tm
variable {G:Nat} {S:Kn} {Pr:Nat->Prop} {π:Ren G} {w W:World}
def ah(P:Program)(fs:Array Func):Program:={P with funcs:=fs}
def IM(P fs t):(ah P fs).info? t=P.info? t:=rfl
def jr(P fs t):(ah P fs).underlying t=P.underlying t:=rfl
def fT(P fs):∀(d) (t) (off),byteOfCell (ah P fs) d t off=byteOfCell P d t off:=by intro d;induction d with|zero=>exactλ_ _=>rfl|succ d a=>intro t off;unfold byteOfCell;simp only[a];rfl
def sG(P fs):∀(d) (t) (off),cellHolding (ah P fs) d t off=cellHolding P d t off:=by intro d;induction d with|zero=>exactλ_ _=>rfl|succ d a=>intro t off;unfold cellHolding;simp only[a];rfl
def vq(P fs):∀(d) (t) (off),plainCell (ah P fs) d t off=plainCell P d t off:=by intro d;induction d with|zero=>exactλ_ _=>rfl|succ d a=>intro t off;unfold plainCell;simp only[a];rfl
def Fb(P fs):∀(d) (t),tight (ah P fs) d t=tight P d t:=by intro d;induction d with|zero=>exactλ_=>rfl|succ d a=>intro t;unfold tight;simp only[a];rfl
def av.bytes{v V}(h:av π v V){bs}(a:v.bytes?=some bs):V=v:=by cases h<;>first|rfl|(simp[Value.bytes?]at a)
def pf{v x bs}(h:v.ofBytes bs=some x):av π x x/\∀V,av π v V->V=v:=by (cases v<;>simp only[Value.ofBytes]at h;case bool=>refine⟨?_,λV a=>by cases a;rfl⟩;split at h<;>first|(cases h;constructor)|cases h);(case int=>refine⟨?_,λV a=>by cases a;rfl⟩;split at h<;>first|(cases h;constructor)|cases h);(case float=>refine⟨?_,λV a=>by cases a;rfl⟩;split at h<;>first|(cases h;constructor)|cases h);(case complex=>refine⟨?_,λV a=>by cases a;rfl⟩;split at h<;>first|(cases h;constructor)|cases h);all_goals cases h
def ya(P fs){c C}(n:VsR π c C)(e):∀(f x stop) (l),seenCells (ah P fs) c e f x stop=.ok l->seenCells P C e f x stop=.ok l:=by intro f;induction f with|zero=>intro x stop l h;simp[seenCells]at h|succ f o=>intro x stop l h;unfold seenCells at h⊢;simp only[show(ah P fs).depth=P.depth from rfl,show ∀t,(ah P fs).cellsOf t=P.cellsOf t fromλ_=>rfl,show ∀t,(ah P fs).bytesOf t=P.bytesOf t fromλ_=>rfl,sG]at h;dsimp only at h⊢;split;rename_i d;rw[SS d]at h;exact h;rename_i d;rw[SQ d]at h;split;rename_i g;rw[SS g]at h;cases h;rename_i g;rw[SQ g]at h;split;rename_i j;rw[j]at h;cases h;rename_i i s j;rw[j]at h;simp only[]at h⊢;have k:=n.get i;revert k h;generalize c[i]? =u;generalize C[i]? =v;intro h k;cases k with|none=>cases h| @some v V r=>simp only[]at h⊢;cases a:v.bytes? with|none=>rw[a]at h;cases h|some bs=>rw[r.bytes a,a];rw[a]at h;cases bs with|nil=>cases h|cons b bs=>simp only[]at h⊢;cases m:seenCells (ah P fs) c e f (s+(b::bs).length) stop with|error _=>rw[m]at h;cases h|ok p=>rw[o _ _ _ m];rw[m]at h;exact h
def Cj{P fs}(i:∀r R,π r R->∃o O,w.heap[r]? =some o/\W.heap[R]? =some O/\fw S π o O) {a A k K} (D:aQ π a A) (E:aQ π k K) (u) {x} (h:w.seen (ah P fs) a u k false=.ok x):∃c e f b l cs C F,x=(c,e,f,b,l,cs)/\W.seen P A u K false=.ok (C,e,F,b,l,cs)/\w.heap[a.block]? =some (.cells c e f)/\W.heap[A.block]? =some (.cells C e F)/\VsR π c C/\IL c.size f F:=by
 cases D with
 | @mk r R o p H=>
 cases E with
 | @mk Q R' o' I J=>
 obtain⟨ob,T,m,L,M⟩:=i _ _ H;unfold World.seen at h⊢;simp only[m,vq,fT,show(ah P fs).depth=P.depth from rfl,show ∀t,(ah P fs).cellsOf t=P.cellsOf t fromλ_=>rfl,show ∀t,(ah P fs).bytesOf t=P.bytesOf t fromλ_=>rfl]at h;simp only[L];by_cases g:(I.isSome||p.isSome)=true;rw[SS g]at h;cases h
 rw[SQ g]at h⊢;cases n:plainCell P P.depth u o' with
 |none=>rw[n]at h;cases h
 |some d=>
 rw[n]at h;simp only[]at h⊢;cases q:Option.map (λx:List UInt8=>x.length) d.bytes? with
 |none=>rw[q]at h;cases h
 |some size=>
 rw[q]at h;simp only[]at h⊢;cases s:byteOfCell P P.depth u o' with
 |none=>rw[s]at h;cases h
 |some v=>
 rw[s]at h;simp only[]at h⊢;cases M with
 | @cells c C e f F y N=>simp only[]at h⊢;by_cases z:P.cellsOf e=0;rw[SS z]at h;cases h;rw[SQ z]at h⊢;cases j:byteOfCell P P.depth e (o%P.cellsOf e)with|none=>rw[j]at h;cases h|some B=>rw[j]at h;simp only[]at h⊢;cases g:seenCells (ah P fs) c e (size+1) (o/P.cellsOf e*P.bytesOf e+B+v) (o/P.cellsOf e*P.bytesOf e+B+v+size)with|error _=>rw[g]at h;cases h|ok cs=>rw[ya P fs y e _ _ _ _ g];rw[g]at h;cases h;exact⟨c,e,f,_,d,cs,C,F,rfl,rfl,m,rfl,y,N⟩
 |_=>cases h
def Ar{P fs}(d:∀r R,π r R->∃o O,w.heap[r]? =some o/\W.heap[R]? =some O/\fw S π o O) {a A k K} (i:aQ π a A) (j:aQ π k K) (u) {v} {t} (h:w.viewLoad (ah P fs) a u k false=.ok (v,t)):∃T,W.viewLoad P A u K false=.ok (v,T)/\av π v v/\∀X∈T,X.block=A.block:=by unfold World.viewLoad at h⊢;cases g:w.seen (ah P fs) a u k false with|error _=>rw[g]at h;cases h|ok x=>obtain⟨c,e,f,b,l,cs,C,F,rfl,m,_,_,_,_⟩:=Cj d i j u g;rw[g]at h;rw[m];dsimp only[bind,Except.bind]at h⊢;split at h;rename_i q n;cases h;exact⟨_,rfl,(pf n).1,λX p=>by obtain⟨x,_,rfl⟩:=Un.1 p;rfl⟩;cases h
def Fc{i σ τ j:Type}{g:σ->i->Except j σ}{g':τ->i->Except j τ}{I:σ->τ->Prop}{H}(b:∀c C x c',I c C->g c x=.ok c'->∃a,g' C x=.ok a/\I c' a/\H):∀(cs) {c} {C} {c'},I c C->cs.foldlM g c=.ok c'->∃a,cs.foldlM g' C=.ok a/\I c' a/\(cs=[]->a=C)/\(cs≠[]->H):=by intro cs;induction cs with|nil=>intro c C c' d h;cases h;exact⟨C,rfl,d,λ_=>rfl,λh=>absurd rfl h⟩|cons x cs k=>intro c C c' d h;simp only[List.foldlM_cons]at h⊢;cases f:g c x with|error e=>rw[f]at h;cases h|ok p=>obtain⟨q,e1,l,m⟩:=b _ _ _ _ d f;rw[f]at h;obtain⟨a,n,o,_,_⟩:=k l h;exact⟨a,by rw[e1];exact n,o,by simp,λ_=>m⟩
def yb{P fs}(m:∀r R,π r R->∃o O,w.heap[r]? =some o/\W.heap[R]? =some O/\fw S π o O) {a A k K} (ha:aQ π a A) (hk:aQ π k K) (u) {v V} (hv:av π v V) {w'} {t} (h:w.viewStore (ah P fs) a u k v false=.ok (w',t)):∃c e f C F c' d T,W.viewStore P A u K V false=.ok ({W with heap:=W.heap.setIfInBounds A.block (.cells d e F)},T)/\w'={w with heap:=w.heap.setIfInBounds a.block (.cells c' e f)}/\w.heap[a.block]? =some (.cells c e f)/\W.heap[A.block]? =some (.cells C e F)/\VsR π c C/\VsR π c' d/\c'.size=c.size/\IL c'.size f F/\(T≠[]->¬(f.1=0/\c.size<f.2))/\(T=[]->d=C)/\∀X∈T,X.block=A.block:=by unfold World.viewStore at h⊢;rw[Fb]at h;simp only[show(ah P fs).depth=P.depth from rfl]at h;by_cases Q:(!tight P P.depth u)=true;rw[SS Q]at h;cases h;rw[SQ Q]at h⊢;cases B:w.seen (ah P fs) a u k false with|error _=>rw[B]at h;cases h|ok x=>obtain⟨c,e,f,b,l,cs,C,F,rfl,g,j,D,U,Y⟩:=Cj m ha hk u B;rw[B]at h;rw[g];dsimp only[bind,Except.bind,pure,Except.pure]at h⊢;cases q:v.bytes? with|none=>rw[q]at h;cases h|some bytes=>rw[hv.bytes q,q];rw[q]at h;dsimp only at h⊢;by_cases Z:some bytes.length≠Option.map (λx=>x.length) l.bytes?;rw[SS Z]at h;cases h;rw[SQ Z]at h⊢;split at h;cases h;rename_i c' E;generalize J:(List.foldlM _ C cs:Except String (Array Value))=X;(suffices key:∃d,X=.ok d/\(VsR π c' d/\c'.size=c.size)/\(cs=[]->d=C)/\(cs≠[]->¬(f.1=0/\c.size<f.2)) by obtain⟨d,k1,⟨k2,k3⟩,k4,k5⟩:=key;cases h;refine⟨c,e,f,C,F,c',d,cs.map λx=>{block:=A.block,off:=x.1},by rw[k1],rfl,j,D,U,k2,k3,k3▸Y,λL=>k5 (λh0=>L (by rw[h0];rfl)),λL=>k4 (List.map_eq_nil_iff.1 L),λX J=>by obtain⟨x,_,rfl⟩:=Un.1 J;rfl⟩);rw[<-J];refine Fc (I:=λy M=>VsR π y M/\y.size=c.size) (H:=¬(f.1=0/\c.size<f.2)) ?_ cs ⟨U,rfl⟩ E;rintro y M ⟨i,s,bs⟩ c2 ⟨n,N⟩ h;dsimp only at h⊢;by_cases h1:(decide (s<b)||decide (s+bs.length>b+bytes.length))=true;rw[SS h1]at h;cases h;rw[SQ h1]at h⊢;by_cases g:(decide (f.1<=i)&&decide (i<f.2))=true;rw[SS g]at h;cases h;have p:=n.get i;cases j:y[i]? with|none=>rw[SQ g,j]at h;cases h|some old=>(rw[j]at p;have hi:=(S8.1 j).1;have D:¬(decide (F.1<=i)&&decide (i<F.2))=true:=by obtain rfl|⟨g1,g2,g3⟩:=Y;exact g;simp only[Td,Tj]at g;omega);rw[SQ g,j]at h;rw[SQ D];cases hC:M[i]? with|none=>rw[hC]at p;cases p|some aa=>rw[hC]at p;cases p with|some hr=>dsimp only at h⊢;cases z:old.ofBytes ((bytes.drop (s-b)).take bs.length)with|none=>rw[z]at h;cases h|some new=>rw[z]at h;have⟨p1,p2⟩:=pf (π:=π) z;rw[p2 _ hr,z];dsimp only at h⊢;cases h;refine⟨_,rfl,⟨n.set i p1,by simpa using N⟩,?_⟩;simp only[Td,Tj]at g;omega
def sH(P w τ d a k u v m):(au w τ d).viewStore P a u k v m=(w.viewStore P a u k v m).map λx=>(au x.1 τ d,x.2):=by unfold World.viewStore;rw[show(au w τ d).seen P a u k m=w.seen P a u k m from rfl];by_cases g:(!tight P P.depth u)=true;rw[SS g,SS g];rfl;rw[SQ g,SQ g];cases w.seen P a u k m with|error _=>rfl|ok x=>obtain⟨c,e,f,b,l,cs⟩:=x;dsimp only[bind,Except.bind,pure,Except.pure];cases v.bytes? with|none=>rfl|some bytes=>dsimp only;by_cases h:some bytes.length≠Option.map (λx=>x.length) l.bytes?;rw[SS h,SS h];rfl;rw[SQ h,SQ h];generalize (List.foldlM _ c cs:Except String (Array Value))=X;cases X<;>rfl
def fU(P w τ d a v m):(au w τ d).farStore P a v m=(w.farStore P a v m).map λx=>(au x.1 τ d,x.2):=by unfold World.farStore;rw[show(au w τ d).heap=w.heap from rfl,show(au w τ d).noCell a "store: no such cell" =w.noCell a "store: no such cell" from rfl];split;rw[sH];cases w.viewStore P _ _ a v m<;>rfl;rfl
end Go.Tm

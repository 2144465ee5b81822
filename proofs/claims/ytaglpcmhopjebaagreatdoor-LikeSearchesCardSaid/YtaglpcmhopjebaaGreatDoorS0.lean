import GoSem.Step
import Derived.RunT
set_option linter.all false
set_option maxRecDepth 100000
set_option maxHeartbeats 20000000
theorem Go.ex{α:Sort _}(e:α):∃x,x=e:=⟨_,rfl⟩
abbrev Go.bi:=Go.undef
def Go.Tu:=@if_neg
def Go.Tv:=@if_pos
def Go.Tw:=@Nat.le_refl
def Go.Tx:=@Nat.le_trans
def Go.Ty:=@Nat.lt_or_ge
def Go.Tz:=@decide_eq_false
def Go.TA:=@List.length_cons
def Go.TB:=@Nat.lt_of_lt_of_le
def Go.TC:=@Array.getElem?_eq_some_iff
def Go.TD:=@decide_eq_true
def Go.TE:=@Nat.zero_le
def Go.TF:=@Nat.zero_add
def Go.TG:=@List.getElem_mem
def Go.TH:=@Bool.and_eq_true
def Go.TJ:=@Array.getElem?_setIfInBounds_ne
def Go.TK:=@if_true
def Go.TL:=@Nat.not_lt_zero
def Go.TM:=@List.length_drop
def Go.TN:=@List.length_nil
def Go.TO:=@Ne.symm
def Go.TP:=@if_false
def Go.TQ:=@decide_eq_true_eq
def Go.TR:=@List.length_append
def Go.TS:=@Bool.false_eq_true
def Go.TU:=@List.size_toArray
def Go.TW:=@Array.getElem?_eq_getElem
def Go.TX:=@beq_eq_false_iff_ne
def Go.TY:=@Option.some.inj
def Go.TZ:=@List.mem_cons
def Go.T1:=@Array.size_setIfInBounds
def Go.T2:=@List.getElem?_eq_getElem
def Go.T3:=@Array.getElem?_map
def Go.T4:=@Option.map_eq_some_iff
def Go.T5:=@List.take_zero
def Go.T6:=@List.drop_eq_nil_of_le
def Go.T7:=@congrArg
def Go.T8:=@List.all_eq_true
def Go.T9:=@List.take_succ_cons
def Go.Ua:=@of_decide_eq_true
def Go.Ub:=@List.drop_zero
def Go.Uc:=@Array.getElem?_push_size
def Go.Ud:=@Option.map_some
def Go.Ue:=@List.not_mem_nil
def Go.Uf:=@or_false
def Go.Ug:=@Option.some.injEq
def Go.Uh:=@List.drop_succ_cons
def Go.Ui:=@Array.getElem?_setIfInBounds
def Go.Uj:=@List.eq_nil_of_length_eq_zero
def Go.Uk:=@beq_iff_eq
def Go.Ul:=@Nat.mul_one
def Go.Um:=@List.length_map
def Go.Un:=@Array.getElem?_push
def Go.Uo:=@Array.getElem?_modify
def Go.Up:=@Array.getD_eq_getD_getElem?
def Go.Uq:=@Array.mem_of_getElem?
def Go.Ur:=@Nat.eq_zero_or_pos
def Go.Us:=@Array.mem_append
def Go.Ut:=@Array.getElem?_toList
def Go.Uu:=@Nat.not_lt
def Go.Uv:=@List.any_eq_true
def Go.Uw:=@List.length_filter_le
def Go.Ux:=@Nat.lt_succ_self
def Go.Uy:=@List.mem_toArray
def Go.Uz:=@List.length_take
def Go.UA:=@Array.append_assoc
def Go.UB:=@Nat.add_zero
def Go.UC:=@List.mem_of_getElem?
def Go.UD:=@Classical.byContradiction
def Go.UE:=@Bool.eq_iff_iff
def Go.UF:=@List.length_pos_iff
def Go.UG:=@List.append_assoc
def Go.UH:=@List.append_nil
def Go.UI:=@List.mem_iff_getElem?
def Go.UJ:=@Bool.not_true
def Go.UK:=@List.filter_cons
def Go.UL:=@Array.empty_append
def Go.UM:=@List.isPrefixOf_iff_prefix
def Go.UN:=@bne_iff_ne
def Go.UO:=@List.getElem?_eq_some_iff
def Go.UP:=@Option.bind_eq_some_iff
def Go.UQ:=@Array.getElem?_eq_none
def Go.UR:=@List.mem_map
def Go.US:=@Bool.or_eq_true
def Go.UT:=@List.length_eq_zero_iff
def Go.UU:=@List.mem_append
def Go.UW:=@Array.forIn_toList
def Go.UX:=@List.mem_singleton
def Go.UY:=@List.getElem?_map
def Go.UZ:=@Array.size_map
def Go.U3:=@Nat.le_of_eq
def Go.U4:=@List.contains_iff_mem
def Go.U5:=@List.mem_iff_getElem
def Go.U6:=@List.flatMap_cons
def Go.U7:=@ByteArray.size_extract
def Go.U8:=@Eq.comm
def Go.U9:=@dif_pos
def Go.Va:=@Option.getD_some
def Go.Vb:=@Iff.rfl
def Go.Vd:=@ne_of_beq_false
def Go.Ve:=@Bool.and_false
def Go.Vf:=@List.getElem_of_mem
def Go.Vg:=@Array.all_eq_true'
def Go.Vh:=@List.any_eq_false
def Go.Vi:=@List.take_succ_eq_append_getElem
def Go.Vj:=@List.take_length
def Go.Vk:=@List.map_append
def Go.Vl:=@List.getElem?_append_left
def Go.Vm:=@Nat.add_assoc
def Go.Vn:=@Option.bind_some
def Go.Vo:=@Bool.not_false
def Go.Vp:=@Nat.zero_mul
def Go.Vq:=@Array.mem_push_of_mem
def Go.Vr:=@Array.getElem?_append
def Go.Vs:=@List.filter_append
def Go.Vt:=@List.take_of_length_le
def Go.Vu:=@List.drop_eq_getElem_cons
def Go.Vv:=@List.mem_filter
def Go.Vw:=@Nat.succ_pos
def Go.Vx:=@Array.append_singleton
def Go.Vy:=@List.nil_append
def Go.Vz:=@List.getElem_cons_zero
def Go.VA:=@List.all_cons
def Go.VB:=@Array.mem_push
def Go.VC:=@Nat.add_mul
def Go.VD:=@Prod.mk.inj
def Go.VE:=@List.getElem?_toArray
def Go.VF:=@Array.ext
def Go.VG:=@Array.getElem_mem
def Go.VH:=@Bool.false_ne_true
def Go.VI:=@List.drop_drop
def Go.VJ:=@Bool.true_and
def Go.VK:=@List.range_succ
def Go.VL:=@Array.foldl_toList
def Go.VM:=@List.flatMap_append
def Go.VN:=@List.cons_append
def Go.VO:=@Nat.add_comm
def Go.VP:=@List.getD_eq_getElem?_getD
def Go.VR:=@Bool.false_or
def Go.VT:=@List.mem_append_left
def Go.VU:=@List.getElem_map
def Go.VV:=@Nat.exists_eq_add_of_le
def Go.VX:=@Array.mem_iff_getElem?
def Go.VY:=@Nat.lt_succ_of_lt
def Go.VZ:=@Option.ne_none_iff_exists'
def Go.V5:=@Array.ext'
def Go.V7:=@UInt8.toNat_inj
def Go.V8:=@Bool.eq_false_iff
def Go.V9:=@List.length_reverse
def Go.Wa:=@List.foldl_append
def Go.Wb:=@Decidable.byContradiction
def Go.Wc:=@List.getElem?_drop
def Go.Wd:=@Int.le_refl
def Go.Wh:=@List.mem_cons_of_mem
def Go.Wi:=@Array.mem_map
def Go.Wj:=@Array.append_empty
def Go.Wk:=@of_decide_eq_false
def Go.Wl:=@Decidable.em
def Go.Wm:=@List.mem_range
def Go.Wn:=@List.foldl_cons
def Go.Wo:=@Prod.mk.injEq
def Go.Wp:=@Bool.false_and
def Go.Wq:=@Nat.not_le
def Go.Wr:=@List.cons.injEq
def Go.Ws:=@Nat.le_of_lt
def Go.Wt:=@getElem!_pos
def Go.Wu:=@Array.mem_toList_iff
def Go.Wv:=@List.mem_take_iff_getElem
def Go.Ww:=@Array.toList_modify
def Go.Wx:=@Nat.lt_trichotomy
def Go.Wy:=@Array.getElem?_extract
def Go.Wz:=@Array.getElem_toList
def Go.WA:=@List.ne_nil_of_mem
def Go.WB:=@List.mem_cons_self
def Go.WC:=@Array.getElem?_replicate
def Go.WE:=@Nat.pos_of_ne_zero
def Go.WG:=@List.getElem?_append_right
def Go.WH:=@List.forIn_cons
def Go.WI:=@Std.Legacy.Range.forIn_eq_forIn_range'
def Go.WJ:=@Array.replicate_succ
def Go.WK:=@List.mem_flatMap
def Go.WL:=@List.map_cons
def Go.WM:=@List.ext_getElem
def Go.WN:=@Bool.or_assoc
def Go.WO:=@Array.toList_push
def Go.WQ:=@List.mem_append_right
def Go.WR:=@Array.getElem?_setIfInBounds_self_of_lt
def Go.WS:=@Nat.le_add_right
def Go.WT:=@List.getElem_range
def Go.WU:=@List.length_range
def Go.WV:=@List.pairwise_cons
def Go.WW:=@Array.all_append
def Go.WX:=@Array.mem_append_left
def Go.WY:=@List.mem_flatten
def Go.W4:=@List.eq_of_mem_replicate
def Go.W5:=@Option.any_some
def Go.W6:=@List.getElem?_take
def Go.W7:=@Int.tdiv_eq_ediv_of_nonneg
def Go.W8:=@List.findIdx?_eq_some_iff_getElem
def Go.W9:=@List.findIdx?_eq_none_iff
def Go.Xa:=@Nat.add_sub_cancel_left
def Go.Xb:=@List.getElem?_cons_zero
def Go.Xc:=@Array.toList_setIfInBounds
def Go.Xd:=@List.getLast?_cons_cons
def Go.Xe:=@Option.isSome_iff_exists
def Go.Xf:=@List.append_cancel_left_eq
def Go.Xg:=@Nat.mod_two_eq_zero_or_one
def Go.Xh:=@List.perm_ext_iff_of_nodup
def Go.Xi:=@Array.mem_or_eq_of_mem_setIfInBounds
def Go.Xj:=@List.pairwise_iff_getElem
def Go.Xk:=@Array.eq_empty_of_size_eq_zero
def Go.Xl:=@List.length_filterMap_le
namespace Go.Tm
structure Ren(G:Nat) where
 rel:Nat->Nat->Prop
 fn:∀r R R',rel r R->rel r R'->R=R'
 inj:∀r r' R,rel r R->rel r' R->r=r'
 dB:∀r R,rel r R->(r<G↔R<G)
instance{G:Nat}:CoeFun (Ren G) (λ_=>Nat->Nat->Prop):=⟨Ren.rel⟩
variable {G:Nat}
def Ren.le(π a:Ren G):Prop:=∀r s,π r s->a r s
def Ren.le_refl(π:Ren G):Ren.le π π:=λ_ _ h=>h
def Ren.le_trans{a b c:Ren G}(h:Ren.le a b)(d:Ren.le b c):Ren.le a c:=λ_ _ x=>d _ _ (h _ _ x)
inductive aR(π:Ren G):Addr->Addr->Prop
 |mk {r s o:Nat} {p:Option Nat}:π r s->aR π ⟨r,o,p⟩ ⟨s,o,p⟩
def aR.mono{π b:Ren G}(l:Ren.le π b){a A}(h:aR π a A):aR b a A:=by cases h with|mk h=>exact .mk (l _ _ h)
def kF:Nat:=74
inductive FnR(π:Ren G):Fn->Fn->Prop
 |func (f):f≠kF->FnR π (.func f) (.func f)
 |yield {l L:Nat}:π l L->FnR π (.yield l) (.yield L)
def FnR.mono{π b:Ren G}(l:Ren.le π b){a A}(h:FnR π a A):FnR b a A:=by cases h with|yield h=>exact .yield (l _ _ h)|func f h=>exact .func f h
def eo:Value->Bool
 | .pointer (some _)| .slice (some _) _ _| .map (some _)| .chan (some _)| .iface _ _=>true
 | .func (.method _) _ _=>false
 | .func _ _ _=>true
 |_=>false
inductive az(π:Ren G):Value->Value->Prop
 |bool (b):az π (.bool b) (.bool b)
 |int (k n):az π (.int k n) (.int k n)
 |float (k b):az π (.float k b) (.float k b)
 |complex (k a b):az π (.complex k a b) (.complex k a b)
 |string (s):az π (.string s) (.string s)
 |Je:az π (.pointer none) (.pointer none)
 |ptr {a A:Addr}:aR π a A->az π (.pointer (some a)) (.pointer (some A))
 |iM (l c):az π (.slice none l c) (.slice none l c)
 |slice {a A:Addr} (l c):aR π a A->az π (.slice (some a) l c) (.slice (some A) l c)
 |qJ (A:Addr):az π (.slice (some ⟨0,0,some 0⟩) 0 0) (.slice (some A) 0 0)
 |LB:az π (.map none) (.map none)
 |map {r R:Nat}:π r R->az π (.map (some r)) (.map (some R))
 |Q2:az π (.chan none) (.chan none)
 |chan {r R:Nat}:π r R->az π (.chan (some r)) (.chan (some R))
 |func {fn FN:Fn} {f F c C:Array Value}:FnR π fn FN->f.size=F.size->(∀(i:Nat) x X,f[i]? =some x->F[i]? =some X->az π x X)->c.size=C.size->(∀(i:Nat) x X,c[i]? =some x->C[i]? =some X->az π x X)->az π (.func fn f c) (.func FN F C)
 |nilFunc:az π .nilFunc .nilFunc
 |iface (t) {v V:Value}:az π v V->az π (.iface t v) (.iface t V)
 |nilIface:az π .nilIface .nilIface
 |agg {c C:Array Value}:c.size=C.size->(∀(i:Nat) x X,c[i]? =some x->C[i]? =some X->az π x X)->az π (.agg c) (.agg C)
 |tuple {c C:Array Value}:c.size=C.size->(∀(i:Nat) x X,c[i]? =some x->C[i]? =some X->az π x X)->az π (.tuple c) (.tuple C)
 |mv (V):eo V=true->az π (.tuple #[]) V
 |Jf (n f c):az π (.func (.method "") #[.nilIface] #[]) (.func (.method n) f c)
def az.mono{π d:Ren G}(l:Ren.le π d){v V}(h:az π v V):az d v V:=by induction h with|ptr h=>exact .ptr (h.mono l)|slice a b h=>exact .slice a b (h.mono l)|map h=>exact .map (l _ _ h)|chan h=>exact .chan (l _ _ h)|func g i _ j _ k m=>exact .func (g.mono l) i k j m|iface t _ e=>exact .iface t e|agg s _ e=>exact .agg s e|tuple s _ e=>exact .tuple s e|mv V a=>exact .mv V a|Jf n f c=>exact .Jf n f c|qJ A=>exact .qJ A|_=>constructor
def aY{c d:Type}(R:c->d->Prop)(a:Array c)(b:Array d):Prop:=a.size=b.size/\∀(i:Nat) x y,a[i]? =some x->b[i]? =some y->R x y
def aY.mono{c d}{R R':c->d->Prop}{a b}(e:∀x y,R x y->R' x y)(h:aY R a b):aY R' a b:=⟨h.1,λi x y f g=>e _ _ (h.2 i x y f g)⟩
abbrev VsR(π:Ren G):Array Value->Array Value->Prop:=aY (az π)
def az.FG{π:Ren G}{c C}(h:VsR π c C):az π (.agg c) (.agg C):=.agg h.1 h.2
def az.tuple'{π:Ren G}{c C}(h:VsR π c C):az π (.tuple c) (.tuple C):=.tuple h.1 h.2
inductive bj{α β:Type}(R:α->β->Prop):List α->List β->Prop
 |nil:bj R [] []
 |cons {x y l m}:R x y->bj R l m->bj R (x::l) (y::m)
def bj.mono{c d}{R R':c->d->Prop}(e:∀x y,R x y->R' x y){a b}(h:bj R a b):bj R' a b:=by induction h with|nil=>exact .nil|cons h _ f=>exact .cons (e _ _ h) f
inductive dM{α β:Type}(R:α->β->Prop):Option α->Option β->Prop
 |none:dM R none none
 |some {x y}:R x y->dM R (some x) (some y)
def dM.mono{c d}{R R':c->d->Prop}(e:∀x y,R x y->R' x y){a b}(h:dM R a b):dM R' a b:=by cases h with|none=>exact .none|some h=>exact .some (e _ _ h)
def bj.length{c d R}{a:List c}{b:List d}(h:bj R a b):a.length=b.length:=by induction h with|nil=>rfl|cons _ _ e=>simp[e]
def bj.append{e f R}{a c:List e}{b d:List f}(h:bj R a b)(g:bj R c d):bj R (a++c) (b++d):=by induction h with|nil=>exact g|cons x _ i=>exact .cons x i
def aY.get{d e R}{a:Array d}{b:Array e}(h:aY R a b)(i:Nat):dM R a[i]? b[i]? :=by obtain hi|hi:=Ty i a.size;have c:=h.1▸hi;rw[TW hi,TW c];exact .some (h.2 i _ _ (TW hi) (TW c));have c:b.size<=i:=h.1▸hi;rw[UQ hi,UQ c];exact .none
def aY.lN{c d R}{a:Array c}{b:Array d}(h:∀i:Nat,dM R a[i]? b[i]?):aY R a b:=by refine⟨?_,λi x y e f=>?_⟩;obtain h1|h1|h1:=Wx a.size b.size;have:=h a.size;rw[UQ (Tw _),TW h1]at this;cases this;exact h1;have:=h b.size;rw[UQ (Tw _),TW h1]at this;cases this;have:=h i;rw[e,f]at this;cases this with|some r=>exact r
def aY.toList{e f R}{a:Array e}{b:Array f}(h:aY R a b):bj R a.toList b.toList:=by
 obtain⟨a⟩:=a;obtain⟨b⟩:=b;simp only[aY,TU,VE]at h⊢;obtain⟨c,d⟩:=h;induction a generalizing b with
 |nil=>cases b with|nil=>exact .nil|cons _ _=>simp at c
 |cons x a g=>cases b with|nil=>simp at c|cons y b=>exact .cons (d 0 x y rfl rfl) (g b (by simpa using c) λi u v j k=>d (i+1) u v (by simpa using j) (by simpa using k))
def bj.get{c d R}{a:List c}{b:List d}(h:bj R a b)(i:Nat):dM R a[i]? b[i]? :=by
 induction h generalizing i with
 |nil=>simpa using dM.none
 |cons x _ e=>cases i with
  |zero=>simpa using dM.some x
  |succ i=>simpa using e i
def bj.toArray{c d R}{a:List c}{b:List d}(h:bj R a b):aY R a.toArray b.toArray:=aY.lN λi=>by simpa using h.get i
def aY.push{c d R a b}(h:aY R a b){x:c}{y:d}(r:R x y):aY R (a.push x) (b.push y):=aY.lN λi=>by rw[Un,Un,h.1];split;exact .some r;exact h.get i
def aY.append{e f R}{a c:Array e}{b d:Array f}(h:aY R a b)(g:aY R c d):aY R (a++c) (b++d):=aY.lN λi=>by rw[Vr,Vr,h.1];split;exact h.get i;exact g.get _
def aY.set{c d R a b}(h:aY R a b)(i){x:c}{y:d}(r:R x y):aY R (a.setIfInBounds i x) (b.setIfInBounds i y):=aY.lN λj=>by rw[Ui,Ui,h.1];split;split;exact .some r;exact .none;exact h.get j
def aY.extract{c d R}{a:Array c}{b:Array d}(h:aY R a b)(i j):aY R (a.extract i j) (b.extract i j):=aY.lN λk=>by rw[Wy,Wy,h.1];split;exact h.get _;exact .none
def aY.empty{a b R}:aY R (#[]:Array a) (#[]:Array b):=⟨rfl,λi x y h=>by simp at h⟩
def aY.map{j k d e R}{S:d->e->Prop}{a b}(h:aY R a b){f:j->d}{g:k->e}(l:∀x y,R x y->S (f x) (g y)):aY S (a.map f) (b.map g):=aY.lN λi=>by rw[T3,T3];have c:=h.get i;revert c;generalize a[i]? =u;generalize b[i]? =v;intro c;cases c with|none=>exact .none|some r=>exact .some (l _ _ r)
def aY.refl{b}{R:b->b->Prop}{a}(h:∀x,x∈a->R x x):aY R a a:=⟨rfl,λi x y c d=>by rw[c]at d;cases d;exact h x (Uq c)⟩
end Go.Tm
namespace Go.Tm
variable {G:Nat}
structure iN(π:Ren G)(e E:MapEntry):Prop where
 key:az π e.key E.key
 val:az π e.val E.val
 born:e.born=E.born
inductive pU(π:Ren G):Deferred->Deferred->Prop
 |mk {r R:Nat}:π r R->pU π ⟨.collected r,#[]⟩ ⟨.collected R,#[]⟩
def ga:Value->Bool
 | .bool _| .int .. | .float .. | .complex .. | .string _| .pointer none| .slice none _ _| .map none| .chan none| .nilFunc| .nilIface=>true
 | .tuple c=>c.isEmpty
 |_=>false
def IA:Question->Bool
 | .order _ _=>true
 |_=>false
def LC{q}(h:IA q=false)(f id):q≠ .order f id:=λe=>by rw[e]at h;cases h
structure Kn where
 dB:Nat->Bool
 ent:Nat->Bool
 stop:Nat->Bool
 own:Nat->Bool
def Kn.free(S:Kn)(q:Question):Prop:=∀f a,q=.order f a->S.own f=false
def Kn.gi(S:Kn)(g:Question->Nat):Prop:=∀f a,S.own f=true->g (.order f a)=0
def Kn.calm(S:Kn)(g:Question->Nat):Prop:=∀f a,S.ent f=true->S.own f=true->g (.order f a)=0
noncomputable def only(q:Question)(n:Nat):Question->Nat:=open Classical in λa=>if a=q then n else 0
def tj(q n):only q n q=n:=Tv rfl
def zt{S:Kn}{q}(h:S.free q)(n):S.gi (only q n):=λf b a=>by unfold only;refine Tu λe=>?_;rw[h f b e.symm]at a;cases a
def FH{S:Kn}{f:FuncId}(h:S.ent f=true){g}(c:S.calm g)(a):S.gi (only (.order f a) (g (.order f a))):=λd b i=>by unfold only;by_cases e:Question.order d b=.order f a;rw[Tv e];cases e;exact c f a h i;exact Tu e
def my{S:Kn}:S.gi (λ_=>0):=λ_ _ _=>rfl
def bZ(S:Kn):Operand->Bool
 | .tmp _=>true
 | .func f=>f !=kF
 | .const v=>ga v
 | .global g=>S.dB g
def pw:Builtin->Bool
 | .append| .cap| .copy| .len| .max| .min| .unsafeString| .panic=>true
 |_=>false
def kG(S:Kn):Op->Bool
 | .call ⟨.value (.func f),args,_⟩=>f==kF&&args.size==1&&args.all (bZ S)
 |_=>false
def AZ(S:Kn)(o:Op):Bool:=
 kG S o||(match o with
 | .move _| .assign _| .pick .. | .alloc _| .box .. | .build .. | .buildSlice .. | .insert .. | .load .. | .store .. | .nilCheck _| .binOp .. | .unOp .. | .makeInterface .. | .makeMap .. | .makeSlice .. | .slice ..
 | .fieldAddr .. | .field .. | .indexAddr .. | .index .. | .lookup .. | .mapUpdate .. | .mapEntry .. | .entryStore .. | .range .. | .next .. | .entry _| .extract .. | .panic _=>true
 | .makeFunc (.func f) _ _=>f !=kF
 | .convert s d _=>s !=d
 | .call ⟨.value _,_,_⟩=>true
 | .call ⟨.builtin b,_,_⟩=>pw b
 |_=>false)&&o.operands.all (bZ S)
def codeOk(S:Kn):Code->Bool
 | .skip| .exit _| .label _| .goto _| .ret| .refuse _=>true
 | .region _ ops _=>ops.all λo=>AZ S o.op
 | .seq a b=>codeOk S a&&codeOk S b
 | .cond c a b=>bZ S c&&codeOk S a&&codeOk S b
 | .block _ b| .loop b| .scope b=>codeOk S b
 | .rangeFunc f _ a b=>bZ S f&&codeOk S a&&codeOk S b
def Kn.code(S:Kn)(c:Code):Prop:=codeOk S c=true
def qM:TypeId:=1000000
def Q3:Op->Bool
 | .call ⟨.builtin .unsafeSliceData,_,_⟩=>true
 |_=>false
def opD(S:Kn)(o:Op):Bool:=AZ S o||(match o with
 | .call ⟨.builtin .unsafeSliceData,args,_⟩=>args.all (bZ S)
 |_=>false)
def cJ(o:Oper):Oper:=if Q3 o.op then{o with type:=qM}else o
def gR:Code->Code
 | .region e ops d=>.region e (ops.map cJ) d
 | .seq a b=>.seq (gR a) (gR b)
 |c=>c
def iP(S:Kn):Code->Bool
 | .region _ ops _=>ops.all λo=>opD S o.op
 | .seq a b=>iP S a&&iP S b
 |c=>codeOk S c
def C3{S:Kn}{o}(h:AZ S o=true):Q3 o=false:=by
 cases o with
 |call c=>
  obtain⟨k,a,t⟩:=c;cases k with
  |builtin b=>cases b<;>first|rfl|(simp[AZ,kG,pw]at h;done)
  |_=>rfl
 |_=>rfl
theorem gS{S:Kn}:∀{c},codeOk S c=true->gR c=c/\iP S c=true
 | .region g ops d,h=>by
  simp only[codeOk]at h;rw[Vg]at h;refine⟨?_,?_⟩
  .show Code.region g (ops.map cJ) d=_
   have e:ops.map cJ=ops:=by refine VF (by simp) λi q f=>?_;rw[Array.getElem_map];unfold cJ;rw[Tu];rw[C3 (h _ (VG f))];simp
   rw[e]
  .simp only[iP]
   rw[Vg];exactλo j=>by unfold opD;rw[h o j];rfl
 | .seq a b,h=>by simp only[codeOk,TH]at h;obtain⟨k,m⟩:=gS h.1;obtain⟨n,p⟩:=gS h.2;exact⟨by simp only[gR,k,n],by simp only[iP,m,p,Bool.and_self]⟩
 | .skip,h| .exit _,h| .label _,h| .goto _,h| .ret,h| .refuse _,h| .cond ..,h| .rangeFunc ..,h| .block ..,h| .loop _,h| .scope _,h=>⟨rfl,h⟩
structure C4(S:Kn)(π:Ren G)(l L:Loop):Prop where
 state:l.state=L.state
 pending:l.pending=L.pending
 SP:∀c,l.pending=some c->S.code c
 fn:l.fn=L.fn
 ent:S.ent l.fn=true
 tmps:VsR π l.tmps L.tmps
 params:l.params=L.params
 assign:l.assign=L.assign
 Q4:S.code l.assign
 body:l.body=L.body
 Q5:S.code l.body
 defers:π l.defers L.defers
def Jg(n:Nat)(f F:Nat×Nat):Prop:=F=f\/(f.1=0/\n<f.2/\F.2<=f.2)
def grow(f:Nat×Nat)(a n:Nat):Nat×Nat:=if f.1==f.2 then(a,a+n)else(min f.1 a,max f.2 (a+n))
def Fle(f F:Nat×Nat):Prop:=F=f\/(F.1<F.2/\(f.1=f.2\/(F.1<=f.1/\f.2<=F.2)))
def Fle.refl(f):Fle f f:=.inl rfl
def Fle.trans{a b c}(h:Fle a b)(e:Fle b c):Fle a c:=by obtain rfl|⟨f,h2⟩:=h;exact e;obtain rfl|⟨g,d⟩:=e;exact .inr ⟨f,h2⟩;refine .inr ⟨g,?_⟩;obtain h2|h2:=h2;exact .inl h2;rcases d with d|d<;>omega
def Fle.back{a b}(h:Fle a b)(c:Fle b a):b=a:=by obtain h|⟨d,e⟩:=h;exact h;obtain c|⟨f,g⟩:=c;exact c.symm;(have:b.1=a.1/\b.2=a.2:=by omega);exact Prod.ext this.1 this.2
def LD(f a n)(b:n≠0):Fle f (grow f a n):=by unfold grow;by_cases h:f.1=f.2;rw[Tv (by simpa using h)];exact .inr ⟨by simp;omega,.inl h⟩;rw[Tu (by simpa using h)];exact .inr ⟨by simp;omega,.inr (by simp;omega)⟩
inductive fR(S:Kn)(π:Ren G):Obj->Obj->Prop
 |cells {c C:Array Value} (e:TypeId) {f F:Nat×Nat}:VsR π c C->Jg c.size f F->fR S π (.cells c e f) (.cells C e F)
 |map {es ES:Array MapEntry} (n:Nat):aY (iN π) es ES->fR S π (.map es n) (.map ES n)
 |stringIter (s p):fR S π (.stringIter s p) (.stringIter s p)
 |fE (a b c):fR S π (.mapIter none a b c) (.mapIter none a b c)
 |mapIter {m M:Nat} (a b c):π m M->fR S π (.mapIter (some m) a b c) (.mapIter (some M) a b c)
 |loop {l L:Loop}:C4 S π l L->fR S π (.loop l) (.loop L)
 |deferred:fR S π (.deferred (some [])) (.deferred (some []))
 |eK:fR S π (.deferred none) (.deferred none)
 |number {a A:Addr} (l:Bool):aR π a A->fR S π (.number a l) (.number A l)
 |view {a A:Addr} (t:TypeId):aR π a A->fR S π (.view a t) (.view A t)
section mono
variable {S:Kn} {π π':Ren G} (l:Ren.le π π')
include l
def VsR.mono{c C:Array Value}(h:VsR π c C):VsR π' c C:=aY.mono (λ_ _ x=>x.mono l) h
def iN.mono{e E:MapEntry}(h:iN π e E):iN π' e E:=⟨h.key.mono l,h.val.mono l,h.born⟩
def pU.mono{e E:Deferred}(h:pU π e E):pU π' e E:=by cases h with|mk a=>exact .mk (l _ _ a)
def C4.mono{e E:Loop}(h:C4 S π e E):C4 S π' e E:={h with tmps:=VsR.mono l h.tmps,defers:=l _ _ h.defers}
def fR.mono{o O:Obj}(h:fR S π o O):fR S π' o O:=by cases h with|cells e h f=>exact .cells e (VsR.mono l h) f|map n h=>exact .map n (aY.mono (λ_ _ x=>x.mono l) h)|stringIter=>exact .stringIter _ _|fE=>exact .fE _ _ _|mapIter a b c h=>exact .mapIter a b c (l _ _ h)|loop h=>exact .loop (h.mono l)|deferred=>exact .deferred|eK=>exact .eK|number b h=>exact .number b (h.mono l)|view t h=>exact .view t (h.mono l)
end mono
structure bq(S:Kn)(Pr:Nat->Prop)(π:Ren G)(w W:World):Prop where
 obj:∀r R,π r R->∃o O,w.heap[r]? =some o/\W.heap[R]? =some O/\fR S π o O
 ve:∀r R,π r R->Pr R->∃c e f,w.heap[r]? =some (.cells c e f)/\f.1=0/\c.size<f.2
 vX:∀R,Pr R->R<W.heap.size
 gw:G<=w.heap.size
 gW:G<=W.heap.size
 w0:∃c e f,w.heap[0]? =some (.cells c e f)
def av(w:World)(τ:Nat->Question->Nat)(d:Nat):World:={w with tape:=τ,drawn:=d}
def Fits(τ:Nat->Question->Nat)(d:Nat)(l:List (Question->Nat)):Prop:=∀i g,l[i]? =some g->τ (d+i)=g
def Fits.head{τ d g l}(h:Fits τ d (g::l)):τ d=g:=h 0 g rfl
def Fits.tail{τ d g l}(h:Fits τ d (g::l)):Fits τ (d+1) l:=λi g' a=>by have:=h (i+1) g' (by simpa using a);rw[show d+1+i=d+(i+1) by omega];exact this
def lO(d:Nat)(l:List (Question->Nat)):Nat->Question->Nat:=λn=>(l[n-d]?).getD λ_=>0
def ly(d l):Fits (lO d l) d l:=λi g h=>by unfold lO;rw[show d+i-d=i by omega,h];rfl
structure Chg(Pr:Nat->Prop)(π:Ren G)(W W':World)(π':Ren G):Prop where
 os:W'.os=W.os
 tape:W'.tape=W.tape
 output:W'.output=W.output
 size:W.heap.size<=W'.heap.size
 keep:∀b,b<W.heap.size->(¬∃r,π r b)->W'.heap[b]? =W.heap[b]?
 nZ:∀b,Pr b->∀c e F,W.heap[b]? =some (Obj.cells c e F)->∃F',W'.heap[b]? =some (Obj.cells c e F')
 fz:∀(b:Nat) c e F,W.heap[b]? =some (Obj.cells c e F)->∃c' F',W'.heap[b]? =some (Obj.cells c' e F')/\Fle F F'
 old:∀r R,π' r R->π r R\/W.heap.size<=R
 new:∀R,W.heap.size<=R->R<W'.heap.size->∃r,π' r R
 le:Ren.le π π'
def Chg.refl(Pr)(π:Ren G)(W):Chg Pr π W W π:=⟨rfl,rfl,rfl,Tw _,λ_ _ _=>rfl,λ_ _ _ _ F h=>⟨F,h⟩,λ_ c _ F h=>⟨c,F,h,.refl _⟩,λ_ _ h=>.inl h,λ_ a b=>absurd b (Uu.2 a),λ_ _ h=>h⟩
def Chg.trans{Pr}{π π' π'':Ren G}{W j g}(h:Chg Pr π W j π')(d:Chg Pr π' j g π''):Chg Pr π W g π'':=by refine⟨d.os.trans h.os,d.tape.trans h.tape,d.output.trans h.output,Tx h.size d.size,λb f q=>?_,λb f c e F k=>?_,λb c e F k=>?_,λr R i=>?_,λR a b=>?_,Ren.le_trans h.le d.le⟩;rw[d.keep b (TB f h.size) ?_,h.keep b f q];(exactλ⟨r,i⟩=>(h.old r b i).elim (λx=>q ⟨r,x⟩) λx=>absurd f (Uu.2 x));obtain⟨m,n⟩:=h.nZ b f c e F k;exact d.nZ b f c e m n;obtain⟨c',m,n,s⟩:=h.fz b c e F k;obtain⟨o,p,t,u⟩:=d.fz b c' e m n;exact⟨o,p,t,s.trans u⟩;obtain x|x:=d.old r R i;exact h.old r R x;exact .inr (Tx h.size x);obtain x|x:=Ty R j.heap.size;obtain⟨r,i⟩:=h.new R a x;exact⟨r,d.le _ _ i⟩;exact d.new R x b
def lx(Pr:Nat->Prop)(π:Ren G)(e:Event):Prop:=
 match e.loc with
 | .cell A=>e.sync=false/\(∃r,π r A.block)/\(e.write=true->¬Pr A.block)
 | .obj R=>e.sync=false/\(∃r,π r R)/\(e.write=true->¬Pr R)
 | .mark (.extern _)=>True
 | .mark .noRoom=>True
 |_=>False
def lx.mono{Pr}{π π':Ren G}(l:Ren.le π π'){e}(h:lx Pr π e):lx Pr π' e:=by unfold lx at*;split<;>simp_all;obtain⟨_,⟨r,a⟩,_⟩:=h;exact⟨r,l _ _ a⟩;obtain⟨_,⟨r,a⟩,_⟩:=h;exact⟨r,l _ _ a⟩
def gI:Halt->Prop
 | .panic _| .stuck _=>True
 | .unsupported (.initOrder _)=>False
 | .unsupported _=>True
 |_=>False
def oa(w w':World):Prop:=∀(r:Nat) (o:Obj),w.heap[r]? =some o->w'.heap[r]? =some o
def oa.refl(w):oa w w:=λ_ _ h=>h
def oa.trans{a b c}(h:oa a b)(d:oa b c):oa a c:=λr o x=>d r o (h r o x)
def cN{c}(s:Sem c):Prop:=∀(P:Program) (w:World) (es:Array Event),(∃a w' b,s.runT P w es=(.ok a w',b)/\oa w w')\/∃h w' b,s.runT P w es=(.halt h w',b)/\gI h/\oa w w'
def dP{b}(s:Sem b):Prop:=∀(P:Program) (w:World) (es:Array Event),∃h w' a,s.runT P w es=(.halt h w',a)/\gI h/\oa w w'
def dP.halt{a:Type}(h:Halt)(b:gI h:=by exact True.intro):dP (Sem.halt h:Sem a):=λ_ w es=>⟨h,w,es,rfl,b,.refl _⟩
def runT_bind'{e g}(P)(f:e->Sem g)(s:Sem e):∀(w) (es),(∃a w' d,s.runT P w es=(.ok a w',d)/\(s.bind f).runT P w es=(f a).runT P w' d)\/(∃h w' d,s.runT P w es=(.halt h w',d)/\(s.bind f).runT P w es=(.halt h w',d)):=by
 induction s with
 |pure a=>exactλw es=>.inl ⟨a,w,es,rfl,rfl⟩
 |load m a k b=>intro w es;simp only[Sem.bind,Sem.runT];cases w.cell? a with|some v=>exact b v w _|none=>simp only[];cases w.farLoad P a (m== .atomic)with|ok r=>exact b r.1 w _|error h=>exact .inr ⟨h,w,es,rfl,rfl⟩
 |store m a v k b=>intro w es;cases v with|agg=>exact .inr ⟨_,w,es,rfl,rfl⟩|tuple=>exact .inr ⟨_,w,es,rfl,rfl⟩|_=>simp only[Sem.bind,Sem.runT];cases w.cell? a with|some v=>simp only[];split;exact .inr ⟨_,w,es,rfl,rfl⟩;exact b _ _|none=>simp only[];split;exact b _ _;exact .inr ⟨_,w,es,rfl,rfl⟩
 |new o k b=>exactλw es=>b _ _ _
 |shape r k b=>exactλw es=>b _ _ _
 |freeze a n k b=>exactλw es=>b _ _
 |frozen a k b=>exactλw es=>b _ _ _
 |getObj r k b=>intro w es;simp only[Sem.bind,Sem.runT];split;exact .inr ⟨_,w,es,rfl,rfl⟩;exact b _ _ _;exact .inr ⟨_,w,es,rfl,rfl⟩
 |setObj r o k b=>intro w es;simp only[Sem.bind,Sem.runT];split;exact .inr ⟨_,w,es,rfl,rfl⟩;exact b _ _;exact .inr ⟨_,w,es,rfl,rfl⟩
 |choose q k b=>intro w es;simp only[Sem.bind,Sem.runT];split;exact b _ _ _;exact b _ _ _
 |sys c k b=>exactλw es=>b _ _ _
 |program k b=>exactλw es=>b _ _ _
 |mark m k b=>exactλw es=>b _ _
 |halt h=>exactλw es=>.inr ⟨h,w,es,rfl,rfl⟩
def eL{p q}(s)(f:p->Sem q)(c:dP s\/(cN s/\∀a,dP (f a))):dP (s>>= f):=by show dP (s.bind f);intro P w es;obtain⟨a,w1,e,d,m⟩|⟨h,w1,e,d,m⟩:=runT_bind' P f s w es;rw[m];obtain c|⟨n,c⟩:=c;obtain⟨h,w2,b,g,_⟩:=c P w es;rw[d]at g;simp at g;obtain⟨h,w3,o,r,i,j⟩:=c a P w1 e;obtain⟨t,w2,b,g,k⟩|⟨h,w2,b,g,_⟩:=n P w es;rw[d]at g;cases g;exact⟨h,w3,o,r,i,k.trans j⟩;rw[d]at g;simp at g;rw[m];obtain c|⟨n,c⟩:=c;obtain⟨u,w2,b,g,i,j⟩:=c P w es;rw[d]at g;cases g;exact⟨_,_,_,rfl,i,j⟩;obtain⟨t,w2,b,g,k⟩|⟨u,w2,b,g,i,j⟩:=n P w es;rw[d]at g;simp at g;rw[d]at g;cases g;exact⟨_,_,_,rfl,i,j⟩
def dP.Q6{a}{s:Sem a}(h:dP s):cN s:=λP w es=>.inr (h P w es)
def cN.bind{q r s}{f:q->Sem r}(h:cN s)(t:∀a,cN (f a)):cN (s>>= f):=by show cN (s.bind f);intro P w es;obtain⟨a,w1,e,i,m⟩|⟨v,w1,e,i,m⟩:=runT_bind' P f s w es;rw[m];obtain⟨u,w2,c,g,k⟩|⟨n,w2,c,g,_⟩:=h P w es;rw[i]at g;cases g;obtain⟨b,w3,d,o,j⟩|⟨n,w3,d,o,j,p⟩:=t a P w1 e;exact .inl ⟨b,w3,d,o,k.trans j⟩;exact .inr ⟨n,w3,d,o,j,k.trans p⟩;rw[i]at g;simp at g;rw[m];obtain⟨u,w2,c,g,k⟩|⟨n,w2,c,g,j,p⟩:=h P w es;rw[i]at g;simp at g;rw[i]at g;cases g;exact .inr ⟨_,_,_,rfl,j,p⟩
def cN.pure{b}(a):cN (Pure.pure a:Sem b):=λ_ w es=>.inl ⟨a,w,es,rfl,.refl _⟩
def cN.ite{a c}[Decidable c]{s t:Sem a}(h:cN s)(b:cN t):cN (if c then s else t):=by split<;>assumption
def cN.stuck{a}(m):cN (Go.stuck m:Sem a):=(dP.halt _).Q6
def cN.unsupported{a:Type}(u:Unsupported)(h:gI (.unsupported u):=by exact True.intro):cN (Go.unsupported u:Sem a):=(dP.halt _ h).Q6
def cN.program:cN Go.program:=λP w es=>.inl ⟨P,w,es,rfl,.refl _⟩
def cN.choose(q):cN (Go.choose q):=by intro P w es;by_cases h:q.forced=true;exact .inl ⟨0,w,es,by simp[Go.choose,Sem.runT,h],.refl _⟩;exact .inl ⟨_,{w with drawn:=w.drawn+1},es,by simp[Go.choose,Sem.runT,h];rfl,λ_ _ h=>h⟩
def cN.shape(r):cN (Go.shape r):=λ_ w es=>.inl ⟨_,w,es,rfl,.refl _⟩
def cN.frozen(a):cN (Go.frozen a):=λ_ w es=>.inl ⟨_,w,es,rfl,.refl _⟩
def cN.mark(m):cN (Go.mark m):=λ_ w _=>.inl ⟨_,w,_,rfl,.refl _⟩
def cN.newObj(o):cN (Go.newObj o):=λ_ w es=>.inl ⟨_,_,es,rfl,λr x h=>by have:=(TC.1 h).1;simp only[Un];rw[Tu (by omega)];exact h⟩
def LF{e}(a:Ask e):∀w:World,(w.ask a).2.heap=w.heap:=by induction a with|done a=>exactλ_=>rfl|ask c b k d=>intro w;simp only[World.ask];split;exact d _ _;exact(d _ _).trans rfl
def LG(w:World)(c):(w.sys c).2.heap=w.heap:=by unfold World.sys;have:=LF (Kernel.perform c w.os) w;split;rfl;rename_i h;rw[h]at this;exact this
def cN.sys(c):cN (Go.sys c):=λ_ w es=>.inl ⟨_,(w.sys c).2,_,rfl,λr x h=>by rw[LG];exact h⟩
inductive SR(S:Kn)(PS P:Program){α β:Type}(Q:Ren G->α->β->Prop):Ren G->Sem α->Sem β->Prop
 |pure {π a b}:Q π a b->SR S PS P Q π (.pure a) (.pure b)
 |load {π a A k K}:aR π a A->(∀v V,az π v V->SR S PS P Q π (k v) (K V))->SR S PS P Q π (.load .plain a k) (.load .plain A K)
 |store {π a A v V k K}:aR π a A->az π v V->SR S PS P Q π k K->SR S PS P Q π (.store .plain a v k) (.store .plain A V K)
 |new {π o O k K}:fR S π o O->(∀π' r R,Ren.le π π'->π' r R->SR S PS P Q π' (k r) (K R))->SR S PS P Q π (.new o k) (.new O K)
 |shape {π r R k K}:π r R->(∀s,SR S PS P Q π (k s) (K s))->SR S PS P Q π (.shape r k) (.shape R K)
 |freeze {π a A n k K}:aR π a A->SR S PS P Q π k K->SR S PS P Q π (.freeze a n k) (.freeze A n K)
 |frozen {π a A k K}:aR π a A->(∀b B:Bool,(B=true->b=true)->SR S PS P Q π (k b) (K B))->SR S PS P Q π (.frozen a k) (.frozen A K)
 |getObj {π r R k K}:π r R->(∀o O,fR S π o O->SR S PS P Q π (k o) (K O))->SR S PS P Q π (.getObj r k) (.getObj R K)
 |setObj {π r R o O k K}:π r R->(∀c e f,o≠ .cells c e f)->fR S π o O->SR S PS P Q π k K->SR S PS P Q π (.setObj r o k) (.setObj R O K)
 |choose {π q k K}:S.free q->(∀n,SR S PS P Q π (k n) (K n))->SR S PS P Q π (.choose q k) (.choose q K)
 |program {π k K}:SR S PS P Q π (k PS) (K P)->SR S PS P Q π (.program k) (.program K)
 |kH {π k s'}:SR S PS P Q π (k PS) s'->SR S PS P Q π (.program k) s'
 |extern {π f k K}:SR S PS P Q π k K->SR S PS P Q π (.mark (.extern f) k) (.mark (.extern f) K)
 |noRoom {π k K}:SR S PS P Q π k K->SR S PS P Q π (.mark .noRoom k) (.mark .noRoom K)
 |mW {π q k s' n} (t:Nat):S.free q->(if q.forced then n=0 else q.cut t=n)->SR S PS P Q π (k n) s'->SR S PS P Q π (.choose q k) s'
 |tk {π s r K}:(∀x,SR S PS P Q π s (K x))->SR S PS P Q π s (.shape r K)
 |tl {π k s'}:(∀x,SR S PS P Q π (k (some x)) s')->SR S PS P Q π (.shape 0 k) s'
 |px {π s a K}:(∀x,SR S PS P Q π s (K x))->SR S PS P Q π s (.frozen a K)
 |never {π s s'}:dP s->SR S PS P Q π s s'
def SR.bind{S i P k m p u R1 Q}{π:Ren G}{s s'}{f:k->Sem p}{F:m->Sem u} (h:SR S i P R1 π s s') (d:∀π',Ren.le π π'->∀a b,R1 π' a b->SR S i P Q π' (f a) (F b)):SR S i P Q π (s>>= f) (s'>>= F):=by show SR S i P Q π (s.bind f) (s'.bind F);induction h with|pure q=>exact d _ (Ren.le_refl _) _ _ q|load a _ c=>exact .load a λv V w=>c v V w d|store a v _ c=>exact .store a v (c d)|new o _ c=>exact .new o λπ' r R l x=>c π' r R l x λg y=>d g (Ren.le_trans l y)|shape r _ c=>exact .shape r λs=>c s d|freeze a _ c=>exact .freeze a (c d)|frozen a _ c=>exact .frozen a λb B x=>c b B x d|getObj r _ c=>exact .getObj r λo O x=>c o O x d|setObj r n o _ c=>exact .setObj r n o (c d)|choose j _ c=>exact .choose j λn=>c n d|program _ c=>exact .program (c d)|kH _ c=>exact .kH (c d)|extern _ c=>exact .extern (c d)|noRoom _ c=>exact .noRoom (c d)|mW t j e _ c=>exact .mW t j e (c d)|tk _ c=>exact .tk λx=>c x d|tl _ c=>exact .tl λx=>c x d|px _ c=>exact .px λx=>c x d|never n=>exact .never (eL _ _ (.inl n))
def SR.mono{S i P j k Q Q'}{π:Ren G}{s:Sem j}{s':Sem k} (h:SR S i P Q π s s') (d:∀π',Ren.le π π'->∀a b,Q π' a b->Q' π' a b):SR S i P Q' π s s':=by induction h with|pure q=>exact .pure (d _ (Ren.le_refl _) _ _ q)|load a _ c=>exact .load a λv V m=>c v V m d|store a v _ c=>exact .store a v (c d)|new o _ c=>exact .new o λπ' r R l x=>c π' r R l x λf p=>d f (Ren.le_trans l p)|shape r _ c=>exact .shape r λs=>c s d|freeze a _ c=>exact .freeze a (c d)|frozen a _ c=>exact .frozen a λb B x=>c b B x d|getObj r _ c=>exact .getObj r λo O x=>c o O x d|setObj r n o _ c=>exact .setObj r n o (c d)|choose g _ c=>exact .choose g λn=>c n d|program _ c=>exact .program (c d)|kH _ c=>exact .kH (c d)|extern _ c=>exact .extern (c d)|noRoom _ c=>exact .noRoom (c d)|mW t g e _ c=>exact .mW t g e (c d)|tk _ c=>exact .tk λx=>c x d|tl _ c=>exact .tl λx=>c x d|px _ c=>exact .px λx=>c x d|never n=>exact .never n
end Go.Tm
namespace Go.Tm
variable {G:Nat} {S:Kn} {Pr:Nat->Prop} {π:Ren G} {w W:World}
def ai(P:Program)(fs:Array Func):Program:={P with funcs:=fs}
def Jh(P fs t):(ai P fs).info? t=P.info? t:=rfl
def jL(P fs t):(ai P fs).underlying t=P.underlying t:=rfl
def gu(P fs):∀(d) (t) (off),byteOfCell (ai P fs) d t off=byteOfCell P d t off:=by intro d;induction d with|zero=>exactλ_ _=>rfl|succ d a=>intro t off;unfold byteOfCell;simp only[a];rfl
def tp(P fs):∀(d) (t) (off),cellHolding (ai P fs) d t off=cellHolding P d t off:=by intro d;induction d with|zero=>exactλ_ _=>rfl|succ d a=>intro t off;unfold cellHolding;simp only[a];rfl
def vY(P fs):∀(d) (t) (off),plainCell (ai P fs) d t off=plainCell P d t off:=by intro d;induction d with|zero=>exactλ_ _=>rfl|succ d a=>intro t off;unfold plainCell;simp only[a];rfl
def FI(P fs):∀(d) (t),tight (ai P fs) d t=tight P d t:=by intro d;induction d with|zero=>exactλ_=>rfl|succ d a=>intro t;unfold tight;simp only[a];rfl
def az.bytes{v V}(h:az π v V){bs}(a:v.bytes?=some bs):V=v:=by cases h<;>first|rfl|(simp[Value.bytes?]at a)
def pV{v x bs}(h:v.ofBytes bs=some x):az π x x/\∀V,az π v V->V=v:=by (cases v<;>simp only[Value.ofBytes]at h;case bool=>refine⟨?_,λV a=>by cases a;rfl⟩;split at h<;>first|(cases h;constructor)|cases h);(case int=>refine⟨?_,λV a=>by cases a;rfl⟩;split at h<;>first|(cases h;constructor)|cases h);(case float=>refine⟨?_,λV a=>by cases a;rfl⟩;split at h<;>first|(cases h;constructor)|cases h);(case complex=>refine⟨?_,λV a=>by cases a;rfl⟩;split at h<;>first|(cases h;constructor)|cases h);all_goals cases h
def yC(P fs){c C}(n:VsR π c C)(e):∀(f x stop) (l),seenCells (ai P fs) c e f x stop=.ok l->seenCells P C e f x stop=.ok l:=by intro f;induction f with|zero=>intro x stop l h;simp[seenCells]at h|succ f o=>intro x stop l h;unfold seenCells at h⊢;simp only[show(ai P fs).depth=P.depth from rfl,show ∀t,(ai P fs).cellsOf t=P.cellsOf t fromλ_=>rfl,show ∀t,(ai P fs).bytesOf t=P.bytesOf t fromλ_=>rfl,tp]at h;dsimp only at h⊢;split;rename_i d;rw[Tv d]at h;exact h;rename_i d;rw[Tu d]at h;split;rename_i g;rw[Tv g]at h;cases h;rename_i g;rw[Tu g]at h;split;rename_i j;rw[j]at h;cases h;rename_i i s j;rw[j]at h;simp only[]at h⊢;have k:=n.get i;revert k h;generalize c[i]? =u;generalize C[i]? =v;intro h k;cases k with|none=>cases h| @some v V r=>simp only[]at h⊢;cases a:v.bytes? with|none=>rw[a]at h;cases h|some bs=>rw[r.bytes a,a];rw[a]at h;cases bs with|nil=>cases h|cons b bs=>simp only[]at h⊢;cases m:seenCells (ai P fs) c e f (s+(b::bs).length) stop with|error _=>rw[m]at h;cases h|ok p=>rw[o _ _ _ m];rw[m]at h;exact h
def C5{P fs}(i:∀r R,π r R->∃o O,w.heap[r]? =some o/\W.heap[R]? =some O/\fR S π o O) {a A k K} (D:aR π a A) (E:aR π k K) (u) {x} (h:w.seen (ai P fs) a u k false=.ok x):∃c e f b l cs C F,x=(c,e,f,b,l,cs)/\W.seen P A u K false=.ok (C,e,F,b,l,cs)/\w.heap[a.block]? =some (.cells c e f)/\W.heap[A.block]? =some (.cells C e F)/\VsR π c C/\Jg c.size f F:=by
 cases D with
 | @mk r R o p H=>
 cases E with
 | @mk Q R' o' I J=>
 obtain⟨ob,T,m,L,M⟩:=i _ _ H;unfold World.seen at h⊢;simp only[m,vY,gu,show(ai P fs).depth=P.depth from rfl,show ∀t,(ai P fs).cellsOf t=P.cellsOf t fromλ_=>rfl,show ∀t,(ai P fs).bytesOf t=P.bytesOf t fromλ_=>rfl]at h;simp only[L];by_cases g:(I.isSome||p.isSome)=true;rw[Tv g]at h;cases h
 rw[Tu g]at h⊢;cases n:plainCell P P.depth u o' with
 |none=>rw[n]at h;cases h
 |some d=>
 rw[n]at h;simp only[]at h⊢;cases q:Option.map (λx:List UInt8=>x.length) d.bytes? with
 |none=>rw[q]at h;cases h
 |some size=>
 rw[q]at h;simp only[]at h⊢;cases s:byteOfCell P P.depth u o' with
 |none=>rw[s]at h;cases h
 |some v=>
 rw[s]at h;simp only[]at h⊢;cases M with
 | @cells c C e f F y N=>simp only[]at h⊢;by_cases z:P.cellsOf e=0;rw[Tv z]at h;cases h;rw[Tu z]at h⊢;cases j:byteOfCell P P.depth e (o%P.cellsOf e)with|none=>rw[j]at h;cases h|some B=>rw[j]at h;simp only[]at h⊢;cases g:seenCells (ai P fs) c e (size+1) (o/P.cellsOf e*P.bytesOf e+B+v) (o/P.cellsOf e*P.bytesOf e+B+v+size)with|error _=>rw[g]at h;cases h|ok cs=>rw[yC P fs y e _ _ _ _ g];rw[g]at h;cases h;exact⟨c,e,f,_,d,cs,C,F,rfl,rfl,m,rfl,y,N⟩
 |_=>cases h
def A2{P fs}(d:∀r R,π r R->∃o O,w.heap[r]? =some o/\W.heap[R]? =some O/\fR S π o O) {a A k K} (i:aR π a A) (j:aR π k K) (u) {v} {t} (h:w.viewLoad (ai P fs) a u k false=.ok (v,t)):∃T,W.viewLoad P A u K false=.ok (v,T)/\az π v v/\∀X∈T,X.block=A.block:=by unfold World.viewLoad at h⊢;cases g:w.seen (ai P fs) a u k false with|error _=>rw[g]at h;cases h|ok x=>obtain⟨c,e,f,b,l,cs,C,F,rfl,m,_,_,_,_⟩:=C5 d i j u g;rw[g]at h;rw[m];dsimp only[bind,Except.bind]at h⊢;split at h;rename_i q n;cases h;exact⟨_,rfl,(pV n).1,λX p=>by obtain⟨x,_,rfl⟩:=UR.1 p;rfl⟩;cases h
def FJ{i σ τ j:Type}{g:σ->i->Except j σ}{g':τ->i->Except j τ}{I:σ->τ->Prop}{H}(b:∀c C x c',I c C->g c x=.ok c'->∃a,g' C x=.ok a/\I c' a/\H):∀(cs) {c} {C} {c'},I c C->cs.foldlM g c=.ok c'->∃a,cs.foldlM g' C=.ok a/\I c' a/\(cs=[]->a=C)/\(cs≠[]->H):=by intro cs;induction cs with|nil=>intro c C c' d h;cases h;exact⟨C,rfl,d,λ_=>rfl,λh=>absurd rfl h⟩|cons x cs k=>intro c C c' d h;simp only[List.foldlM_cons]at h⊢;cases f:g c x with|error e=>rw[f]at h;cases h|ok p=>obtain⟨q,e1,l,m⟩:=b _ _ _ _ d f;rw[f]at h;obtain⟨a,n,o,_,_⟩:=k l h;exact⟨a,by rw[e1];exact n,o,by simp,λ_=>m⟩
def yD{P fs}(m:∀r R,π r R->∃o O,w.heap[r]? =some o/\W.heap[R]? =some O/\fR S π o O) {a A k K} (ha:aR π a A) (hk:aR π k K) (u) {v V} (hv:az π v V) {w'} {t} (h:w.viewStore (ai P fs) a u k v false=.ok (w',t)):∃c e f C F c' d T,W.viewStore P A u K V false=.ok ({W with heap:=W.heap.setIfInBounds A.block (.cells d e F)},T)/\w'={w with heap:=w.heap.setIfInBounds a.block (.cells c' e f)}/\w.heap[a.block]? =some (.cells c e f)/\W.heap[A.block]? =some (.cells C e F)/\VsR π c C/\VsR π c' d/\c'.size=c.size/\Jg c'.size f F/\(T≠[]->¬(f.1=0/\c.size<f.2))/\(T=[]->d=C)/\∀X∈T,X.block=A.block:=by unfold World.viewStore at h⊢;rw[FI]at h;simp only[show(ai P fs).depth=P.depth from rfl]at h;by_cases Q:(!tight P P.depth u)=true;rw[Tv Q]at h;cases h;rw[Tu Q]at h⊢;cases B:w.seen (ai P fs) a u k false with|error _=>rw[B]at h;cases h|ok x=>obtain⟨c,e,f,b,l,cs,C,F,rfl,g,j,D,U,Y⟩:=C5 m ha hk u B;rw[B]at h;rw[g];dsimp only[bind,Except.bind,pure,Except.pure]at h⊢;cases q:v.bytes? with|none=>rw[q]at h;cases h|some bytes=>rw[hv.bytes q,q];rw[q]at h;dsimp only at h⊢;by_cases Z:some bytes.length≠Option.map (λx=>x.length) l.bytes?;rw[Tv Z]at h;cases h;rw[Tu Z]at h⊢;split at h;cases h;rename_i c' E;generalize J:(List.foldlM _ C cs:Except String (Array Value))=X;(suffices key:∃d,X=.ok d/\(VsR π c' d/\c'.size=c.size)/\(cs=[]->d=C)/\(cs≠[]->¬(f.1=0/\c.size<f.2)) by obtain⟨d,k1,⟨k2,k3⟩,k4,k5⟩:=key;cases h;refine⟨c,e,f,C,F,c',d,cs.map λx=>{block:=A.block,off:=x.1},by rw[k1],rfl,j,D,U,k2,k3,k3▸Y,λL=>k5 (λh0=>L (by rw[h0];rfl)),λL=>k4 (List.map_eq_nil_iff.1 L),λX J=>by obtain⟨x,_,rfl⟩:=UR.1 J;rfl⟩);rw[<-J];refine FJ (I:=λy M=>VsR π y M/\y.size=c.size) (H:=¬(f.1=0/\c.size<f.2)) ?_ cs ⟨U,rfl⟩ E;rintro y M ⟨i,s,bs⟩ c2 ⟨n,N⟩ h;dsimp only at h⊢;by_cases h1:(decide (s<b)||decide (s+bs.length>b+bytes.length))=true;rw[Tv h1]at h;cases h;rw[Tu h1]at h⊢;by_cases g:(decide (f.1<=i)&&decide (i<f.2))=true;rw[Tv g]at h;cases h;have p:=n.get i;cases j:y[i]? with|none=>rw[Tu g,j]at h;cases h|some old=>(rw[j]at p;have hi:=(TC.1 j).1;have D:¬(decide (F.1<=i)&&decide (i<F.2))=true:=by obtain rfl|⟨g1,g2,g3⟩:=Y;exact g;simp only[TH,TQ]at g;omega);rw[Tu g,j]at h;rw[Tu D];cases hC:M[i]? with|none=>rw[hC]at p;cases p|some aa=>rw[hC]at p;cases p with|some hr=>dsimp only at h⊢;cases z:old.ofBytes ((bytes.drop (s-b)).take bs.length)with|none=>rw[z]at h;cases h|some new=>rw[z]at h;have⟨p1,p2⟩:=pV (π:=π) z;rw[p2 _ hr,z];dsimp only at h⊢;cases h;refine⟨_,rfl,⟨n.set i p1,by simpa using N⟩,?_⟩;simp only[TH,TQ]at g;omega
def tq(P w τ d a k u v m):(av w τ d).viewStore P a u k v m=(w.viewStore P a u k v m).map λx=>(av x.1 τ d,x.2):=by unfold World.viewStore;rw[show(av w τ d).seen P a u k m=w.seen P a u k m from rfl];by_cases g:(!tight P P.depth u)=true;rw[Tv g,Tv g];rfl;rw[Tu g,Tu g];cases w.seen P a u k m with|error _=>rfl|ok x=>obtain⟨c,e,f,b,l,cs⟩:=x;dsimp only[bind,Except.bind,pure,Except.pure];cases v.bytes? with|none=>rfl|some bytes=>dsimp only;by_cases h:some bytes.length≠Option.map (λx=>x.length) l.bytes?;rw[Tv h,Tv h];rfl;rw[Tu h,Tu h];generalize (List.foldlM _ c cs:Except String (Array Value))=X;cases X<;>rfl
def gy(P w τ d a v m):(av w τ d).farStore P a v m=(w.farStore P a v m).map λx=>(av x.1 τ d,x.2):=by unfold World.farStore;rw[show(av w τ d).heap=w.heap from rfl,show(av w τ d).noCell a "store: no such cell" =w.noCell a "store: no such cell" from rfl];split;rw[tq];cases w.viewStore P _ _ a v m<;>rfl;rfl
end Go.Tm

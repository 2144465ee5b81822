import GoSem.Step
import Derived.RunT
set_option linter.all false
set_option maxRecDepth 100000
set_option maxHeartbeats 20000000
theorem Go.ex{α:Sort _}(e:α):∃x,x=e:=⟨_,rfl⟩
def Go.Uc:=@if_neg
def Go.Ud:=@if_pos
def Go.Ue:=@Nat.le_refl
def Go.Uf:=@Nat.le_trans
def Go.Ug:=@List.length_cons
def Go.Uh:=@Nat.lt_or_ge
def Go.Ui:=@Nat.lt_of_lt_of_le
def Go.Uj:=@decide_eq_false
def Go.Uk:=@Array.getElem?_eq_some_iff
def Go.Ul:=@Nat.zero_le
def Go.Um:=@decide_eq_true
def Go.Un:=@Bool.and_eq_true
def Go.Uo:=@Nat.zero_add
def Go.Up:=@List.getElem_mem
def Go.Uq:=@List.length_drop
def Go.Ur:=@Array.getElem?_setIfInBounds_ne
def Go.Us:=@if_true
def Go.Ut:=@Nat.not_lt_zero
def Go.Uu:=@decide_eq_true_eq
def Go.Uv:=@List.length_nil
def Go.Uw:=@List.length_append
def Go.Ux:=@Ne.symm
def Go.Uy:=@if_false
def Go.Uz:=@Bool.false_eq_true
def Go.UA:=@Option.some.inj
def Go.UB:=@List.size_toArray
def Go.UC:=@List.mem_cons
def Go.UD:=@Array.getElem?_eq_getElem
def Go.UE:=@beq_eq_false_iff_ne
def Go.UF:=@of_decide_eq_true
def Go.UG:=@List.getElem?_eq_getElem
def Go.UH:=@List.eq_nil_of_length_eq_zero
def Go.UI:=@Array.size_setIfInBounds
def Go.UJ:=@List.all_eq_true
def Go.UK:=@Array.getElem?_map
def Go.UL:=@List.take_zero
def Go.UM:=@List.drop_zero
def Go.UN:=@Option.map_eq_some_iff
def Go.UO:=@List.take_succ_cons
def Go.UP:=@List.drop_eq_nil_of_le
def Go.UQ:=@congrArg
def Go.UR:=@List.not_mem_nil
def Go.US:=@or_false
def Go.UT:=@Array.getElem?_push_size
def Go.UU:=@List.drop_succ_cons
def Go.UW:=@Option.map_some
def Go.UX:=@Option.some.injEq
def Go.UY:=@Array.getElem?_setIfInBounds
def Go.UZ:=@Array.mem_of_getElem?
def Go.U3:=@beq_iff_eq
def Go.U4:=@Nat.eq_zero_or_pos
def Go.U5:=@Array.getElem?_modify
def Go.U6:=@Array.getElem?_push
def Go.U7:=@Array.getD_eq_getD_getElem?
def Go.U8:=@List.mem_toArray
def Go.U9:=@List.any_eq_true
def Go.Va:=@List.isPrefixOf_iff_prefix
def Go.Vb:=@List.append_nil
def Go.Vd:=@Nat.mul_one
def Go.Ve:=@List.length_take
def Go.Vf:=@Array.mem_append
def Go.Vg:=@Array.getElem?_toList
def Go.Vh:=@List.length_map
def Go.Vi:=@Nat.not_lt
def Go.Vj:=@List.length_filter_le
def Go.Vk:=@Nat.lt_succ_self
def Go.Vl:=@List.getElem?_eq_some_iff
def Go.Vm:=@List.mem_of_getElem?
def Go.Vn:=@List.append_assoc
def Go.Vo:=@Array.append_assoc
def Go.Vp:=@Nat.add_zero
def Go.Vq:=@Classical.byContradiction
def Go.Vr:=@Bool.eq_iff_iff
def Go.Vs:=@List.length_pos_iff
def Go.Vt:=@List.mem_iff_getElem?
def Go.Vu:=@Bool.not_true
def Go.Vv:=@List.filter_cons
def Go.Vw:=@Array.empty_append
def Go.Vx:=@List.mem_append
def Go.Vy:=@Option.bind_eq_some_iff
def Go.Vz:=@Array.getElem?_eq_none
def Go.VA:=@List.mem_map
def Go.VB:=@Bool.or_eq_true
def Go.VC:=@List.take_length
def Go.VD:=@List.length_eq_zero_iff
def Go.VE:=@Array.forIn_toList
def Go.VF:=@ByteArray.size_extract
def Go.VG:=@List.mem_singleton
def Go.VH:=@List.getElem?_map
def Go.VI:=@Array.size_map
def Go.VJ:=@List.foldl_cons
def Go.VK:=@Nat.le_of_eq
def Go.VL:=@List.contains_iff_mem
def Go.VM:=@List.mem_iff_getElem
def Go.VN:=@List.any_eq_false
def Go.VO:=@List.drop_eq_getElem_cons
def Go.VP:=@bne_iff_ne
def Go.VR:=@List.flatMap_cons
def Go.VT:=@Nat.add_comm
def Go.VU:=@List.getD_eq_getElem?_getD
def Go.VV:=@Eq.comm
def Go.VX:=@dif_pos
def Go.VY:=@Option.getD_some
def Go.VZ:=@Iff.rfl
def Go.V5:=@ne_of_beq_false
def Go.V7:=@List.getElem_of_mem
def Go.V8:=@Array.all_eq_true'
def Go.V9:=@List.map_append
def Go.Wa:=@List.getElem?_append_left
def Go.Wb:=@Nat.add_assoc
def Go.Wc:=@Option.bind_some
def Go.Wd:=@List.all_cons
def Go.Wh:=@Nat.zero_mul
def Go.Wi:=@Array.mem_push_of_mem
def Go.Wj:=@beq_false_of_ne
def Go.Wk:=@Array.getElem?_append
def Go.Wl:=@List.take_succ_eq_append_getElem
def Go.Wm:=@List.filter_append
def Go.Wn:=@List.length_reverse
def Go.Wo:=@List.mem_filter
def Go.Wp:=@Nat.succ_pos
def Go.Wq:=@Array.append_singleton
def Go.Wr:=@List.nil_append
def Go.Ws:=@List.getElem_cons_zero
def Go.Wt:=@Bool.not_false
def Go.Wu:=@Array.mem_push
def Go.Wv:=@Nat.add_mul
def Go.Ww:=@Prod.mk.inj
def Go.Wx:=@List.getElem?_toArray
def Go.Wy:=@Array.ext
def Go.Wz:=@Array.getElem_mem
def Go.WA:=@Bool.false_ne_true
def Go.WB:=@List.drop_drop
def Go.WC:=@Bool.true_and
def Go.WE:=@List.foldl_append
def Go.WG:=@List.range_succ
def Go.WH:=@Array.foldl_toList
def Go.WI:=@List.flatMap_append
def Go.WJ:=@List.cons_append
def Go.WK:=@Bool.false_or
def Go.WL:=@List.mem_append_left
def Go.WM:=@List.getElem_map
def Go.WN:=@Nat.exists_eq_add_of_le
def Go.WO:=@Array.mem_iff_getElem?
def Go.WQ:=@Nat.lt_succ_of_lt
def Go.WR:=@Option.ne_none_iff_exists'
def Go.WS:=@Array.ext'
def Go.WT:=@Bool.and_false
def Go.WU:=@Int.emod_lt_of_pos
def Go.WV:=@UInt8.toNat_inj
def Go.WW:=@Bool.eq_false_iff
def Go.WX:=@List.take_of_length_le
def Go.WY:=@Decidable.byContradiction
def Go.W4:=@List.getElem?_drop
def Go.W5:=@Int.le_refl
def Go.W6:=@List.mem_cons_of_mem
def Go.W7:=@Array.mem_map
def Go.W8:=@Array.append_empty
def Go.W9:=@Nat.min_eq_left
def Go.Xa:=@of_decide_eq_false
def Go.Xb:=@List.mem_range
def Go.Xc:=@Nat.le_total
def Go.Xd:=@Prod.mk.injEq
def Go.Xe:=@Bool.false_and
def Go.Xf:=@Nat.not_le
def Go.Xg:=@List.cons.injEq
def Go.Xh:=@Nat.le_of_lt
def Go.Xi:=@getElem!_pos
def Go.Xj:=@Array.mem_toList_iff
def Go.Xk:=@Array.toList_modify
def Go.Xl:=@List.mem_take_iff_getElem
def Go.Xm:=@Nat.lt_trichotomy
def Go.Xn:=@Array.getElem?_extract
def Go.Xo:=@Array.getElem_toList
def Go.Xp:=@Nat.add_sub_cancel_left
def Go.Xq:=@List.ne_nil_of_mem
def Go.Xr:=@Int.ediv_nonneg
def Go.Xs:=@Bool.not_eq_false
def Go.Xt:=@List.mem_cons_self
def Go.Xu:=@Array.getElem?_replicate
def Go.Xv:=@Nat.pos_of_ne_zero
def Go.Xw:=@List.getElem?_append_right
def Go.Xx:=@List.forIn_cons
def Go.Xy:=@Std.Legacy.Range.forIn_eq_forIn_range'
def Go.Xz:=@Array.replicate_succ
def Go.XA:=@List.mem_flatMap
def Go.XB:=@List.map_cons
def Go.XC:=@List.ext_getElem
def Go.XD:=@Array.toList_push
def Go.XE:=@List.mem_append_right
def Go.XF:=@Array.getElem?_setIfInBounds_self_of_lt
def Go.XG:=@Nat.le_add_right
def Go.XH:=@List.getElem_range
def Go.XI:=@List.length_range
def Go.XJ:=@List.pairwise_cons
def Go.XK:=@Array.all_append
def Go.XL:=@Array.mem_append_left
def Go.XM:=@List.mem_flatten
def Go.XN:=@List.eq_of_mem_replicate
def Go.XO:=@Option.any_some
def Go.XP:=@List.getElem?_take
def Go.XQ:=@Int.tdiv_eq_ediv_of_nonneg
def Go.XR:=@Bool.not_eq_eq_eq_not
def Go.XT:=@Int.emod_nonneg
def Go.XU:=@List.findIdx?_eq_some_iff_getElem
def Go.XV:=@List.findIdx?_eq_none_iff
def Go.XW:=@List.getElem?_cons_zero
def Go.XX:=@Array.toList_setIfInBounds
def Go.XY:=@List.getLast?_cons_cons
def Go.XZ:=@Option.isSome_iff_exists
def Go.X0:=@List.append_cancel_left_eq
def Go.X3:=@Nat.mod_two_eq_zero_or_one
def Go.X4:=@List.perm_ext_iff_of_nodup
def Go.X5:=@Array.mem_or_eq_of_mem_setIfInBounds
def Go.X6:=@List.pairwise_iff_getElem
def Go.X7:=@Array.eq_empty_of_size_eq_zero
def Go.X8:=@List.length_filterMap_le
namespace Go.Tm
structure Ren(G:Nat) where
 rel:Nat->Nat->Prop
 fn:∀r R R',rel r R->rel r R'->R=R'
 inj:∀r r' R,rel r R->rel r' R->r=r'
 dF:∀r R,rel r R->(r<G↔R<G)
instance{G:Nat}:CoeFun (Ren G) (λ_=>Nat->Nat->Prop):=⟨Ren.rel⟩
variable {G:Nat}
def Ren.le(π a:Ren G):Prop:=∀r s,π r s->a r s
def Ren.le_refl(π:Ren G):Ren.le π π:=λ_ _ h=>h
def Ren.le_trans{a b c:Ren G}(h:Ren.le a b)(d:Ren.le b c):Ren.le a c:=λ_ _ x=>d _ _ (h _ _ x)
inductive aS(π:Ren G):Addr->Addr->Prop
 |mk {r s o:Nat} {p:Option Nat}:π r s->aS π ⟨r,o,p⟩ ⟨s,o,p⟩
def aS.mono{π b:Ren G}(l:Ren.le π b){a A}(h:aS π a A):aS b a A:=by cases h with|mk h=>exact .mk (l _ _ h)
def kD:Nat:=74
inductive FnR(π:Ren G):Fn->Fn->Prop
 |func (f):f≠kD->FnR π (.func f) (.func f)
 |yield {l L:Nat}:π l L->FnR π (.yield l) (.yield L)
def FnR.mono{π b:Ren G}(l:Ren.le π b){a A}(h:FnR π a A):FnR b a A:=by cases h with|yield h=>exact .yield (l _ _ h)|func f h=>exact .func f h
def dZ:Value->Bool
 | .pointer (some _)| .slice (some _) _ _| .map (some _)| .chan (some _)| .iface _ _=>true
 | .func (.method _) _ _=>false
 | .func _ _ _=>true
 |_=>false
inductive aA(π:Ren G):Value->Value->Prop
 |bool (b):aA π (.bool b) (.bool b)
 |int (k n):aA π (.int k n) (.int k n)
 |float (k b):aA π (.float k b) (.float k b)
 |complex (k a b):aA π (.complex k a b) (.complex k a b)
 |string (s):aA π (.string s) (.string s)
 |JG:aA π (.pointer none) (.pointer none)
 |ptr {a A:Addr}:aS π a A->aA π (.pointer (some a)) (.pointer (some A))
 |iL (l c):aA π (.slice none l c) (.slice none l c)
 |slice {a A:Addr} (l c):aS π a A->aA π (.slice (some a) l c) (.slice (some A) l c)
 |qE (A:Addr):aA π (.slice (some ⟨0,0,some 0⟩) 0 0) (.slice (some A) 0 0)
 |L0:aA π (.map none) (.map none)
 |map {r R:Nat}:π r R->aA π (.map (some r)) (.map (some R))
 |RF:aA π (.chan none) (.chan none)
 |chan {r R:Nat}:π r R->aA π (.chan (some r)) (.chan (some R))
 |func {fn FN:Fn} {f F c C:Array Value}:FnR π fn FN->f.size=F.size->(∀(i:Nat) x X,f[i]? =some x->F[i]? =some X->aA π x X)->c.size=C.size->(∀(i:Nat) x X,c[i]? =some x->C[i]? =some X->aA π x X)->aA π (.func fn f c) (.func FN F C)
 |nilFunc:aA π .nilFunc .nilFunc
 |iface (t) {v V:Value}:aA π v V->aA π (.iface t v) (.iface t V)
 |nilIface:aA π .nilIface .nilIface
 |agg {c C:Array Value}:c.size=C.size->(∀(i:Nat) x X,c[i]? =some x->C[i]? =some X->aA π x X)->aA π (.agg c) (.agg C)
 |tuple {c C:Array Value}:c.size=C.size->(∀(i:Nat) x X,c[i]? =some x->C[i]? =some X->aA π x X)->aA π (.tuple c) (.tuple C)
 |my (V):dZ V=true->aA π (.tuple #[]) V
 |JH (n f c):aA π (.func (.method "") #[.nilIface] #[]) (.func (.method n) f c)
def aA.mono{π d:Ren G}(l:Ren.le π d){v V}(h:aA π v V):aA d v V:=by induction h with|ptr h=>exact .ptr (h.mono l)|slice a b h=>exact .slice a b (h.mono l)|map h=>exact .map (l _ _ h)|chan h=>exact .chan (l _ _ h)|func g i _ j _ k m=>exact .func (g.mono l) i k j m|iface t _ e=>exact .iface t e|agg s _ e=>exact .agg s e|tuple s _ e=>exact .tuple s e|my V a=>exact .my V a|JH n f c=>exact .JH n f c|qE A=>exact .qE A|_=>constructor
def aZ{c d:Type}(R:c->d->Prop)(a:Array c)(b:Array d):Prop:=a.size=b.size/\∀(i:Nat) x y,a[i]? =some x->b[i]? =some y->R x y
def aZ.mono{c d}{R R':c->d->Prop}{a b}(e:∀x y,R x y->R' x y)(h:aZ R a b):aZ R' a b:=⟨h.1,λi x y f g=>e _ _ (h.2 i x y f g)⟩
abbrev VsR(π:Ren G):Array Value->Array Value->Prop:=aZ (aA π)
def aA.F9{π:Ren G}{c C}(h:VsR π c C):aA π (.agg c) (.agg C):=.agg h.1 h.2
def aA.tuple'{π:Ren G}{c C}(h:VsR π c C):aA π (.tuple c) (.tuple C):=.tuple h.1 h.2
inductive bt{α β:Type}(R:α->β->Prop):List α->List β->Prop
 |nil:bt R [] []
 |cons {x y l m}:R x y->bt R l m->bt R (x::l) (y::m)
def bt.mono{c d}{R R':c->d->Prop}(e:∀x y,R x y->R' x y){a b}(h:bt R a b):bt R' a b:=by induction h with|nil=>exact .nil|cons h _ f=>exact .cons (e _ _ h) f
inductive dP{α β:Type}(R:α->β->Prop):Option α->Option β->Prop
 |none:dP R none none
 |some {x y}:R x y->dP R (some x) (some y)
def dP.mono{c d}{R R':c->d->Prop}(e:∀x y,R x y->R' x y){a b}(h:dP R a b):dP R' a b:=by cases h with|none=>exact .none|some h=>exact .some (e _ _ h)
def bt.length{c d R}{a:List c}{b:List d}(h:bt R a b):a.length=b.length:=by induction h with|nil=>rfl|cons _ _ e=>simp[e]
def bt.append{e f R}{a c:List e}{b d:List f}(h:bt R a b)(g:bt R c d):bt R (a++c) (b++d):=by induction h with|nil=>exact g|cons x _ i=>exact .cons x i
def aZ.get{d e R}{a:Array d}{b:Array e}(h:aZ R a b)(i:Nat):dP R a[i]? b[i]? :=by obtain hi|hi:=Uh i a.size;have c:=h.1▸hi;rw[UD hi,UD c];exact .some (h.2 i _ _ (UD hi) (UD c));have c:b.size<=i:=h.1▸hi;rw[Vz hi,Vz c];exact .none
def aZ.lN{c d R}{a:Array c}{b:Array d}(h:∀i:Nat,dP R a[i]? b[i]?):aZ R a b:=by refine⟨?_,λi x y e f=>?_⟩;obtain h1|h1|h1:=Xm a.size b.size;have:=h a.size;rw[Vz (Ue _),UD h1]at this;cases this;exact h1;have:=h b.size;rw[Vz (Ue _),UD h1]at this;cases this;have:=h i;rw[e,f]at this;cases this with|some r=>exact r
def aZ.toList{e f R}{a:Array e}{b:Array f}(h:aZ R a b):bt R a.toList b.toList:=by
 obtain⟨a⟩:=a;obtain⟨b⟩:=b;simp only[aZ,UB,Wx]at h⊢;obtain⟨c,d⟩:=h;induction a generalizing b with
 |nil=>cases b with|nil=>exact .nil|cons _ _=>simp at c
 |cons x a g=>cases b with|nil=>simp at c|cons y b=>exact .cons (d 0 x y rfl rfl) (g b (by simpa using c) λi u v j k=>d (i+1) u v (by simpa using j) (by simpa using k))
def bt.get{c d R}{a:List c}{b:List d}(h:bt R a b)(i:Nat):dP R a[i]? b[i]? :=by
 induction h generalizing i with
 |nil=>simpa using dP.none
 |cons x _ e=>cases i with
  |zero=>simpa using dP.some x
  |succ i=>simpa using e i
def bt.toArray{c d R}{a:List c}{b:List d}(h:bt R a b):aZ R a.toArray b.toArray:=aZ.lN λi=>by simpa using h.get i
def aZ.push{c d R a b}(h:aZ R a b){x:c}{y:d}(r:R x y):aZ R (a.push x) (b.push y):=aZ.lN λi=>by rw[U6,U6,h.1];split;exact .some r;exact h.get i
def aZ.append{e f R}{a c:Array e}{b d:Array f}(h:aZ R a b)(g:aZ R c d):aZ R (a++c) (b++d):=aZ.lN λi=>by rw[Wk,Wk,h.1];split;exact h.get i;exact g.get _
def aZ.set{c d R a b}(h:aZ R a b)(i){x:c}{y:d}(r:R x y):aZ R (a.setIfInBounds i x) (b.setIfInBounds i y):=aZ.lN λj=>by rw[UY,UY,h.1];split;split;exact .some r;exact .none;exact h.get j
def aZ.extract{c d R}{a:Array c}{b:Array d}(h:aZ R a b)(i j):aZ R (a.extract i j) (b.extract i j):=aZ.lN λk=>by rw[Xn,Xn,h.1];split;exact h.get _;exact .none
def aZ.empty{a b R}:aZ R (#[]:Array a) (#[]:Array b):=⟨rfl,λi x y h=>by simp at h⟩
def aZ.map{j k d e R}{S:d->e->Prop}{a b}(h:aZ R a b){f:j->d}{g:k->e}(l:∀x y,R x y->S (f x) (g y)):aZ S (a.map f) (b.map g):=aZ.lN λi=>by rw[UK,UK];have c:=h.get i;revert c;generalize a[i]? =u;generalize b[i]? =v;intro c;cases c with|none=>exact .none|some r=>exact .some (l _ _ r)
def aZ.refl{b}{R:b->b->Prop}{a}(h:∀x,x∈a->R x x):aZ R a a:=⟨rfl,λi x y c d=>by rw[c]at d;cases d;exact h x (UZ c)⟩
end Go.Tm
namespace Go.Tm
variable {G:Nat}
structure iM(π:Ren G)(e E:MapEntry):Prop where
 key:aA π e.key E.key
 val:aA π e.val E.val
 born:e.born=E.born
inductive pM(π:Ren G):Deferred->Deferred->Prop
 |mk {r R:Nat}:π r R->pM π ⟨.collected r,#[]⟩ ⟨.collected R,#[]⟩
def fR:Value->Bool
 | .bool _| .int .. | .float .. | .complex .. | .string _| .pointer none| .slice none _ _| .map none| .chan none| .nilFunc| .nilIface=>true
 | .tuple c=>c.isEmpty
 |_=>false
def I6:Question->Bool
 | .order _ _=>true
 |_=>false
def L1{q}(h:I6 q=false)(f id):q≠ .order f id:=λe=>by rw[e]at h;cases h
structure Kn where
 dF:Nat->Bool
 ent:Nat->Bool
 stop:Nat->Bool
 own:Nat->Bool
def Kn.free(S:Kn)(q:Question):Prop:=∀f a,q=.order f a->S.own f=false
def Kn.fS(S:Kn)(g:Question->Nat):Prop:=∀f a,S.own f=true->g (.order f a)=0
def Kn.calm(S:Kn)(g:Question->Nat):Prop:=∀f a,S.ent f=true->S.own f=true->g (.order f a)=0
noncomputable def only(q:Question)(n:Nat):Question->Nat:=open Classical in λa=>if a=q then n else 0
def tt(q n):only q n q=n:=Ud rfl
def zE{S:Kn}{q}(h:S.free q)(n):S.fS (only q n):=λf b a=>by unfold only;refine Uc λe=>?_;rw[h f b e.symm]at a;cases a
def Ga{S:Kn}{f:FuncId}(h:S.ent f=true){g}(c:S.calm g)(a):S.fS (only (.order f a) (g (.order f a))):=λd b i=>by unfold only;by_cases e:Question.order d b=.order f a;rw[Ud e];cases e;exact c f a h i;exact Uc e
def mz{S:Kn}:S.fS (λ_=>0):=λ_ _ _=>rfl
def cJ(S:Kn):Operand->Bool
 | .tmp _=>true
 | .func f=>f !=kD
 | .const v=>fR v
 | .global g=>S.dF g
def pj:Builtin->Bool
 | .append| .cap| .copy| .len| .max| .min| .unsafeString| .panic=>true
 |_=>false
def kE(S:Kn):Op->Bool
 | .call ⟨.value (.func f),args,_⟩=>f==kD&&args.size==1&&args.all (cJ S)
 |_=>false
def A8(S:Kn)(o:Op):Bool:=
 kE S o||(match o with
 | .move _| .assign _| .pick .. | .alloc _| .box .. | .build .. | .buildSlice .. | .insert .. | .load .. | .store .. | .nilCheck _| .binOp .. | .unOp .. | .makeInterface .. | .makeMap .. | .makeSlice .. | .slice ..
 | .fieldAddr .. | .field .. | .indexAddr .. | .index .. | .lookup .. | .mapUpdate .. | .mapEntry .. | .entryStore .. | .range .. | .next .. | .entry _| .extract .. | .panic _=>true
 | .makeFunc (.func f) _ _=>f !=kD
 | .convert s d _=>s !=d
 | .call ⟨.value _,_,_⟩=>true
 | .call ⟨.builtin b,_,_⟩=>pj b
 |_=>false)&&o.operands.all (cJ S)
def codeOk(S:Kn):Code->Bool
 | .skip| .exit _| .label _| .goto _| .ret| .refuse _=>true
 | .region _ ops _=>ops.all λo=>A8 S o.op
 | .seq a b=>codeOk S a&&codeOk S b
 | .cond c a b=>cJ S c&&codeOk S a&&codeOk S b
 | .block _ b| .loop b| .scope b=>codeOk S b
 | .rangeFunc f _ a b=>cJ S f&&codeOk S a&&codeOk S b
def Kn.code(S:Kn)(c:Code):Prop:=codeOk S c=true
def qG:TypeId:=1000000
def RG:Op->Bool
 | .call ⟨.builtin .unsafeSliceData,_,_⟩=>true
 |_=>false
def opD(S:Kn)(o:Op):Bool:=A8 S o||(match o with
 | .call ⟨.builtin .unsafeSliceData,args,_⟩=>args.all (cJ S)
 |_=>false)
def cT(o:Oper):Oper:=if RG o.op then{o with type:=qG}else o
def gS:Code->Code
 | .region e ops d=>.region e (ops.map cT) d
 | .seq a b=>.seq (gS a) (gS b)
 |c=>c
def iO(S:Kn):Code->Bool
 | .region _ ops _=>ops.all λo=>opD S o.op
 | .seq a b=>iO S a&&iO S b
 |c=>codeOk S c
def Df{S:Kn}{o}(h:A8 S o=true):RG o=false:=by
 cases o with
 |call c=>
  obtain⟨k,a,t⟩:=c;cases k with
  |builtin b=>cases b<;>first|rfl|(simp[A8,kE,pj]at h;done)
  |_=>rfl
 |_=>rfl
theorem gU{S:Kn}:∀{c},codeOk S c=true->gS c=c/\iO S c=true
 | .region g ops d,h=>by
  simp only[codeOk]at h;rw[V8]at h;refine⟨?_,?_⟩
  ·show Code.region g (ops.map cT) d=_
   have e:ops.map cT=ops:=by refine Wy (by simp) λi hi f=>?_;rw[Array.getElem_map];unfold cT;rw[Uc];rw[Df (h _ (Wz f))];simp
   rw[e]
  ·simp only[iO]
   rw[V8];exactλo j=>by unfold opD;rw[h o j];rfl
 | .seq a b,h=>by simp only[codeOk,Un]at h;obtain⟨k,m⟩:=gU h.1;obtain⟨n,p⟩:=gU h.2;exact⟨by simp only[gS,k,n],by simp only[iO,m,p,Bool.and_self]⟩
 | .skip,h| .exit _,h| .label _,h| .goto _,h| .ret,h| .refuse _,h| .cond ..,h| .rangeFunc ..,h| .block ..,h| .loop _,h| .scope _,h=>⟨rfl,h⟩
structure Dg(S:Kn)(π:Ren G)(l L:Loop):Prop where
 state:l.state=L.state
 pending:l.pending=L.pending
 TD:∀c,l.pending=some c->S.code c
 fn:l.fn=L.fn
 ent:S.ent l.fn=true
 tmps:VsR π l.tmps L.tmps
 params:l.params=L.params
 assign:l.assign=L.assign
 RH:S.code l.assign
 body:l.body=L.body
 RI:S.code l.body
 defers:π l.defers L.defers
def JI(n:Nat)(f F:Nat×Nat):Prop:=F=f\/(f.1=0/\n<f.2/\F.2<=f.2)
def grow(f:Nat×Nat)(a n:Nat):Nat×Nat:=if f.1==f.2 then(a,a+n)else(min f.1 a,max f.2 (a+n))
def Fle(f F:Nat×Nat):Prop:=F=f\/(F.1<F.2/\(f.1=f.2\/(F.1<=f.1/\f.2<=F.2)))
def Fle.refl(f):Fle f f:=.inl rfl
def Fle.trans{a b c}(h:Fle a b)(e:Fle b c):Fle a c:=by obtain rfl|⟨f,h2⟩:=h;exact e;obtain rfl|⟨g,d⟩:=e;exact .inr ⟨f,h2⟩;refine .inr ⟨g,?_⟩;obtain h2|h2:=h2;exact .inl h2;rcases d with d|d<;>omega
def Fle.back{a b}(h:Fle a b)(c:Fle b a):b=a:=by obtain h|⟨d,e⟩:=h;exact h;obtain c|⟨f,g⟩:=c;exact c.symm;(have:b.1=a.1/\b.2=a.2:=by omega);exact Prod.ext this.1 this.2
def L3(f a n)(b:n≠0):Fle f (grow f a n):=by unfold grow;by_cases h:f.1=f.2;rw[Ud (by simpa using h)];exact .inr ⟨by simp;omega,.inl h⟩;rw[Uc (by simpa using h)];exact .inr ⟨by simp;omega,.inr (by simp;omega)⟩
inductive fG(S:Kn)(π:Ren G):Obj->Obj->Prop
 |cells {c C:Array Value} (e:TypeId) {f F:Nat×Nat}:VsR π c C->JI c.size f F->fG S π (.cells c e f) (.cells C e F)
 |map {es ES:Array MapEntry} (n:Nat):aZ (iM π) es ES->fG S π (.map es n) (.map ES n)
 |stringIter (s p):fG S π (.stringIter s p) (.stringIter s p)
 |fo (a b c):fG S π (.mapIter none a b c) (.mapIter none a b c)
 |mapIter {m M:Nat} (a b c):π m M->fG S π (.mapIter (some m) a b c) (.mapIter (some M) a b c)
 |loop {l L:Loop}:Dg S π l L->fG S π (.loop l) (.loop L)
 |deferred:fG S π (.deferred (some [])) (.deferred (some []))
 |eB:fG S π (.deferred none) (.deferred none)
 |number {a A:Addr} (l:Bool):aS π a A->fG S π (.number a l) (.number A l)
 |view {a A:Addr} (t:TypeId):aS π a A->fG S π (.view a t) (.view A t)
section mono
variable {S:Kn} {π π':Ren G} (l:Ren.le π π')
include l
def VsR.mono{c C:Array Value}(h:VsR π c C):VsR π' c C:=aZ.mono (λ_ _ x=>x.mono l) h
def iM.mono{e E:MapEntry}(h:iM π e E):iM π' e E:=⟨h.key.mono l,h.val.mono l,h.born⟩
def pM.mono{e E:Deferred}(h:pM π e E):pM π' e E:=by cases h with|mk a=>exact .mk (l _ _ a)
def Dg.mono{e E:Loop}(h:Dg S π e E):Dg S π' e E:={h with tmps:=VsR.mono l h.tmps,defers:=l _ _ h.defers}
def fG.mono{o O:Obj}(h:fG S π o O):fG S π' o O:=by cases h with|cells e h f=>exact .cells e (VsR.mono l h) f|map n h=>exact .map n (aZ.mono (λ_ _ x=>x.mono l) h)|stringIter=>exact .stringIter _ _|fo=>exact .fo _ _ _|mapIter a b c h=>exact .mapIter a b c (l _ _ h)|loop h=>exact .loop (h.mono l)|deferred=>exact .deferred|eB=>exact .eB|number b h=>exact .number b (h.mono l)|view t h=>exact .view t (h.mono l)
end mono
structure bw(S:Kn)(Pr:Nat->Prop)(π:Ren G)(w W:World):Prop where
 obj:∀r R,π r R->∃o O,w.heap[r]? =some o/\W.heap[R]? =some O/\fG S π o O
 vt:∀r R,π r R->Pr R->∃c e f,w.heap[r]? =some (.cells c e f)/\f.1=0/\c.size<f.2
 wI:∀R,Pr R->R<W.heap.size
 gw:G<=w.heap.size
 gW:G<=W.heap.size
 w0:∃c e f,w.heap[0]? =some (.cells c e f)
def av(w:World)(τ:Nat->Question->Nat)(d:Nat):World:={w with tape:=τ,drawn:=d}
def Fits(τ:Nat->Question->Nat)(d:Nat)(l:List (Question->Nat)):Prop:=∀i g,l[i]? =some g->τ (d+i)=g
def Fits.head{τ d g l}(h:Fits τ d (g::l)):τ d=g:=h 0 g rfl
def Fits.tail{τ d g l}(h:Fits τ d (g::l)):Fits τ (d+1) l:=λi g' hi=>by have:=h (i+1) g' (by simpa using hi);rw[show d+1+i=d+(i+1) by omega];exact this
def lO(d:Nat)(l:List (Question->Nat)):Nat->Question->Nat:=λn=>(l[n-d]?).getD λ_=>0
def lz(d l):Fits (lO d l) d l:=λi g h=>by unfold lO;rw[show d+i-d=i by omega,h];rfl
structure Chg(Pr:Nat->Prop)(π:Ren G)(W W':World)(π':Ren G):Prop where
 os:W'.os=W.os
 tape:W'.tape=W.tape
 output:W'.output=W.output
 size:W.heap.size<=W'.heap.size
 keep:∀b,b<W.heap.size->(¬∃r,π r b)->W'.heap[b]? =W.heap[b]?
 nV:∀b,Pr b->∀c e F,W.heap[b]? =some (Obj.cells c e F)->∃F',W'.heap[b]? =some (Obj.cells c e F')
 fz:∀(b:Nat) c e F,W.heap[b]? =some (Obj.cells c e F)->∃c' F',W'.heap[b]? =some (Obj.cells c' e F')/\Fle F F'
 old:∀r R,π' r R->π r R\/W.heap.size<=R
 new:∀R,W.heap.size<=R->R<W'.heap.size->∃r,π' r R
 le:Ren.le π π'
def Chg.refl(Pr)(π:Ren G)(W):Chg Pr π W W π:=⟨rfl,rfl,rfl,Ue _,λ_ _ _=>rfl,λ_ _ _ _ F h=>⟨F,h⟩,λ_ c _ F h=>⟨c,F,h,.refl _⟩,λ_ _ h=>.inl h,λ_ a b=>absurd b (Vi.2 a),λ_ _ h=>h⟩
def Chg.trans{Pr}{π π' π'':Ren G}{W j g}(h:Chg Pr π W j π')(d:Chg Pr π' j g π''):Chg Pr π W g π'':=by refine⟨d.os.trans h.os,d.tape.trans h.tape,d.output.trans h.output,Uf h.size d.size,λb f q=>?_,λb f c e F k=>?_,λb c e F k=>?_,λr R i=>?_,λR a b=>?_,Ren.le_trans h.le d.le⟩;rw[d.keep b (Ui f h.size) ?_,h.keep b f q];(exactλ⟨r,i⟩=>(h.old r b i).elim (λx=>q ⟨r,x⟩) λx=>absurd f (Vi.2 x));obtain⟨m,n⟩:=h.nV b f c e F k;exact d.nV b f c e m n;obtain⟨c',m,n,s⟩:=h.fz b c e F k;obtain⟨o,p,t,u⟩:=d.fz b c' e m n;exact⟨o,p,t,s.trans u⟩;obtain x|x:=d.old r R i;exact h.old r R x;exact .inr (Uf h.size x);obtain x|x:=Uh R j.heap.size;obtain⟨r,i⟩:=h.new R a x;exact⟨r,d.le _ _ i⟩;exact d.new R x b
def lu(Pr:Nat->Prop)(π:Ren G)(e:Event):Prop:=
 match e.loc with
 | .cell A=>e.sync=false/\(∃r,π r A.block)/\(e.write=true->¬Pr A.block)
 | .obj R=>e.sync=false/\(∃r,π r R)/\(e.write=true->¬Pr R)
 | .mark (.extern _)=>True
 | .mark .noRoom=>True
 |_=>False
def lu.mono{Pr}{π π':Ren G}(l:Ren.le π π'){e}(h:lu Pr π e):lu Pr π' e:=by unfold lu at*;split<;>simp_all;obtain⟨_,⟨r,a⟩,_⟩:=h;exact⟨r,l _ _ a⟩;obtain⟨_,⟨r,a⟩,_⟩:=h;exact⟨r,l _ _ a⟩
def gH:Halt->Prop
 | .panic _| .stuck _=>True
 | .unsupported (.initOrder _)=>False
 | .unsupported _=>True
 |_=>False
def nW(w w':World):Prop:=∀(r:Nat) (o:Obj),w.heap[r]? =some o->w'.heap[r]? =some o
def nW.refl(w):nW w w:=λ_ _ h=>h
def nW.trans{a b c}(h:nW a b)(d:nW b c):nW a c:=λr o x=>d r o (h r o x)
def cW{c}(s:Sem c):Prop:=∀(P:Program) (w:World) (es:Array Event),(∃a w' b,s.runT P w es=(.ok a w',b)/\nW w w')\/∃h w' b,s.runT P w es=(.halt h w',b)/\gH h/\nW w w'
def dR{b}(s:Sem b):Prop:=∀(P:Program) (w:World) (es:Array Event),∃h w' a,s.runT P w es=(.halt h w',a)/\gH h/\nW w w'
def dR.halt{a:Type}(h:Halt)(b:gH h:=by exact True.intro):dR (Sem.halt h:Sem a):=λ_ w es=>⟨h,w,es,rfl,b,.refl _⟩
def runT_bind'{e g}(P)(f:e->Sem g)(s:Sem e):∀(w) (es),(∃a w' d,s.runT P w es=(.ok a w',d)/\(s.bind f).runT P w es=(f a).runT P w' d)\/(∃h w' d,s.runT P w es=(.halt h w',d)/\(s.bind f).runT P w es=(.halt h w',d)):=by
 induction s with
 |pure a=>exactλw es=>.inl ⟨a,w,es,rfl,rfl⟩
 |load m a k b=>intro w es;simp only[Sem.bind,Sem.runT];cases w.cell? a with|some v=>exact b v w _|none=>simp only[];cases w.farLoad P a (m== .atomic)with|ok r=>exact b r.1 w _|error h=>exact .inr ⟨h,w,es,rfl,rfl⟩
 |store m a v k b=>intro w es;cases v with|agg=>exact .inr ⟨_,w,es,rfl,rfl⟩|tuple=>exact .inr ⟨_,w,es,rfl,rfl⟩|_=>simp only[Sem.bind,Sem.runT];cases w.cell? a with|some v=>simp only[];split;exact .inr ⟨_,w,es,rfl,rfl⟩;exact b _ _|none=>simp only[];split;exact b _ _;exact .inr ⟨_,w,es,rfl,rfl⟩
 |new o k b=>exactλw es=>b _ _ _
 |shape r k b=>exactλw es=>b _ _ _
 |freeze a n k b=>exactλw es=>b _ _
 |frozen a k b=>exactλw es=>b _ _ _
 |getObj r k b=>intro w es;simp only[Sem.bind,Sem.runT];split;exact .inr ⟨_,w,es,rfl,rfl⟩;exact b _ _ _;exact .inr ⟨_,w,es,rfl,rfl⟩
 |setObj r o k b=>intro w es;simp only[Sem.bind,Sem.runT];split;exact .inr ⟨_,w,es,rfl,rfl⟩;exact b _ _;exact .inr ⟨_,w,es,rfl,rfl⟩
 |choose q k b=>intro w es;simp only[Sem.bind,Sem.runT];split;exact b _ _ _;exact b _ _ _
 |sys c k b=>exactλw es=>b _ _ _
 |program k b=>exactλw es=>b _ _ _
 |mark m k b=>exactλw es=>b _ _
 |halt h=>exactλw es=>.inr ⟨h,w,es,rfl,rfl⟩
def eC{p q}(s)(f:p->Sem q)(c:dR s\/(cW s/\∀a,dR (f a))):dR (s>>= f):=by show dR (s.bind f);intro P w es;obtain⟨a,w1,e,d,m⟩|⟨h,w1,e,d,m⟩:=runT_bind' P f s w es;rw[m];obtain c|⟨n,c⟩:=c;obtain⟨h,w2,b,g,_⟩:=c P w es;rw[d]at g;simp at g;obtain⟨h,w3,o,r,i,j⟩:=c a P w1 e;obtain⟨t,w2,b,g,k⟩|⟨h,w2,b,g,_⟩:=n P w es;rw[d]at g;cases g;exact⟨h,w3,o,r,i,k.trans j⟩;rw[d]at g;simp at g;rw[m];obtain c|⟨n,c⟩:=c;obtain⟨u,w2,b,g,i,j⟩:=c P w es;rw[d]at g;cases g;exact⟨_,_,_,rfl,i,j⟩;obtain⟨t,w2,b,g,k⟩|⟨u,w2,b,g,i,j⟩:=n P w es;rw[d]at g;simp at g;rw[d]at g;cases g;exact⟨_,_,_,rfl,i,j⟩
def dR.RJ{a}{s:Sem a}(h:dR s):cW s:=λP w es=>.inr (h P w es)
def cW.bind{q r s}{f:q->Sem r}(h:cW s)(t:∀a,cW (f a)):cW (s>>= f):=by show cW (s.bind f);intro P w es;obtain⟨a,w1,e,i,m⟩|⟨v,w1,e,i,m⟩:=runT_bind' P f s w es;rw[m];obtain⟨u,w2,c,g,k⟩|⟨n,w2,c,g,_⟩:=h P w es;rw[i]at g;cases g;obtain⟨b,w3,d,o,j⟩|⟨n,w3,d,o,j,p⟩:=t a P w1 e;exact .inl ⟨b,w3,d,o,k.trans j⟩;exact .inr ⟨n,w3,d,o,j,k.trans p⟩;rw[i]at g;simp at g;rw[m];obtain⟨u,w2,c,g,k⟩|⟨n,w2,c,g,j,p⟩:=h P w es;rw[i]at g;simp at g;rw[i]at g;cases g;exact .inr ⟨_,_,_,rfl,j,p⟩
def cW.pure{b}(a):cW (Pure.pure a:Sem b):=λ_ w es=>.inl ⟨a,w,es,rfl,.refl _⟩
def cW.ite{a c}[Decidable c]{s t:Sem a}(h:cW s)(b:cW t):cW (if c then s else t):=by split<;>assumption
def cW.stuck{a}(m):cW (Go.stuck m:Sem a):=(dR.halt _).RJ
def cW.unsupported{a:Type}(u:Unsupported)(h:gH (.unsupported u):=by exact True.intro):cW (Go.unsupported u:Sem a):=(dR.halt _ h).RJ
def cW.program:cW Go.program:=λP w es=>.inl ⟨P,w,es,rfl,.refl _⟩
def cW.choose(q):cW (Go.choose q):=by intro P w es;by_cases h:q.forced=true;exact .inl ⟨0,w,es,by simp[Go.choose,Sem.runT,h],.refl _⟩;exact .inl ⟨_,{w with drawn:=w.drawn+1},es,by simp[Go.choose,Sem.runT,h];rfl,λ_ _ h=>h⟩
def cW.shape(r):cW (Go.shape r):=λ_ w es=>.inl ⟨_,w,es,rfl,.refl _⟩
def cW.frozen(a):cW (Go.frozen a):=λ_ w es=>.inl ⟨_,w,es,rfl,.refl _⟩
def cW.mark(m):cW (Go.mark m):=λ_ w _=>.inl ⟨_,w,_,rfl,.refl _⟩
def cW.newObj(o):cW (Go.newObj o):=λ_ w es=>.inl ⟨_,_,es,rfl,λr x h=>by have:=(Uk.1 h).1;simp only[U6];rw[Uc (by omega)];exact h⟩
def L4{e}(a:Ask e):∀w:World,(w.ask a).2.heap=w.heap:=by induction a with|done a=>exactλ_=>rfl|ask c b k d=>intro w;simp only[World.ask];split;exact d _ _;exact(d _ _).trans rfl
def L5(w:World)(c):(w.sys c).2.heap=w.heap:=by unfold World.sys;have:=L4 (Kernel.perform c w.os) w;split;rfl;rename_i h;rw[h]at this;exact this
def cW.sys(c):cW (Go.sys c):=λ_ w es=>.inl ⟨_,(w.sys c).2,_,rfl,λr x h=>by rw[L5];exact h⟩
inductive SR(S:Kn)(PS P:Program){α β:Type}(Q:Ren G->α->β->Prop):Ren G->Sem α->Sem β->Prop
 |pure {π a b}:Q π a b->SR S PS P Q π (.pure a) (.pure b)
 |load {π a A k K}:aS π a A->(∀v V,aA π v V->SR S PS P Q π (k v) (K V))->SR S PS P Q π (.load .plain a k) (.load .plain A K)
 |store {π a A v V k K}:aS π a A->aA π v V->SR S PS P Q π k K->SR S PS P Q π (.store .plain a v k) (.store .plain A V K)
 |new {π o O k K}:fG S π o O->(∀π' r R,Ren.le π π'->π' r R->SR S PS P Q π' (k r) (K R))->SR S PS P Q π (.new o k) (.new O K)
 |shape {π r R k K}:π r R->(∀s,SR S PS P Q π (k s) (K s))->SR S PS P Q π (.shape r k) (.shape R K)
 |freeze {π a A n k K}:aS π a A->SR S PS P Q π k K->SR S PS P Q π (.freeze a n k) (.freeze A n K)
 |frozen {π a A k K}:aS π a A->(∀b B:Bool,(B=true->b=true)->SR S PS P Q π (k b) (K B))->SR S PS P Q π (.frozen a k) (.frozen A K)
 |getObj {π r R k K}:π r R->(∀o O,fG S π o O->SR S PS P Q π (k o) (K O))->SR S PS P Q π (.getObj r k) (.getObj R K)
 |setObj {π r R o O k K}:π r R->(∀c e f,o≠ .cells c e f)->fG S π o O->SR S PS P Q π k K->SR S PS P Q π (.setObj r o k) (.setObj R O K)
 |choose {π q k K}:S.free q->(∀n,SR S PS P Q π (k n) (K n))->SR S PS P Q π (.choose q k) (.choose q K)
 |program {π k K}:SR S PS P Q π (k PS) (K P)->SR S PS P Q π (.program k) (.program K)
 |kF {π k s'}:SR S PS P Q π (k PS) s'->SR S PS P Q π (.program k) s'
 |extern {π f k K}:SR S PS P Q π k K->SR S PS P Q π (.mark (.extern f) k) (.mark (.extern f) K)
 |noRoom {π k K}:SR S PS P Q π k K->SR S PS P Q π (.mark .noRoom k) (.mark .noRoom K)
 |m6 {π q k s' n} (t:Nat):S.free q->(if q.forced then n=0 else q.cut t=n)->SR S PS P Q π (k n) s'->SR S PS P Q π (.choose q k) s'
 |tu {π s r K}:(∀x,SR S PS P Q π s (K x))->SR S PS P Q π s (.shape r K)
 |tv {π k s'}:(∀x,SR S PS P Q π (k (some x)) s')->SR S PS P Q π (.shape 0 k) s'
 |pk {π s a K}:(∀x,SR S PS P Q π s (K x))->SR S PS P Q π s (.frozen a K)
 |never {π s s'}:dR s->SR S PS P Q π s s'
def SR.bind{S i P k m p u Q₁ Q}{π:Ren G}{s s'}{f:k->Sem p}{F:m->Sem u} (h:SR S i P Q₁ π s s') (d:∀π',Ren.le π π'->∀a b,Q₁ π' a b->SR S i P Q π' (f a) (F b)):SR S i P Q π (s>>= f) (s'>>= F):=by show SR S i P Q π (s.bind f) (s'.bind F);induction h with|pure q=>exact d _ (Ren.le_refl _) _ _ q|load a _ c=>exact .load a λv V w=>c v V w d|store a v _ c=>exact .store a v (c d)|new o _ c=>exact .new o λπ' r R l x=>c π' r R l x λg y=>d g (Ren.le_trans l y)|shape r _ c=>exact .shape r λs=>c s d|freeze a _ c=>exact .freeze a (c d)|frozen a _ c=>exact .frozen a λb B x=>c b B x d|getObj r _ c=>exact .getObj r λo O x=>c o O x d|setObj r n o _ c=>exact .setObj r n o (c d)|choose j _ c=>exact .choose j λn=>c n d|program _ c=>exact .program (c d)|kF _ c=>exact .kF (c d)|extern _ c=>exact .extern (c d)|noRoom _ c=>exact .noRoom (c d)|m6 t j e _ c=>exact .m6 t j e (c d)|tu _ c=>exact .tu λx=>c x d|tv _ c=>exact .tv λx=>c x d|pk _ c=>exact .pk λx=>c x d|never n=>exact .never (eC _ _ (.inl n))
def SR.mono{S i P j k Q Q'}{π:Ren G}{s:Sem j}{s':Sem k} (h:SR S i P Q π s s') (d:∀π',Ren.le π π'->∀a b,Q π' a b->Q' π' a b):SR S i P Q' π s s':=by induction h with|pure q=>exact .pure (d _ (Ren.le_refl _) _ _ q)|load a _ c=>exact .load a λv V m=>c v V m d|store a v _ c=>exact .store a v (c d)|new o _ c=>exact .new o λπ' r R l x=>c π' r R l x λf p=>d f (Ren.le_trans l p)|shape r _ c=>exact .shape r λs=>c s d|freeze a _ c=>exact .freeze a (c d)|frozen a _ c=>exact .frozen a λb B x=>c b B x d|getObj r _ c=>exact .getObj r λo O x=>c o O x d|setObj r n o _ c=>exact .setObj r n o (c d)|choose g _ c=>exact .choose g λn=>c n d|program _ c=>exact .program (c d)|kF _ c=>exact .kF (c d)|extern _ c=>exact .extern (c d)|noRoom _ c=>exact .noRoom (c d)|m6 t g e _ c=>exact .m6 t g e (c d)|tu _ c=>exact .tu λx=>c x d|tv _ c=>exact .tv λx=>c x d|pk _ c=>exact .pk λx=>c x d|never n=>exact .never n
end Go.Tm
namespace Go.Tm
variable {G:Nat} {S:Kn} {Pr:Nat->Prop} {π:Ren G} {w W:World}
def ah(P:Program)(fs:Array Func):Program:={P with funcs:=fs}
def JJ(P fs t):(ah P fs).info? t=P.info? t:=rfl
def jI(P fs t):(ah P fs).underlying t=P.underlying t:=rfl
def gp(P fs):∀(d) (t) (off),byteOfCell (ah P fs) d t off=byteOfCell P d t off:=by intro d;induction d with|zero=>exactλ_ _=>rfl|succ d a=>intro t off;unfold byteOfCell;simp only[a];rfl
def tw(P fs):∀(d) (t) (off),cellHolding (ah P fs) d t off=cellHolding P d t off:=by intro d;induction d with|zero=>exactλ_ _=>rfl|succ d a=>intro t off;unfold cellHolding;simp only[a];rfl
def wJ(P fs):∀(d) (t) (off),plainCell (ah P fs) d t off=plainCell P d t off:=by intro d;induction d with|zero=>exactλ_ _=>rfl|succ d a=>intro t off;unfold plainCell;simp only[a];rfl
def Gb(P fs):∀(d) (t),tight (ah P fs) d t=tight P d t:=by intro d;induction d with|zero=>exactλ_=>rfl|succ d a=>intro t;unfold tight;simp only[a];rfl
def aA.bytes{v V}(h:aA π v V){bs}(a:v.bytes?=some bs):V=v:=by cases h<;>first|rfl|(simp[Value.bytes?]at a)
def pN{v x bs}(h:v.ofBytes bs=some x):aA π x x/\∀V,aA π v V->V=v:=by (cases v<;>simp only[Value.ofBytes]at h;case bool=>refine⟨?_,λV a=>by cases a;rfl⟩;split at h<;>first|(cases h;constructor)|cases h);(case int=>refine⟨?_,λV a=>by cases a;rfl⟩;split at h<;>first|(cases h;constructor)|cases h);(case float=>refine⟨?_,λV a=>by cases a;rfl⟩;split at h<;>first|(cases h;constructor)|cases h);(case complex=>refine⟨?_,λV a=>by cases a;rfl⟩;split at h<;>first|(cases h;constructor)|cases h);all_goals cases h
def yO(P fs){c C}(n:VsR π c C)(e):∀(f x stop) (l),seenCells (ah P fs) c e f x stop=.ok l->seenCells P C e f x stop=.ok l:=by intro f;induction f with|zero=>intro x stop l h;simp[seenCells]at h|succ f o=>intro x stop l h;unfold seenCells at h⊢;simp only[show(ah P fs).depth=P.depth from rfl,show ∀t,(ah P fs).cellsOf t=P.cellsOf t fromλ_=>rfl,show ∀t,(ah P fs).bytesOf t=P.bytesOf t fromλ_=>rfl,tw]at h;dsimp only at h⊢;split;rename_i d;rw[Ud d]at h;exact h;rename_i d;rw[Uc d]at h;split;rename_i g;rw[Ud g]at h;cases h;rename_i g;rw[Uc g]at h;split;rename_i j;rw[j]at h;cases h;rename_i i s j;rw[j]at h;simp only[]at h⊢;have k:=n.get i;revert k h;generalize c[i]? =u;generalize C[i]? =v;intro h k;cases k with|none=>cases h| @some v V r=>simp only[]at h⊢;cases a:v.bytes? with|none=>rw[a]at h;cases h|some bs=>rw[r.bytes a,a];rw[a]at h;cases bs with|nil=>cases h|cons b bs=>simp only[]at h⊢;cases m:seenCells (ah P fs) c e f (s+(b::bs).length) stop with|error _=>rw[m]at h;cases h|ok p=>rw[o _ _ _ m];rw[m]at h;exact h
def Dh{P fs}(i:∀r R,π r R->∃o O,w.heap[r]? =some o/\W.heap[R]? =some O/\fG S π o O) {a A k K} (D:aS π a A) (E:aS π k K) (u) {x} (h:w.seen (ah P fs) a u k false=.ok x):∃c e f b l cs C F,x=(c,e,f,b,l,cs)/\W.seen P A u K false=.ok (C,e,F,b,l,cs)/\w.heap[a.block]? =some (.cells c e f)/\W.heap[A.block]? =some (.cells C e F)/\VsR π c C/\JI c.size f F:=by
 cases D with
 | @mk r R o p H=>
 cases E with
 | @mk Q R' o' I J=>
 obtain⟨ob,T,m,L,M⟩:=i _ _ H;unfold World.seen at h⊢;simp only[m,wJ,gp,show(ah P fs).depth=P.depth from rfl,show ∀t,(ah P fs).cellsOf t=P.cellsOf t fromλ_=>rfl,show ∀t,(ah P fs).bytesOf t=P.bytesOf t fromλ_=>rfl]at h;simp only[L];by_cases g:(I.isSome||p.isSome)=true;rw[Ud g]at h;cases h
 rw[Uc g]at h⊢;cases n:plainCell P P.depth u o' with
 |none=>rw[n]at h;cases h
 |some d=>
 rw[n]at h;simp only[]at h⊢;cases q:Option.map (λx:List UInt8=>x.length) d.bytes? with
 |none=>rw[q]at h;cases h
 |some size=>
 rw[q]at h;simp only[]at h⊢;cases s:byteOfCell P P.depth u o' with
 |none=>rw[s]at h;cases h
 |some v=>
 rw[s]at h;simp only[]at h⊢;cases M with
 | @cells c C e f F y N=>simp only[]at h⊢;by_cases z:P.cellsOf e=0;rw[Ud z]at h;cases h;rw[Uc z]at h⊢;cases j:byteOfCell P P.depth e (o%P.cellsOf e)with|none=>rw[j]at h;cases h|some B=>rw[j]at h;simp only[]at h⊢;cases g:seenCells (ah P fs) c e (size+1) (o/P.cellsOf e*P.bytesOf e+B+v) (o/P.cellsOf e*P.bytesOf e+B+v+size)with|error _=>rw[g]at h;cases h|ok cs=>rw[yO P fs y e _ _ _ _ g];rw[g]at h;cases h;exact⟨c,e,f,_,d,cs,C,F,rfl,rfl,m,rfl,y,N⟩
 |_=>cases h
def A9{P fs}(d:∀r R,π r R->∃o O,w.heap[r]? =some o/\W.heap[R]? =some O/\fG S π o O) {a A k K} (i:aS π a A) (j:aS π k K) (u) {v} {t} (h:w.viewLoad (ah P fs) a u k false=.ok (v,t)):∃T,W.viewLoad P A u K false=.ok (v,T)/\aA π v v/\∀X∈T,X.block=A.block:=by unfold World.viewLoad at h⊢;cases g:w.seen (ah P fs) a u k false with|error _=>rw[g]at h;cases h|ok x=>obtain⟨c,e,f,b,l,cs,C,F,rfl,m,_,_,_,_⟩:=Dh d i j u g;rw[g]at h;rw[m];dsimp only[bind,Except.bind]at h⊢;split at h;rename_i q n;cases h;exact⟨_,rfl,(pN n).1,λX p=>by obtain⟨x,_,rfl⟩:=VA.1 p;rfl⟩;cases h
def Gc{f σ τ i:Type}{g:σ->f->Except i σ}{g':τ->f->Except i τ}{I:σ->τ->Prop}{H}(b:∀c C x c',I c C->g c x=.ok c'->∃a,g' C x=.ok a/\I c' a/\H):∀(cs) {c} {C} {c'},I c C->cs.foldlM g c=.ok c'->∃a,cs.foldlM g' C=.ok a/\I c' a/\(cs=[]->a=C)/\(cs≠[]->H):=by intro cs;induction cs with|nil=>intro c C c' hi h;cases h;exact⟨C,rfl,hi,λ_=>rfl,λh=>absurd rfl h⟩|cons x cs j=>intro c C c' hi h;simp only[List.foldlM_cons]at h⊢;cases d:g c x with|error e=>rw[d]at h;cases h|ok o=>obtain⟨p,e1,k,l⟩:=b _ _ _ _ hi d;rw[d]at h;obtain⟨a,m,n,_,_⟩:=j k h;exact⟨a,by rw[e1];exact m,n,by simp,λ_=>l⟩
def yP{P fs}(m:∀r R,π r R->∃o O,w.heap[r]? =some o/\W.heap[R]? =some O/\fG S π o O) {a A k K} (ha:aS π a A) (hk:aS π k K) (u) {v V} (hv:aA π v V) {w'} {t} (h:w.viewStore (ah P fs) a u k v false=.ok (w',t)):∃c e f C F c' d T,W.viewStore P A u K V false=.ok ({W with heap:=W.heap.setIfInBounds A.block (.cells d e F)},T)/\w'={w with heap:=w.heap.setIfInBounds a.block (.cells c' e f)}/\w.heap[a.block]? =some (.cells c e f)/\W.heap[A.block]? =some (.cells C e F)/\VsR π c C/\VsR π c' d/\c'.size=c.size/\JI c'.size f F/\(T≠[]->¬(f.1=0/\c.size<f.2))/\(T=[]->d=C)/\∀X∈T,X.block=A.block:=by unfold World.viewStore at h⊢;rw[Gb]at h;simp only[show(ah P fs).depth=P.depth from rfl]at h;by_cases Q:(!tight P P.depth u)=true;rw[Ud Q]at h;cases h;rw[Uc Q]at h⊢;cases B:w.seen (ah P fs) a u k false with|error _=>rw[B]at h;cases h|ok x=>obtain⟨c,e,f,b,l,cs,C,F,rfl,g,j,D,U,Y⟩:=Dh m ha hk u B;rw[B]at h;rw[g];dsimp only[bind,Except.bind,pure,Except.pure]at h⊢;cases q:v.bytes? with|none=>rw[q]at h;cases h|some bytes=>rw[hv.bytes q,q];rw[q]at h;dsimp only at h⊢;by_cases Z:some bytes.length≠Option.map (λx=>x.length) l.bytes?;rw[Ud Z]at h;cases h;rw[Uc Z]at h⊢;split at h;cases h;rename_i c' E;generalize J:(List.foldlM _ C cs:Except String (Array Value))=X;(suffices key:∃d,X=.ok d/\(VsR π c' d/\c'.size=c.size)/\(cs=[]->d=C)/\(cs≠[]->¬(f.1=0/\c.size<f.2)) by obtain⟨d,k1,⟨k2,k3⟩,k4,k5⟩:=key;cases h;refine⟨c,e,f,C,F,c',d,cs.map λx=>{block:=A.block,off:=x.1},by rw[k1],rfl,j,D,U,k2,k3,k3▸Y,λL=>k5 (λh0=>L (by rw[h0];rfl)),λL=>k4 (List.map_eq_nil_iff.1 L),λX J=>by obtain⟨x,_,rfl⟩:=VA.1 J;rfl⟩);rw[<-J];refine Gc (I:=λy M=>VsR π y M/\y.size=c.size) (H:=¬(f.1=0/\c.size<f.2)) ?_ cs ⟨U,rfl⟩ E;rintro y M ⟨i,s,bs⟩ c2 ⟨n,N⟩ h;dsimp only at h⊢;by_cases h1:(decide (s<b)||decide (s+bs.length>b+bytes.length))=true;rw[Ud h1]at h;cases h;rw[Uc h1]at h⊢;by_cases g:(decide (f.1<=i)&&decide (i<f.2))=true;rw[Ud g]at h;cases h;have p:=n.get i;cases j:y[i]? with|none=>rw[Uc g,j]at h;cases h|some old=>(rw[j]at p;have hi:=(Uk.1 j).1;have D:¬(decide (F.1<=i)&&decide (i<F.2))=true:=by obtain rfl|⟨g1,g2,g3⟩:=Y;exact g;simp only[Un,Uu]at g;omega);rw[Uc g,j]at h;rw[Uc D];cases hC:M[i]? with|none=>rw[hC]at p;cases p|some aa=>rw[hC]at p;cases p with|some hr=>dsimp only at h⊢;cases z:old.ofBytes ((bytes.drop (s-b)).take bs.length)with|none=>rw[z]at h;cases h|some new=>rw[z]at h;have⟨p1,p2⟩:=pN (π:=π) z;rw[p2 _ hr,z];dsimp only at h⊢;cases h;refine⟨_,rfl,⟨n.set i p1,by simpa using N⟩,?_⟩;simp only[Un,Uu]at g;omega
def tx(P w τ d a k u v m):(av w τ d).viewStore P a u k v m=(w.viewStore P a u k v m).map λx=>(av x.1 τ d,x.2):=by unfold World.viewStore;rw[show(av w τ d).seen P a u k m=w.seen P a u k m from rfl];by_cases g:(!tight P P.depth u)=true;rw[Ud g,Ud g];rfl;rw[Uc g,Uc g];cases w.seen P a u k m with|error _=>rfl|ok x=>obtain⟨c,e,f,b,l,cs⟩:=x;dsimp only[bind,Except.bind,pure,Except.pure];cases v.bytes? with|none=>rfl|some bytes=>dsimp only;by_cases h:some bytes.length≠Option.map (λx=>x.length) l.bytes?;rw[Ud h,Ud h];rfl;rw[Uc h,Uc h];generalize (List.foldlM _ c cs:Except String (Array Value))=X;cases X<;>rfl
def gq(P w τ d a v m):(av w τ d).farStore P a v m=(w.farStore P a v m).map λx=>(av x.1 τ d,x.2):=by unfold World.farStore;rw[show(av w τ d).heap=w.heap from rfl,show(av w τ d).noCell a "store: no such cell" =w.noCell a "store: no such cell" from rfl];split;rw[tx];cases w.viewStore P _ _ a v m<;>rfl;rfl
end Go.Tm

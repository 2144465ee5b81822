import GoSem.Step
import Derived.RunT
import Derived.Laws.Sem
set_option linter.all false
set_option maxRecDepth 100000
set_option maxHeartbeats 20000000
theorem Go.ex{α:Sort _}(e:α):∃x,x=e:=⟨_,rfl⟩
abbrev Go.x6:=Go.World
abbrev Go.Zj:=Go.Value
abbrev Go.Zk:=ByteArray
abbrev Go.Zq:=Array Go.Value
abbrev Go.Zx:=Go.Goroutine
abbrev Go.Value.i(n:Int):Go.Value:=.int .i64 n
def Go.UG:=@if_neg
def Go.UH:=@if_pos
def Go.UI:=@Nat.le_refl
def Go.UJ:=@Nat.le_trans
def Go.UK:=@Nat.lt_or_ge
def Go.UL:=@Nat.lt_of_lt_of_le
def Go.UM:=@List.length_cons
def Go.UN:=@decide_eq_false
def Go.UO:=@Array.getElem?_eq_some_iff
def Go.UP:=@Nat.zero_le
def Go.UQ:=@decide_eq_true
def Go.UR:=@Nat.zero_add
def Go.US:=@List.getElem_mem
def Go.UT:=@Bool.and_eq_true
def Go.UU:=@Array.getElem?_setIfInBounds_ne
def Go.UW:=@if_true
def Go.UX:=@Nat.not_lt_zero
def Go.UY:=@List.length_drop
def Go.UZ:=@List.length_nil
def Go.U3:=@decide_eq_true_eq
def Go.U4:=@Ne.symm
def Go.U5:=@if_false
def Go.U6:=@List.length_append
def Go.U7:=@Bool.false_eq_true
def Go.U8:=@List.mem_cons
def Go.U9:=@List.size_toArray
def Go.Va:=@Array.getElem?_eq_getElem
def Go.Vb:=@List.getElem?_eq_getElem
def Go.Vd:=@Option.some.inj
def Go.Ve:=@beq_eq_false_iff_ne
def Go.Vf:=@List.not_mem_nil
def Go.Vg:=@Array.size_setIfInBounds
def Go.Vh:=@or_false
def Go.Vi:=@Option.map_eq_some_iff
def Go.Vj:=@congrArg
def Go.Vk:=@Array.getElem?_map
def Go.Vl:=@of_decide_eq_true
def Go.Vm:=@Array.getElem?_push_size
def Go.Vn:=@List.drop_eq_nil_of_le
def Go.Vo:=@List.length_map
def Go.Vp:=@List.all_eq_true
def Go.Vq:=@List.take_zero
def Go.Vr:=@Nat.eq_zero_or_pos
def Go.Vs:=@Nat.mul_one
def Go.Vt:=@List.getElem?_eq_some_iff
def Go.Vu:=@List.take_succ_cons
def Go.Vv:=@Option.map_some
def Go.Vw:=@Option.some.injEq
def Go.Vx:=@List.eq_nil_of_length_eq_zero
def Go.Vy:=@List.drop_zero
def Go.Vz:=@Array.getElem?_setIfInBounds
def Go.VA:=@beq_iff_eq
def Go.VB:=@List.drop_succ_cons
def Go.VC:=@List.mem_of_getElem?
def Go.VD:=@Array.getElem?_push
def Go.VE:=@List.flatMap_cons
def Go.VF:=@Array.getElem?_modify
def Go.VG:=@Array.getD_eq_getD_getElem?
def Go.VH:=@List.mem_toArray
def Go.VI:=@Array.mem_of_getElem?
def Go.VJ:=@Array.mem_append
def Go.VK:=@Nat.add_zero
def Go.VL:=@List.getElem?_map
def Go.VM:=@Array.getElem?_toList
def Go.VN:=@Nat.not_lt
def Go.VO:=@List.any_eq_true
def Go.VP:=@List.length_filter_le
def Go.VR:=@Nat.lt_succ_self
def Go.VT:=@List.length_take
def Go.VU:=@Array.append_assoc
def Go.VV:=@Classical.byContradiction
def Go.VX:=@List.mem_map
def Go.VY:=@Bool.eq_iff_iff
def Go.VZ:=@List.length_pos_iff
def Go.V5:=@List.append_assoc
def Go.V7:=@List.append_nil
def Go.V8:=@List.mem_iff_getElem?
def Go.V9:=@List.filter_cons
def Go.Wa:=@Array.empty_append
def Go.Wb:=@List.isPrefixOf_iff_prefix
def Go.Wc:=@Nat.succ_mul
def Go.Wd:=@List.mem_singleton
def Go.Wh:=@Nat.le_of_eq
def Go.Wi:=@Option.bind_eq_some_iff
def Go.Wj:=@List.getElem_of_mem
def Go.Wk:=@Array.getElem?_eq_none
def Go.Wl:=@Bool.or_eq_true
def Go.Wm:=@List.length_eq_zero_iff
def Go.Wn:=@List.mem_append
def Go.Wo:=@Array.forIn_toList
def Go.Wp:=@List.nil_append
def Go.Wq:=@Array.size_map
def Go.Wr:=@Nat.zero_mul
def Go.Ws:=@List.contains_iff_mem
def Go.Wt:=@List.mem_iff_getElem
def Go.Wu:=@List.getElem?_append_left
def Go.Wv:=@Nat.add_assoc
def Go.Ww:=@ByteArray.size_extract
def Go.Wx:=@Bool.not_true
def Go.Wy:=@Eq.comm
def Go.Wz:=@dif_pos
def Go.WA:=@List.getElem_map
def Go.WB:=@Option.getD_some
def Go.WC:=@Iff.rfl
def Go.WE:=@List.set_cons_succ
def Go.WG:=@ne_of_beq_false
def Go.WH:=@Bool.and_false
def Go.WI:=@List.length_set
def Go.WJ:=@Array.all_eq_true'
def Go.WK:=@List.any_eq_false
def Go.WL:=@List.take_succ_eq_append_getElem
def Go.WM:=@List.take_length
def Go.WN:=@List.map_append
def Go.WO:=@bne_iff_ne
def Go.WQ:=@Int.le_refl
def Go.WR:=@Option.bind_some
def Go.WS:=@Array.mem_push_of_mem
def Go.WT:=@Array.getElem?_append
def Go.WU:=@List.filter_append
def Go.WV:=@List.take_of_length_le
def Go.WW:=@List.drop_eq_getElem_cons
def Go.WX:=@List.mem_filter
def Go.WY:=@Nat.succ_pos
def Go.W4:=@Array.append_singleton
def Go.W5:=@List.flatMap_append
def Go.W6:=@Nat.add_comm
def Go.W7:=@List.getElem_cons_zero
def Go.W8:=@List.mem_flatMap
def Go.W9:=@List.all_cons
def Go.Xa:=@List.mem_append_left
def Go.Xb:=@Array.mem_push
def Go.Xc:=@List.cons.injEq
def Go.Xd:=@Nat.add_mul
def Go.Xe:=@Nat.le_of_lt
def Go.Xf:=@List.setIfInBounds_toArray
def Go.Xg:=@Prod.mk.inj
def Go.Xh:=@List.set_cons_zero
def Go.Xi:=@Int.tmod_nonneg
def Go.Xj:=@Int.tmod_lt_of_pos
def Go.Xk:=@List.getElem?_toArray
def Go.Xl:=@Array.ext
def Go.Xm:=@Array.getElem_mem
def Go.Xn:=@Bool.false_ne_true
def Go.Xo:=@List.drop_drop
def Go.Xp:=@Bool.true_and
def Go.Xq:=@List.range_succ
def Go.Xr:=@Array.foldl_toList
def Go.Xs:=@List.cons_append
def Go.Xt:=@List.getD_eq_getElem?_getD
def Go.Xu:=@Bool.false_or
def Go.Xv:=@List.mem_range
def Go.Xw:=@Nat.exists_eq_add_of_le
def Go.Xx:=@true_and
def Go.Xy:=@Nat.not_le
def Go.Xz:=@List.getElem?_set
def Go.XB:=@Array.mem_iff_getElem?
def Go.XC:=@Nat.lt_succ_of_lt
def Go.XD:=@Option.ne_none_iff_exists'
def Go.XE:=@Array.ext'
def Go.XF:=@List.map_id
def Go.XG:=@UInt8.toNat_inj
def Go.XH:=@Bool.eq_false_iff
def Go.XI:=@List.length_reverse
def Go.XJ:=@List.foldl_append
def Go.XK:=@Decidable.byContradiction
def Go.XL:=@List.getElem?_drop
def Go.XM:=@List.mem_cons_of_mem
def Go.XN:=@List.getElem?_append_right
def Go.XO:=@Array.mem_map
def Go.XP:=@Array.append_empty
def Go.XQ:=@Nat.mul_le_mul_right
def Go.XR:=@of_decide_eq_false
def Go.XT:=@Bool.not_false
def Go.XU:=@Array.getElem?_setIfInBounds_self_of_lt
def Go.XV:=@List.length_range
def Go.XW:=@List.foldl_cons
def Go.XX:=@Prod.mk.injEq
def Go.XY:=@Bool.false_and
def Go.XZ:=@getElem!_pos
def Go.X0:=@Array.mem_toList_iff
def Go.X3:=@List.mem_take_iff_getElem
def Go.X4:=@Nat.lt_irrefl
def Go.X6:=@Array.toList_modify
def Go.X7:=@Int.le_trans
def Go.X9:=@Nat.lt_trichotomy
def Go.Ya:=@Array.getElem?_extract
def Go.Yb:=@Array.getElem_toList
def Go.Yc:=@List.findIdx?_eq_none_iff
def Go.Yd:=@List.ne_nil_of_mem
def Go.Ye:=@List.mem_cons_self
def Go.Yf:=@Array.getElem?_replicate
def Go.Yg:=@Nat.pos_of_ne_zero
def Go.Yh:=@List.forIn_cons
def Go.Yi:=@Std.Legacy.Range.forIn_eq_forIn_range'
def Go.Yj:=@Int.toNat_natCast
def Go.Yk:=@Array.replicate_succ
def Go.Yl:=@List.map_cons
def Go.Ym:=@List.ext_getElem
def Go.Yn:=@Bool.or_assoc
def Go.Yo:=@Array.toList_push
def Go.Yp:=@List.mem_append_right
def Go.Yq:=@Nat.le_add_right
def Go.Yr:=@List.getElem_range
def Go.Ys:=@List.pairwise_cons
def Go.Yt:=@Array.all_append
def Go.Yu:=@Array.mem_append_left
def Go.Yv:=@Array.mk.injEq
def Go.Yw:=@List.mem_flatten
def Go.Yx:=@List.eq_of_mem_replicate
def Go.Yy:=@Option.any_some
def Go.Yz:=@List.getElem?_take
def Go.YA:=@List.take_add_one
def Go.YB:=@Int.tdiv_eq_ediv_of_nonneg
def Go.YC:=@List.mem_filterMap
def Go.YD:=@List.length_filterMap_le
def Go.YE:=@List.findIdx?_eq_some_iff_getElem
def Go.YF:=@Nat.add_sub_cancel_left
def Go.YG:=@List.getElem?_cons_zero
def Go.YH:=@Array.toList_setIfInBounds
def Go.YI:=@List.getLast?_cons_cons
def Go.YJ:=@Option.isSome_iff_exists
def Go.YK:=@List.append_cancel_left_eq
def Go.YL:=@Nat.mod_two_eq_zero_or_one
def Go.YM:=@List.perm_ext_iff_of_nodup
def Go.YN:=@Array.mem_or_eq_of_mem_setIfInBounds
def Go.YO:=@List.pairwise_iff_getElem
def Go.YP:=@Array.eq_empty_of_size_eq_zero
def Go.YQ:=@List.mem_or_eq_of_mem_set
namespace Go.Tm
structure Ren(G:Nat) where
 rel:Nat->Nat->Prop
 fn:∀r R R',rel r R->rel r R'->R=R'
 inj:∀r r' R,rel r R->rel r' R->r=r'
 dF:∀r R,rel r R->(r<G↔R<G)
instance{G:Nat}:CoeFun (Ren G) (λ_=>Nat->Nat->Prop):=⟨Ren.rel⟩
variable {G:Nat}
def Ren.le(π a:Ren G):Prop:=∀r s,π r s->a r s
def Ren.le_refl(π:Ren G):Ren.le π π:=λ_ _ h=>h
def Ren.le_trans{a b c:Ren G}(h:Ren.le a b)(d:Ren.le b c):Ren.le a c:=λ_ _ x=>d _ _ (h _ _ x)
inductive aS(π:Ren G):Addr->Addr->Prop
 |mk {r s o:Nat} {p:Option Nat}:π r s->aS π ⟨r,o,p⟩ ⟨s,o,p⟩
def aS.mono{π b:Ren G}(l:Ren.le π b){a A}(h:aS π a A):aS b a A:=by cases h with|mk h=>exact .mk (l _ _ h)
def kV:Nat:=74
inductive FnR(π:Ren G):Fn->Fn->Prop
 |func (f):f≠kV->FnR π (.func f) (.func f)
 |yield {l L:Nat}:π l L->FnR π (.yield l) (.yield L)
def FnR.mono{π b:Ren G}(l:Ren.le π b){a A}(h:FnR π a A):FnR b a A:=by cases h with|yield h=>exact .yield (l _ _ h)|func f h=>exact .func f h
def eA:Zj->Bool
 | .pointer (some _)| .slice (some _) _ _| .map (some _)| .chan (some _)| .iface _ _=>true
 | .func (.method _) _ _=>false
 | .func _ _ _=>true
 |_=>false
inductive aw(π:Ren G):Zj->Zj->Prop
 |bool (b):aw π (.bool b) (.bool b)
 |int (k n):aw π (.int k n) (.int k n)
 |float (k b):aw π (.float k b) (.float k b)
 |complex (k a b):aw π (.complex k a b) (.complex k a b)
 |string (s):aw π (.string s) (.string s)
 |JZ:aw π (.pointer none) (.pointer none)
 |ptr {a A:Addr}:aS π a A->aw π (.pointer (some a)) (.pointer (some A))
 |iT (l c):aw π (.slice none l c) (.slice none l c)
 |slice {a A:Addr} (l c):aS π a A->aw π (.slice (some a) l c) (.slice (some A) l c)
 |qZ (A:Addr):aw π (.slice (some ⟨0,0,some 0⟩) 0 0) (.slice (some A) 0 0)
 |Mv:aw π (.map none) (.map none)
 |map {r R:Nat}:π r R->aw π (.map (some r)) (.map (some R))
 |Sm:aw π (.chan none) (.chan none)
 |chan {r R:Nat}:π r R->aw π (.chan (some r)) (.chan (some R))
 |func {fn FN:Fn} {f F c C:Zq}:FnR π fn FN->f.size=F.size->(∀(i:Nat) x X,f[i]? =some x->F[i]? =some X->aw π x X)->c.size=C.size->(∀(i:Nat) x X,c[i]? =some x->C[i]? =some X->aw π x X)->aw π (.func fn f c) (.func FN F C)
 |nilFunc:aw π .nilFunc .nilFunc
 |iface (t) {v V:Zj}:aw π v V->aw π (.iface t v) (.iface t V)
 |nilIface:aw π .nilIface .nilIface
 |agg {c C:Zq}:c.size=C.size->(∀(i:Nat) x X,c[i]? =some x->C[i]? =some X->aw π x X)->aw π (.agg c) (.agg C)
 |tuple {c C:Zq}:c.size=C.size->(∀(i:Nat) x X,c[i]? =some x->C[i]? =some X->aw π x X)->aw π (.tuple c) (.tuple C)
 |mR (V):eA V=true->aw π (.tuple #[]) V
 |J0 (n f c):aw π (.func (.method "") #[.nilIface] #[]) (.func (.method n) f c)
def aw.mono{π d:Ren G}(l:Ren.le π d){v V}(h:aw π v V):aw d v V:=by induction h with|ptr h=>exact .ptr (h.mono l)|slice a b h=>exact .slice a b (h.mono l)|map h=>exact .map (l _ _ h)|chan h=>exact .chan (l _ _ h)|func g i _ j _ k m=>exact .func (g.mono l) i k j m|iface t _ e=>exact .iface t e|agg s _ e=>exact .agg s e|tuple s _ e=>exact .tuple s e|mR V a=>exact .mR V a|J0 n f c=>exact .J0 n f c|qZ A=>exact .qZ A|_=>constructor
def aY{c d:Type}(R:c->d->Prop)(a:Array c)(b:Array d):Prop:=a.size=b.size/\∀(i:Nat) x y,a[i]? =some x->b[i]? =some y->R x y
def aY.mono{c d}{R R':c->d->Prop}{a b}(e:∀x y,R x y->R' x y)(h:aY R a b):aY R' a b:=⟨h.1,λi x y f g=>e _ _ (h.2 i x y f g)⟩
abbrev VsR(π:Ren G):Zq->Zq->Prop:=aY (aw π)
def aw.Gy{π:Ren G}{c C}(h:VsR π c C):aw π (.agg c) (.agg C):=.agg h.1 h.2
def aw.tuple'{π:Ren G}{c C}(h:VsR π c C):aw π (.tuple c) (.tuple C):=.tuple h.1 h.2
inductive bp{α β:Type}(R:α->β->Prop):List α->List β->Prop
 |nil:bp R [] []
 |cons {x y l m}:R x y->bp R l m->bp R (x::l) (y::m)
def bp.mono{c d}{R R':c->d->Prop}(e:∀x y,R x y->R' x y){a b}(h:bp R a b):bp R' a b:=by induction h with|nil=>exact .nil|cons h _ f=>exact .cons (e _ _ h) f
inductive dP{α β:Type}(R:α->β->Prop):Option α->Option β->Prop
 |none:dP R none none
 |some {x y}:R x y->dP R (some x) (some y)
def dP.mono{c d}{R R':c->d->Prop}(e:∀x y,R x y->R' x y){a b}(h:dP R a b):dP R' a b:=by cases h with|none=>exact .none|some h=>exact .some (e _ _ h)
def bp.length{c d R}{a:List c}{b:List d}(h:bp R a b):a.length=b.length:=by induction h with|nil=>rfl|cons _ _ e=>simp[e]
def bp.append{e f R}{a c:List e}{b d:List f}(h:bp R a b)(g:bp R c d):bp R (a++c) (b++d):=by induction h with|nil=>exact g|cons x _ i=>exact .cons x i
def aY.get{d e R}{a:Array d}{b:Array e}(h:aY R a b)(i:Nat):dP R a[i]? b[i]? :=by obtain hi|hi:=UK i a.size;have c:=h.1▸hi;rw[Va hi,Va c];exact .some (h.2 i _ _ (Va hi) (Va c));have c:b.size<=i:=h.1▸hi;rw[Wk hi,Wk c];exact .none
def aY.mj{c d R}{a:Array c}{b:Array d}(h:∀i:Nat,dP R a[i]? b[i]?):aY R a b:=by refine⟨?_,λi x y e f=>?_⟩;obtain h1|h1|h1:=X9 a.size b.size;have:=h a.size;rw[Wk (UI _),Va h1]at this;cases this;exact h1;have:=h b.size;rw[Wk (UI _),Va h1]at this;cases this;have:=h i;rw[e,f]at this;cases this with|some r=>exact r
def aY.toList{e f R}{a:Array e}{b:Array f}(h:aY R a b):bp R a.toList b.toList:=by
 obtain⟨a⟩:=a;obtain⟨b⟩:=b;simp only[aY,U9,Xk]at h⊢;obtain⟨c,d⟩:=h;induction a generalizing b with
 |nil=>cases b with|nil=>exact .nil|cons _ _=>simp at c
 |cons x a g=>cases b with|nil=>simp at c|cons y b=>exact .cons (d 0 x y rfl rfl) (g b (by simpa using c) λi u v j k=>d (i+1) u v (by simpa using j) (by simpa using k))
def bp.get{c d R}{a:List c}{b:List d}(h:bp R a b)(i:Nat):dP R a[i]? b[i]? :=by
 induction h generalizing i with
 |nil=>simpa using dP.none
 |cons x _ e=>cases i with
  |zero=>simpa using dP.some x
  |succ i=>simpa using e i
def bp.toArray{c d R}{a:List c}{b:List d}(h:bp R a b):aY R a.toArray b.toArray:=aY.mj λi=>by simpa using h.get i
def aY.push{c d R a b}(h:aY R a b){x:c}{y:d}(r:R x y):aY R (a.push x) (b.push y):=aY.mj λi=>by rw[VD,VD,h.1];split;exact .some r;exact h.get i
def aY.append{e f R}{a c:Array e}{b d:Array f}(h:aY R a b)(g:aY R c d):aY R (a++c) (b++d):=aY.mj λi=>by rw[WT,WT,h.1];split;exact h.get i;exact g.get _
def aY.set{c d R a b}(h:aY R a b)(i){x:c}{y:d}(r:R x y):aY R (a.setIfInBounds i x) (b.setIfInBounds i y):=aY.mj λj=>by rw[Vz,Vz,h.1];split;split;exact .some r;exact .none;exact h.get j
def aY.extract{c d R}{a:Array c}{b:Array d}(h:aY R a b)(i j):aY R (a.extract i j) (b.extract i j):=aY.mj λk=>by rw[Ya,Ya,h.1];split;exact h.get _;exact .none
def aY.empty{a b R}:aY R (#[]:Array a) (#[]:Array b):=⟨rfl,λi x y h=>by simp at h⟩
def aY.map{j k d e R}{S:d->e->Prop}{a b}(h:aY R a b){f:j->d}{g:k->e}(l:∀x y,R x y->S (f x) (g y)):aY S (a.map f) (b.map g):=aY.mj λi=>by rw[Vk,Vk];have c:=h.get i;revert c;generalize a[i]? =u;generalize b[i]? =v;intro c;cases c with|none=>exact .none|some r=>exact .some (l _ _ r)
def aY.refl{b}{R:b->b->Prop}{a}(h:∀x,x∈a->R x x):aY R a a:=⟨rfl,λi x y c d=>by rw[c]at d;cases d;exact h x (VI c)⟩
end Go.Tm
namespace Go.Tm
variable {G:Nat}
structure iU(π:Ren G)(e E:MapEntry):Prop where
 key:aw π e.key E.key
 val:aw π e.val E.val
 born:e.born=E.born
inductive qp(π:Ren G):Deferred->Deferred->Prop
 |mk {r R:Nat}:π r R->qp π ⟨.collected r,#[]⟩ ⟨.collected R,#[]⟩
def gp:Zj->Bool
 | .bool _| .int .. | .float .. | .complex .. | .string _| .pointer none| .slice none _ _| .map none| .chan none| .nilFunc| .nilIface=>true
 | .tuple c=>c.isEmpty
 |_=>false
def Jo:Question->Bool
 | .order _ _=>true
 |_=>false
def Mw{q}(h:Jo q=false)(f id):q≠ .order f id:=λe=>by rw[e]at h;cases h
structure Kn where
 dF:Nat->Bool
 ent:Nat->Bool
 stop:Nat->Bool
 own:Nat->Bool
def Kn.free(S:Kn)(q:Question):Prop:=∀f a,q=.order f a->S.own f=false
def Kn.gq(S:Kn)(g:Question->Nat):Prop:=∀f a,S.own f=true->g (.order f a)=0
def Kn.calm(S:Kn)(g:Question->Nat):Prop:=∀f a,S.ent f=true->S.own f=true->g (.order f a)=0
noncomputable def only(q:Question)(n:Nat):Question->Nat:=open Classical in λa=>if a=q then n else 0
def tG(q n):only q n q=n:=UH rfl
def zX{S:Kn}{q}(h:S.free q)(n):S.gq (only q n):=λf b a=>by unfold only;refine UG λe=>?_;rw[h f b e.symm]at a;cases a
def Gz{S:Kn}{f:FuncId}(h:S.ent f=true){g}(c:S.calm g)(a):S.gq (only (.order f a) (g (.order f a))):=λd b i=>by unfold only;by_cases e:Question.order d b=.order f a;rw[UH e];cases e;exact c f a h i;exact UG e
def mS{S:Kn}:S.gq (λ_=>0):=λ_ _ _=>rfl
def cE(S:Kn):Operand->Bool
 | .tmp _=>true
 | .func f=>f !=kV
 | .const v=>gp v
 | .global g=>S.dF g
def pO:Builtin->Bool
 | .append| .cap| .copy| .len| .max| .min| .unsafeString| .panic=>true
 |_=>false
def kW(S:Kn):Op->Bool
 | .call ⟨.value (.func f),args,_⟩=>f==kV&&args.size==1&&args.all (cE S)
 |_=>false
def BM(S:Kn)(o:Op):Bool:=
 kW S o||(match o with
 | .move _| .assign _| .pick .. | .alloc _| .box .. | .build .. | .buildSlice .. | .insert .. | .load .. | .store .. | .nilCheck _| .binOp .. | .unOp .. | .makeInterface .. | .makeMap .. | .makeSlice .. | .slice ..
 | .fieldAddr .. | .field .. | .indexAddr .. | .index .. | .lookup .. | .mapUpdate .. | .mapEntry .. | .entryStore .. | .range .. | .next .. | .entry _| .extract .. | .panic _=>true
 | .makeFunc (.func f) _ _=>f !=kV
 | .convert s d _=>s !=d
 | .call ⟨.value _,_,_⟩=>true
 | .call ⟨.builtin b,_,_⟩=>pO b
 |_=>false)&&o.operands.all (cE S)
def codeOk(S:Kn):Code->Bool
 | .skip| .exit _| .label _| .goto _| .ret| .refuse _=>true
 | .region _ ops _=>ops.all λo=>BM S o.op
 | .seq a b=>codeOk S a&&codeOk S b
 | .cond c a b=>cE S c&&codeOk S a&&codeOk S b
 | .block _ b| .loop b| .scope b=>codeOk S b
 | .rangeFunc f _ a b=>cE S f&&codeOk S a&&codeOk S b
def Kn.code(S:Kn)(c:Code):Prop:=codeOk S c=true
def ra:TypeId:=1000000
def Sn:Op->Bool
 | .call ⟨.builtin .unsafeSliceData,_,_⟩=>true
 |_=>false
def opD(S:Kn)(o:Op):Bool:=BM S o||(match o with
 | .call ⟨.builtin .unsafeSliceData,args,_⟩=>args.all (cE S)
 |_=>false)
def cP(o:Oper):Oper:=if Sn o.op then{o with type:=ra}else o
def ia:Code->Code
 | .region e ops d=>.region e (ops.map cP) d
 | .seq a b=>.seq (ia a) (ia b)
 |c=>c
def iW(S:Kn):Code->Bool
 | .region _ ops _=>ops.all λo=>opD S o.op
 | .seq a b=>iW S a&&iW S b
 |c=>codeOk S c
def DN{S:Kn}{o}(h:BM S o=true):Sn o=false:=by
 cases o with
 |call c=>
  obtain⟨k,a,t⟩:=c;cases k with
  |builtin b=>cases b<;>first|rfl|(simp[BM,kW,pO]at h;done)
  |_=>rfl
 |_=>rfl
theorem ic{S:Kn}:∀{c},codeOk S c=true->ia c=c/\iW S c=true
 | .region g ops d,h=>by
  simp only[codeOk]at h;rw[WJ]at h;refine⟨?_,?_⟩
  .show Code.region g (ops.map cP) d=_
   have e:ops.map cP=ops:=by refine Xl (by simp) λi q f=>?_;rw[Array.getElem_map];unfold cP;rw[UG];rw[DN (h _ (Xm f))];simp
   rw[e]
  .simp only[iW]
   rw[WJ];exactλo j=>by unfold opD;rw[h o j];rfl
 | .seq a b,h=>by simp only[codeOk,UT]at h;obtain⟨k,m⟩:=ic h.1;obtain⟨n,p⟩:=ic h.2;exact⟨by simp only[ia,k,n],by simp only[iW,m,p,Bool.and_self]⟩
 | .skip,h| .exit _,h| .label _,h| .goto _,h| .ret,h| .refuse _,h| .cond ..,h| .rangeFunc ..,h| .block ..,h| .loop _,h| .scope _,h=>⟨rfl,h⟩
structure DO(S:Kn)(π:Ren G)(l L:Loop):Prop where
 state:l.state=L.state
 pending:l.pending=L.pending
 Ub:∀c,l.pending=some c->S.code c
 fn:l.fn=L.fn
 ent:S.ent l.fn=true
 tmps:VsR π l.tmps L.tmps
 params:l.params=L.params
 assign:l.assign=L.assign
 Sp:S.code l.assign
 body:l.body=L.body
 Sq:S.code l.body
 defers:π l.defers L.defers
def J1(n:Nat)(f F:Nat×Nat):Prop:=F=f\/(f.1=0/\n<f.2/\F.2<=f.2)
def grow(f:Nat×Nat)(a n:Nat):Nat×Nat:=if f.1==f.2 then(a,a+n)else(min f.1 a,max f.2 (a+n))
def Fle(f F:Nat×Nat):Prop:=F=f\/(F.1<F.2/\(f.1=f.2\/(F.1<=f.1/\f.2<=F.2)))
def Fle.refl(f):Fle f f:=.inl rfl
def Fle.trans{a b c}(h:Fle a b)(e:Fle b c):Fle a c:=by obtain rfl|⟨f,h2⟩:=h;exact e;obtain rfl|⟨g,d⟩:=e;exact .inr ⟨f,h2⟩;refine .inr ⟨g,?_⟩;obtain h2|h2:=h2;exact .inl h2;rcases d with d|d<;>omega
def Fle.back{a b}(h:Fle a b)(c:Fle b a):b=a:=by obtain h|⟨d,e⟩:=h;exact h;obtain c|⟨f,g⟩:=c;exact c.symm;(have:b.1=a.1/\b.2=a.2:=by omega);exact Prod.ext this.1 this.2
def Mx(f a n)(b:n≠0):Fle f (grow f a n):=by unfold grow;by_cases h:f.1=f.2;rw[UH (by simpa using h)];exact .inr ⟨by simp;omega,.inl h⟩;rw[UG (by simpa using h)];exact .inr ⟨by simp;omega,.inr (by simp;omega)⟩
inductive fV(S:Kn)(π:Ren G):Obj->Obj->Prop
 |cells {c C:Zq} (e:TypeId) {f F:Nat×Nat}:VsR π c C->J1 c.size f F->fV S π (.cells c e f) (.cells C e F)
 |map {es ES:Array MapEntry} (n:Nat):aY (iU π) es ES->fV S π (.map es n) (.map ES n)
 |stringIter (s p):fV S π (.stringIter s p) (.stringIter s p)
 |fK (a b c):fV S π (.mapIter none a b c) (.mapIter none a b c)
 |mapIter {m M:Nat} (a b c):π m M->fV S π (.mapIter (some m) a b c) (.mapIter (some M) a b c)
 |loop {l L:Loop}:DO S π l L->fV S π (.loop l) (.loop L)
 |deferred:fV S π (.deferred (some [])) (.deferred (some []))
 |eQ:fV S π (.deferred none) (.deferred none)
 |number {a A:Addr} (l:Bool):aS π a A->fV S π (.number a l) (.number A l)
 |view {a A:Addr} (t:TypeId):aS π a A->fV S π (.view a t) (.view A t)
section mono
variable {S:Kn} {π π':Ren G} (l:Ren.le π π')
include l
def VsR.mono{c C:Zq}(h:VsR π c C):VsR π' c C:=aY.mono (λ_ _ x=>x.mono l) h
def iU.mono{e E:MapEntry}(h:iU π e E):iU π' e E:=⟨h.key.mono l,h.val.mono l,h.born⟩
def qp.mono{e E:Deferred}(h:qp π e E):qp π' e E:=by cases h with|mk a=>exact .mk (l _ _ a)
def DO.mono{e E:Loop}(h:DO S π e E):DO S π' e E:={h with tmps:=VsR.mono l h.tmps,defers:=l _ _ h.defers}
def fV.mono{o O:Obj}(h:fV S π o O):fV S π' o O:=by cases h with|cells e h f=>exact .cells e (VsR.mono l h) f|map n h=>exact .map n (aY.mono (λ_ _ x=>x.mono l) h)|stringIter=>exact .stringIter _ _|fK=>exact .fK _ _ _|mapIter a b c h=>exact .mapIter a b c (l _ _ h)|loop h=>exact .loop (h.mono l)|deferred=>exact .deferred|eQ=>exact .eQ|number b h=>exact .number b (h.mono l)|view t h=>exact .view t (h.mono l)
end mono
structure bt(S:Kn)(Pr:Nat->Prop)(π:Ren G)(w W:x6):Prop where
 obj:∀r R,π r R->∃o O,w.heap[r]? =some o/\W.heap[R]? =some O/\fV S π o O
 vJ:∀r R,π r R->Pr R->∃c e f,w.heap[r]? =some (.cells c e f)/\f.1=0/\c.size<f.2
 wY:∀R,Pr R->R<W.heap.size
 gw:G<=w.heap.size
 gW:G<=W.heap.size
 w0:∃c e f,w.heap[0]? =some (.cells c e f)
def au(w:x6)(τ:Nat->Question->Nat)(d:Nat):x6:={w with tape:=τ,drawn:=d}
def Fits(τ:Nat->Question->Nat)(d:Nat)(l:List (Question->Nat)):Prop:=∀i g,l[i]? =some g->τ (d+i)=g
def Fits.head{τ d g l}(h:Fits τ d (g::l)):τ d=g:=h 0 g rfl
def Fits.tail{τ d g l}(h:Fits τ d (g::l)):Fits τ (d+1) l:=λi g' a=>by have:=h (i+1) g' (by simpa using a);rw[show d+1+i=d+(i+1) by omega];exact this
def mm(d:Nat)(l:List (Question->Nat)):Nat->Question->Nat:=λn=>(l[n-d]?).getD λ_=>0
def lP(d l):Fits (mm d l) d l:=λi g h=>by unfold mm;rw[show d+i-d=i by omega,h];rfl
structure Chg(Pr:Nat->Prop)(π:Ren G)(W W':x6)(π':Ren G):Prop where
 os:W'.os=W.os
 tape:W'.tape=W.tape
 output:W'.output=W.output
 size:W.heap.size<=W'.heap.size
 keep:∀b,b<W.heap.size->(¬∃r,π r b)->W'.heap[b]? =W.heap[b]?
 oD:∀b,Pr b->∀c e F,W.heap[b]? =some (Obj.cells c e F)->∃F',W'.heap[b]? =some (Obj.cells c e F')
 fz:∀(b:Nat) c e F,W.heap[b]? =some (Obj.cells c e F)->∃c' F',W'.heap[b]? =some (Obj.cells c' e F')/\Fle F F'
 old:∀r R,π' r R->π r R\/W.heap.size<=R
 new:∀R,W.heap.size<=R->R<W'.heap.size->∃r,π' r R
 le:Ren.le π π'
def Chg.refl(Pr)(π:Ren G)(W):Chg Pr π W W π:=⟨rfl,rfl,rfl,UI _,λ_ _ _=>rfl,λ_ _ _ _ F h=>⟨F,h⟩,λ_ c _ F h=>⟨c,F,h,.refl _⟩,λ_ _ h=>.inl h,λ_ a b=>absurd b (VN.2 a),λ_ _ h=>h⟩
def Chg.trans{Pr}{π π' π'':Ren G}{W j g}(h:Chg Pr π W j π')(d:Chg Pr π' j g π''):Chg Pr π W g π'':=by refine⟨d.os.trans h.os,d.tape.trans h.tape,d.output.trans h.output,UJ h.size d.size,λb f q=>?_,λb f c e F k=>?_,λb c e F k=>?_,λr R i=>?_,λR a b=>?_,Ren.le_trans h.le d.le⟩;rw[d.keep b (UL f h.size) ?_,h.keep b f q];(exactλ⟨r,i⟩=>(h.old r b i).elim (λx=>q ⟨r,x⟩) λx=>absurd f (VN.2 x));obtain⟨m,n⟩:=h.oD b f c e F k;exact d.oD b f c e m n;obtain⟨c',m,n,s⟩:=h.fz b c e F k;obtain⟨o,p,t,u⟩:=d.fz b c' e m n;exact⟨o,p,t,s.trans u⟩;obtain x|x:=d.old r R i;exact h.old r R x;exact .inr (UJ h.size x);obtain x|x:=UK R j.heap.size;obtain⟨r,i⟩:=h.new R a x;exact⟨r,d.le _ _ i⟩;exact d.new R x b
def lO(Pr:Nat->Prop)(π:Ren G)(e:Event):Prop:=
 match e.loc with
 | .cell A=>e.sync=false/\(∃r,π r A.block)/\(e.write=true->¬Pr A.block)
 | .obj R=>e.sync=false/\(∃r,π r R)/\(e.write=true->¬Pr R)
 | .mark (.extern _)=>True
 | .mark .noRoom=>True
 |_=>False
def lO.mono{Pr}{π π':Ren G}(l:Ren.le π π'){e}(h:lO Pr π e):lO Pr π' e:=by unfold lO at*;split<;>simp_all;obtain⟨_,⟨r,a⟩,_⟩:=h;exact⟨r,l _ _ a⟩;obtain⟨_,⟨r,a⟩,_⟩:=h;exact⟨r,l _ _ a⟩
def gO:Halt->Prop
 | .panic _| .stuck _=>True
 | .unsupported (.initOrder _)=>False
 | .unsupported _=>True
 |_=>False
def oE(w w':x6):Prop:=∀(r:Nat) (o:Obj),w.heap[r]? =some o->w'.heap[r]? =some o
def oE.refl(w):oE w w:=λ_ _ h=>h
def oE.trans{a b c}(h:oE a b)(d:oE b c):oE a c:=λr o x=>d r o (h r o x)
def cQ{c}(s:Sem c):Prop:=∀(P:Program) (w:x6) (es:Array Event),(∃a w' b,s.runT P w es=(.ok a w',b)/\oE w w')\/∃h w' b,s.runT P w es=(.halt h w',b)/\gO h/\oE w w'
def dT{b}(s:Sem b):Prop:=∀(P:Program) (w:x6) (es:Array Event),∃h w' a,s.runT P w es=(.halt h w',a)/\gO h/\oE w w'
def dT.halt{a:Type}(h:Halt)(b:gO h:=by exact True.intro):dT (Sem.halt h:Sem a):=λ_ w es=>⟨h,w,es,rfl,b,.refl _⟩
def runT_bind'{e g}(P)(f:e->Sem g)(s:Sem e):∀(w) (es),(∃a w' d,s.runT P w es=(.ok a w',d)/\(s.bind f).runT P w es=(f a).runT P w' d)\/(∃h w' d,s.runT P w es=(.halt h w',d)/\(s.bind f).runT P w es=(.halt h w',d)):=by
 induction s with
 |pure a=>exactλw es=>.inl ⟨a,w,es,rfl,rfl⟩
 |load m a k b=>intro w es;simp only[Sem.bind,Sem.runT];cases w.cell? a with|some v=>exact b v w _|none=>simp only[];cases w.farLoad P a (m== .atomic)with|ok r=>exact b r.1 w _|error h=>exact .inr ⟨h,w,es,rfl,rfl⟩
 |store m a v k b=>intro w es;cases v with|agg=>exact .inr ⟨_,w,es,rfl,rfl⟩|tuple=>exact .inr ⟨_,w,es,rfl,rfl⟩|_=>simp only[Sem.bind,Sem.runT];cases w.cell? a with|some v=>simp only[];split;exact .inr ⟨_,w,es,rfl,rfl⟩;exact b _ _|none=>simp only[];split;exact b _ _;exact .inr ⟨_,w,es,rfl,rfl⟩
 |new o k b=>exactλw es=>b _ _ _
 |shape r k b=>exactλw es=>b _ _ _
 |freeze a n k b=>exactλw es=>b _ _
 |frozen a k b=>exactλw es=>b _ _ _
 |getObj r k b=>intro w es;simp only[Sem.bind,Sem.runT];split;exact .inr ⟨_,w,es,rfl,rfl⟩;exact b _ _ _;exact .inr ⟨_,w,es,rfl,rfl⟩
 |setObj r o k b=>intro w es;simp only[Sem.bind,Sem.runT];split;exact .inr ⟨_,w,es,rfl,rfl⟩;exact b _ _;exact .inr ⟨_,w,es,rfl,rfl⟩
 |choose q k b=>intro w es;simp only[Sem.bind,Sem.runT];split;exact b _ _ _;exact b _ _ _
 |sys c k b=>exactλw es=>b _ _ _
 |program k b=>exactλw es=>b _ _ _
 |mark m k b=>exactλw es=>b _ _
 |halt h=>exactλw es=>.inr ⟨h,w,es,rfl,rfl⟩
def eR{p q}(s)(f:p->Sem q)(c:dT s\/(cQ s/\∀a,dT (f a))):dT (s>>= f):=by show dT (s.bind f);intro P w es;obtain⟨a,w1,e,d,m⟩|⟨h,w1,e,d,m⟩:=runT_bind' P f s w es;rw[m];obtain c|⟨n,c⟩:=c;obtain⟨h,w2,b,g,_⟩:=c P w es;rw[d]at g;simp at g;obtain⟨h,w3,o,r,i,j⟩:=c a P w1 e;obtain⟨t,w2,b,g,k⟩|⟨h,w2,b,g,_⟩:=n P w es;rw[d]at g;cases g;exact⟨h,w3,o,r,i,k.trans j⟩;rw[d]at g;simp at g;rw[m];obtain c|⟨n,c⟩:=c;obtain⟨u,w2,b,g,i,j⟩:=c P w es;rw[d]at g;cases g;exact⟨_,_,_,rfl,i,j⟩;obtain⟨t,w2,b,g,k⟩|⟨u,w2,b,g,i,j⟩:=n P w es;rw[d]at g;simp at g;rw[d]at g;cases g;exact⟨_,_,_,rfl,i,j⟩
def dT.Sr{a}{s:Sem a}(h:dT s):cQ s:=λP w es=>.inr (h P w es)
def cQ.bind{q r s}{f:q->Sem r}(h:cQ s)(t:∀a,cQ (f a)):cQ (s>>= f):=by show cQ (s.bind f);intro P w es;obtain⟨a,w1,e,i,m⟩|⟨v,w1,e,i,m⟩:=runT_bind' P f s w es;rw[m];obtain⟨u,w2,c,g,k⟩|⟨n,w2,c,g,_⟩:=h P w es;rw[i]at g;cases g;obtain⟨b,w3,d,o,j⟩|⟨n,w3,d,o,j,p⟩:=t a P w1 e;exact .inl ⟨b,w3,d,o,k.trans j⟩;exact .inr ⟨n,w3,d,o,j,k.trans p⟩;rw[i]at g;simp at g;rw[m];obtain⟨u,w2,c,g,k⟩|⟨n,w2,c,g,j,p⟩:=h P w es;rw[i]at g;simp at g;rw[i]at g;cases g;exact .inr ⟨_,_,_,rfl,j,p⟩
def cQ.pure{b}(a):cQ (Pure.pure a:Sem b):=λ_ w es=>.inl ⟨a,w,es,rfl,.refl _⟩
def cQ.ite{a c}[Decidable c]{s t:Sem a}(h:cQ s)(b:cQ t):cQ (if c then s else t):=by split<;>assumption
def cQ.stuck{a}(m):cQ (Go.stuck m:Sem a):=(dT.halt _).Sr
def cQ.unsupported{a:Type}(u:Unsupported)(h:gO (.unsupported u):=by exact True.intro):cQ (Go.unsupported u:Sem a):=(dT.halt _ h).Sr
def cQ.program:cQ Go.program:=λP w es=>.inl ⟨P,w,es,rfl,.refl _⟩
def cQ.choose(q):cQ (Go.choose q):=by intro P w es;by_cases h:q.forced=true;exact .inl ⟨0,w,es,by simp[Go.choose,Sem.runT,h],.refl _⟩;exact .inl ⟨_,{w with drawn:=w.drawn+1},es,by simp[Go.choose,Sem.runT,h];rfl,λ_ _ h=>h⟩
def cQ.shape(r):cQ (Go.shape r):=λ_ w es=>.inl ⟨_,w,es,rfl,.refl _⟩
def cQ.frozen(a):cQ (Go.frozen a):=λ_ w es=>.inl ⟨_,w,es,rfl,.refl _⟩
def cQ.mark(m):cQ (Go.mark m):=λ_ w _=>.inl ⟨_,w,_,rfl,.refl _⟩
def cQ.newObj(o):cQ (Go.newObj o):=λ_ w es=>.inl ⟨_,_,es,rfl,λr x h=>by have:=(UO.1 h).1;simp only[VD];rw[UG (by omega)];exact h⟩
def My{e}(a:Ask e):∀w:x6,(w.ask a).2.heap=w.heap:=by induction a with|done a=>exactλ_=>rfl|ask c b k d=>intro w;simp only[World.ask];split;exact d _ _;exact(d _ _).trans rfl
def Mz(w:x6)(c):(w.sys c).2.heap=w.heap:=by unfold World.sys;have:=My (Kernel.perform c w.os) w;split;rfl;rename_i h;rw[h]at this;exact this
def cQ.sys(c):cQ (Go.sys c):=λ_ w es=>.inl ⟨_,(w.sys c).2,_,rfl,λr x h=>by rw[Mz];exact h⟩
inductive SR(S:Kn)(PS P:Program){α β:Type}(Q:Ren G->α->β->Prop):Ren G->Sem α->Sem β->Prop
 |pure {π a b}:Q π a b->SR S PS P Q π (.pure a) (.pure b)
 |load {π a A k K}:aS π a A->(∀v V,aw π v V->SR S PS P Q π (k v) (K V))->SR S PS P Q π (.load .plain a k) (.load .plain A K)
 |store {π a A v V k K}:aS π a A->aw π v V->SR S PS P Q π k K->SR S PS P Q π (.store .plain a v k) (.store .plain A V K)
 |new {π o O k K}:fV S π o O->(∀π' r R,Ren.le π π'->π' r R->SR S PS P Q π' (k r) (K R))->SR S PS P Q π (.new o k) (.new O K)
 |shape {π r R k K}:π r R->(∀s,SR S PS P Q π (k s) (K s))->SR S PS P Q π (.shape r k) (.shape R K)
 |freeze {π a A n k K}:aS π a A->SR S PS P Q π k K->SR S PS P Q π (.freeze a n k) (.freeze A n K)
 |frozen {π a A k K}:aS π a A->(∀b B:Bool,(B=true->b=true)->SR S PS P Q π (k b) (K B))->SR S PS P Q π (.frozen a k) (.frozen A K)
 |getObj {π r R k K}:π r R->(∀o O,fV S π o O->SR S PS P Q π (k o) (K O))->SR S PS P Q π (.getObj r k) (.getObj R K)
 |setObj {π r R o O k K}:π r R->(∀c e f,o≠ .cells c e f)->fV S π o O->SR S PS P Q π k K->SR S PS P Q π (.setObj r o k) (.setObj R O K)
 |choose {π q k K}:S.free q->(∀n,SR S PS P Q π (k n) (K n))->SR S PS P Q π (.choose q k) (.choose q K)
 |program {π k K}:SR S PS P Q π (k PS) (K P)->SR S PS P Q π (.program k) (.program K)
 |kX {π k s'}:SR S PS P Q π (k PS) s'->SR S PS P Q π (.program k) s'
 |extern {π f k K}:SR S PS P Q π k K->SR S PS P Q π (.mark (.extern f) k) (.mark (.extern f) K)
 |noRoom {π k K}:SR S PS P Q π k K->SR S PS P Q π (.mark .noRoom k) (.mark .noRoom K)
 |nA {π q k s' n} (t:Nat):S.free q->(if q.forced then n=0 else q.cut t=n)->SR S PS P Q π (k n) s'->SR S PS P Q π (.choose q k) s'
 |tH {π s r K}:(∀x,SR S PS P Q π s (K x))->SR S PS P Q π s (.shape r K)
 |tI {π k s'}:(∀x,SR S PS P Q π (k (some x)) s')->SR S PS P Q π (.shape 0 k) s'
 |pP {π s a K}:(∀x,SR S PS P Q π s (K x))->SR S PS P Q π s (.frozen a K)
 |never {π s s'}:dT s->SR S PS P Q π s s'
def SR.bind{S i P k m p u R1 Q}{π:Ren G}{s s'}{f:k->Sem p}{F:m->Sem u} (h:SR S i P R1 π s s') (d:∀π',Ren.le π π'->∀a b,R1 π' a b->SR S i P Q π' (f a) (F b)):SR S i P Q π (s>>= f) (s'>>= F):=by show SR S i P Q π (s.bind f) (s'.bind F);induction h with|pure q=>exact d _ (Ren.le_refl _) _ _ q|load a _ c=>exact .load a λv V w=>c v V w d|store a v _ c=>exact .store a v (c d)|new o _ c=>exact .new o λπ' r R l x=>c π' r R l x λg y=>d g (Ren.le_trans l y)|shape r _ c=>exact .shape r λs=>c s d|freeze a _ c=>exact .freeze a (c d)|frozen a _ c=>exact .frozen a λb B x=>c b B x d|getObj r _ c=>exact .getObj r λo O x=>c o O x d|setObj r n o _ c=>exact .setObj r n o (c d)|choose j _ c=>exact .choose j λn=>c n d|program _ c=>exact .program (c d)|kX _ c=>exact .kX (c d)|extern _ c=>exact .extern (c d)|noRoom _ c=>exact .noRoom (c d)|nA t j e _ c=>exact .nA t j e (c d)|tH _ c=>exact .tH λx=>c x d|tI _ c=>exact .tI λx=>c x d|pP _ c=>exact .pP λx=>c x d|never n=>exact .never (eR _ _ (.inl n))
def SR.mono{S i P j k Q Q'}{π:Ren G}{s:Sem j}{s':Sem k} (h:SR S i P Q π s s') (d:∀π',Ren.le π π'->∀a b,Q π' a b->Q' π' a b):SR S i P Q' π s s':=by induction h with|pure q=>exact .pure (d _ (Ren.le_refl _) _ _ q)|load a _ c=>exact .load a λv V m=>c v V m d|store a v _ c=>exact .store a v (c d)|new o _ c=>exact .new o λπ' r R l x=>c π' r R l x λf p=>d f (Ren.le_trans l p)|shape r _ c=>exact .shape r λs=>c s d|freeze a _ c=>exact .freeze a (c d)|frozen a _ c=>exact .frozen a λb B x=>c b B x d|getObj r _ c=>exact .getObj r λo O x=>c o O x d|setObj r n o _ c=>exact .setObj r n o (c d)|choose g _ c=>exact .choose g λn=>c n d|program _ c=>exact .program (c d)|kX _ c=>exact .kX (c d)|extern _ c=>exact .extern (c d)|noRoom _ c=>exact .noRoom (c d)|nA t g e _ c=>exact .nA t g e (c d)|tH _ c=>exact .tH λx=>c x d|tI _ c=>exact .tI λx=>c x d|pP _ c=>exact .pP λx=>c x d|never n=>exact .never n
end Go.Tm
namespace Go.Tm
variable {G:Nat} {S:Kn} {Pr:Nat->Prop} {π:Ren G} {w W:x6}
def ah(P:Program)(fs:Array Func):Program:={P with funcs:=fs}
def J2(P fs t):(ah P fs).info? t=P.info? t:=rfl
def jX(P fs t):(ah P fs).underlying t=P.underlying t:=rfl
def gF(P fs):∀(d) (t) (off),byteOfCell (ah P fs) d t off=byteOfCell P d t off:=by intro d;induction d with|zero=>exactλ_ _=>rfl|succ d a=>intro t off;unfold byteOfCell;simp only[a];rfl
def tJ(P fs):∀(d) (t) (off),cellHolding (ah P fs) d t off=cellHolding P d t off:=by intro d;induction d with|zero=>exactλ_ _=>rfl|succ d a=>intro t off;unfold cellHolding;simp only[a];rfl
def wZ(P fs):∀(d) (t) (off),plainCell (ah P fs) d t off=plainCell P d t off:=by intro d;induction d with|zero=>exactλ_ _=>rfl|succ d a=>intro t off;unfold plainCell;simp only[a];rfl
def GA(P fs):∀(d) (t),tight (ah P fs) d t=tight P d t:=by intro d;induction d with|zero=>exactλ_=>rfl|succ d a=>intro t;unfold tight;simp only[a];rfl
def aw.bytes{v V}(h:aw π v V){bs}(a:v.bytes?=some bs):V=v:=by cases h<;>first|rfl|(simp[Value.bytes?]at a)
def qq{v x bs}(h:v.ofBytes bs=some x):aw π x x/\∀V,aw π v V->V=v:=by (cases v<;>simp only[Value.ofBytes]at h;case bool=>refine⟨?_,λV a=>by cases a;rfl⟩;split at h<;>first|(cases h;constructor)|cases h);(case int=>refine⟨?_,λV a=>by cases a;rfl⟩;split at h<;>first|(cases h;constructor)|cases h);(case float=>refine⟨?_,λV a=>by cases a;rfl⟩;split at h<;>first|(cases h;constructor)|cases h);(case complex=>refine⟨?_,λV a=>by cases a;rfl⟩;split at h<;>first|(cases h;constructor)|cases h);all_goals cases h
def za(P fs){c C}(n:VsR π c C)(e):∀(f x stop) (l),seenCells (ah P fs) c e f x stop=.ok l->seenCells P C e f x stop=.ok l:=by intro f;induction f with|zero=>intro x stop l h;simp[seenCells]at h|succ f o=>intro x stop l h;unfold seenCells at h⊢;simp only[show(ah P fs).depth=P.depth from rfl,show ∀t,(ah P fs).cellsOf t=P.cellsOf t fromλ_=>rfl,show ∀t,(ah P fs).bytesOf t=P.bytesOf t fromλ_=>rfl,tJ]at h;dsimp only at h⊢;split;rename_i d;rw[UH d]at h;exact h;rename_i d;rw[UG d]at h;split;rename_i g;rw[UH g]at h;cases h;rename_i g;rw[UG g]at h;split;rename_i j;rw[j]at h;cases h;rename_i i s j;rw[j]at h;simp only[]at h⊢;have k:=n.get i;revert k h;generalize c[i]? =u;generalize C[i]? =v;intro h k;cases k with|none=>cases h| @some v V r=>simp only[]at h⊢;cases a:v.bytes? with|none=>rw[a]at h;cases h|some bs=>rw[r.bytes a,a];rw[a]at h;cases bs with|nil=>cases h|cons b bs=>simp only[]at h⊢;cases m:seenCells (ah P fs) c e f (s+(b::bs).length) stop with|error _=>rw[m]at h;cases h|ok p=>rw[o _ _ _ m];rw[m]at h;exact h
def DT{P fs}(i:∀r R,π r R->∃o O,w.heap[r]? =some o/\W.heap[R]? =some O/\fV S π o O) {a A k K} (D:aS π a A) (E:aS π k K) (u) {x} (h:w.seen (ah P fs) a u k false=.ok x):∃c e f b l cs C F,x=(c,e,f,b,l,cs)/\W.seen P A u K false=.ok (C,e,F,b,l,cs)/\w.heap[a.block]? =some (.cells c e f)/\W.heap[A.block]? =some (.cells C e F)/\VsR π c C/\J1 c.size f F:=by
 cases D with
 | @mk r R o p H=>
 cases E with
 | @mk Q R' o' I J=>
 obtain⟨ob,T,m,L,M⟩:=i _ _ H;unfold World.seen at h⊢;simp only[m,wZ,gF,show(ah P fs).depth=P.depth from rfl,show ∀t,(ah P fs).cellsOf t=P.cellsOf t fromλ_=>rfl,show ∀t,(ah P fs).bytesOf t=P.bytesOf t fromλ_=>rfl]at h;simp only[L];by_cases g:(I.isSome||p.isSome)=true;rw[UH g]at h;cases h
 rw[UG g]at h⊢;cases n:plainCell P P.depth u o' with
 |none=>rw[n]at h;cases h
 |some d=>
 rw[n]at h;simp only[]at h⊢;cases q:Option.map (λx:List UInt8=>x.length) d.bytes? with
 |none=>rw[q]at h;cases h
 |some size=>
 rw[q]at h;simp only[]at h⊢;cases s:byteOfCell P P.depth u o' with
 |none=>rw[s]at h;cases h
 |some v=>
 rw[s]at h;simp only[]at h⊢;cases M with
 | @cells c C e f F y N=>simp only[]at h⊢;by_cases z:P.cellsOf e=0;rw[UH z]at h;cases h;rw[UG z]at h⊢;cases j:byteOfCell P P.depth e (o%P.cellsOf e)with|none=>rw[j]at h;cases h|some B=>rw[j]at h;simp only[]at h⊢;cases g:seenCells (ah P fs) c e (size+1) (o/P.cellsOf e*P.bytesOf e+B+v) (o/P.cellsOf e*P.bytesOf e+B+v+size)with|error _=>rw[g]at h;cases h|ok cs=>rw[za P fs y e _ _ _ _ g];rw[g]at h;cases h;exact⟨c,e,f,_,d,cs,C,F,rfl,rfl,m,rfl,y,N⟩
 |_=>cases h
def BN{P fs}(d:∀r R,π r R->∃o O,w.heap[r]? =some o/\W.heap[R]? =some O/\fV S π o O) {a A k K} (i:aS π a A) (j:aS π k K) (u) {v} {t} (h:w.viewLoad (ah P fs) a u k false=.ok (v,t)):∃T,W.viewLoad P A u K false=.ok (v,T)/\aw π v v/\∀X∈T,X.block=A.block:=by unfold World.viewLoad at h⊢;cases g:w.seen (ah P fs) a u k false with|error _=>rw[g]at h;cases h|ok x=>obtain⟨c,e,f,b,l,cs,C,F,rfl,m,_,_,_,_⟩:=DT d i j u g;rw[g]at h;rw[m];dsimp only[bind,Except.bind]at h⊢;split at h;rename_i q n;cases h;exact⟨_,rfl,(qq n).1,λX p=>by obtain⟨x,_,rfl⟩:=VX.1 p;rfl⟩;cases h
def GB{i σ τ j:Type}{g:σ->i->Except j σ}{g':τ->i->Except j τ}{I:σ->τ->Prop}{H}(b:∀c C x c',I c C->g c x=.ok c'->∃a,g' C x=.ok a/\I c' a/\H):∀(cs) {c} {C} {c'},I c C->cs.foldlM g c=.ok c'->∃a,cs.foldlM g' C=.ok a/\I c' a/\(cs=[]->a=C)/\(cs≠[]->H):=by intro cs;induction cs with|nil=>intro c C c' d h;cases h;exact⟨C,rfl,d,λ_=>rfl,λh=>absurd rfl h⟩|cons x cs k=>intro c C c' d h;simp only[List.foldlM_cons]at h⊢;cases f:g c x with|error e=>rw[f]at h;cases h|ok p=>obtain⟨q,e1,l,m⟩:=b _ _ _ _ d f;rw[f]at h;obtain⟨a,n,o,_,_⟩:=k l h;exact⟨a,by rw[e1];exact n,o,by simp,λ_=>m⟩
def zb{P fs}(m:∀r R,π r R->∃o O,w.heap[r]? =some o/\W.heap[R]? =some O/\fV S π o O) {a A k K} (ha:aS π a A) (hk:aS π k K) (u) {v V} (hv:aw π v V) {w'} {t} (h:w.viewStore (ah P fs) a u k v false=.ok (w',t)):∃c e f C F c' d T,W.viewStore P A u K V false=.ok ({W with heap:=W.heap.setIfInBounds A.block (.cells d e F)},T)/\w'={w with heap:=w.heap.setIfInBounds a.block (.cells c' e f)}/\w.heap[a.block]? =some (.cells c e f)/\W.heap[A.block]? =some (.cells C e F)/\VsR π c C/\VsR π c' d/\c'.size=c.size/\J1 c'.size f F/\(T≠[]->¬(f.1=0/\c.size<f.2))/\(T=[]->d=C)/\∀X∈T,X.block=A.block:=by unfold World.viewStore at h⊢;rw[GA]at h;simp only[show(ah P fs).depth=P.depth from rfl]at h;by_cases Q:(!tight P P.depth u)=true;rw[UH Q]at h;cases h;rw[UG Q]at h⊢;cases B:w.seen (ah P fs) a u k false with|error _=>rw[B]at h;cases h|ok x=>obtain⟨c,e,f,b,l,cs,C,F,rfl,g,j,D,U,Y⟩:=DT m ha hk u B;rw[B]at h;rw[g];dsimp only[bind,Except.bind,pure,Except.pure]at h⊢;cases q:v.bytes? with|none=>rw[q]at h;cases h|some bytes=>rw[hv.bytes q,q];rw[q]at h;dsimp only at h⊢;by_cases Z:some bytes.length≠Option.map (λx=>x.length) l.bytes?;rw[UH Z]at h;cases h;rw[UG Z]at h⊢;split at h;cases h;rename_i c' E;generalize J:(List.foldlM _ C cs:Except String (Zq))=X;(suffices key:∃d,X=.ok d/\(VsR π c' d/\c'.size=c.size)/\(cs=[]->d=C)/\(cs≠[]->¬(f.1=0/\c.size<f.2)) by obtain⟨d,k1,⟨k2,k3⟩,k4,k5⟩:=key;cases h;refine⟨c,e,f,C,F,c',d,cs.map λx=>{block:=A.block,off:=x.1},by rw[k1],rfl,j,D,U,k2,k3,k3▸Y,λL=>k5 (λh0=>L (by rw[h0];rfl)),λL=>k4 (List.map_eq_nil_iff.1 L),λX J=>by obtain⟨x,_,rfl⟩:=VX.1 J;rfl⟩);rw[<-J];refine GB (I:=λy M=>VsR π y M/\y.size=c.size) (H:=¬(f.1=0/\c.size<f.2)) ?_ cs ⟨U,rfl⟩ E;rintro y M ⟨i,s,bs⟩ c2 ⟨n,N⟩ h;dsimp only at h⊢;by_cases h1:(decide (s<b)||decide (s+bs.length>b+bytes.length))=true;rw[UH h1]at h;cases h;rw[UG h1]at h⊢;by_cases g:(decide (f.1<=i)&&decide (i<f.2))=true;rw[UH g]at h;cases h;have p:=n.get i;cases j:y[i]? with|none=>rw[UG g,j]at h;cases h|some old=>(rw[j]at p;have hi:=(UO.1 j).1;have D:¬(decide (F.1<=i)&&decide (i<F.2))=true:=by obtain rfl|⟨g1,g2,g3⟩:=Y;exact g;simp only[UT,U3]at g;omega);rw[UG g,j]at h;rw[UG D];cases hC:M[i]? with|none=>rw[hC]at p;cases p|some aa=>rw[hC]at p;cases p with|some hr=>dsimp only at h⊢;cases z:old.ofBytes ((bytes.drop (s-b)).take bs.length)with|none=>rw[z]at h;cases h|some new=>rw[z]at h;have⟨p1,p2⟩:=qq (π:=π) z;rw[p2 _ hr,z];dsimp only at h⊢;cases h;refine⟨_,rfl,⟨n.set i p1,by simpa using N⟩,?_⟩;simp only[UT,U3]at g;omega
def tK(P w τ d a k u v m):(au w τ d).viewStore P a u k v m=(w.viewStore P a u k v m).map λx=>(au x.1 τ d,x.2):=by unfold World.viewStore;rw[show(au w τ d).seen P a u k m=w.seen P a u k m from rfl];by_cases g:(!tight P P.depth u)=true;rw[UH g,UH g];rfl;rw[UG g,UG g];cases w.seen P a u k m with|error _=>rfl|ok x=>obtain⟨c,e,f,b,l,cs⟩:=x;dsimp only[bind,Except.bind,pure,Except.pure];cases v.bytes? with|none=>rfl|some bytes=>dsimp only;by_cases h:some bytes.length≠Option.map (λx=>x.length) l.bytes?;rw[UH h,UH h];rfl;rw[UG h,UG h];generalize (List.foldlM _ c cs:Except String (Zq))=X;cases X<;>rfl
def gG(P w τ d a v m):(au w τ d).farStore P a v m=(w.farStore P a v m).map λx=>(au x.1 τ d,x.2):=by unfold World.farStore;rw[show(au w τ d).heap=w.heap from rfl,show(au w τ d).noCell a "store: no such cell" =w.noCell a "store: no such cell" from rfl];split;rw[tK];cases w.viewStore P _ _ a v m<;>rfl;rfl
def bt.fn(_h:bt S Pr π w W):∀r R R',π r R->π r R'->R=R':=π.fn
def bt.inj(_h:bt S Pr π w W):∀r r' R,π r R->π r' R->r=r':=π.inj
def bt.lt(h:bt S Pr π w W){r R}(x:π r R):r<w.heap.size/\R<W.heap.size:=by obtain⟨o,O,a,b,_⟩:=h.obj r R x;exact⟨(UO.1 a).1,(UO.1 b).1⟩
def bt.cell(h:bt S Pr π w W){a A}(x:aS π a A){v}(b:w.cell? a=some v):∃V,W.cell? A=some V/\aw π v V:=by
 cases x with
 | @mk r s o p x=>
  obtain⟨ob,l,g,i,j⟩:=h.obj _ _ x;simp only[World.cell?,g]at b;cases j with
  | @cells c C e f F k m=>simp only[World.cell?,i];cases p with|some p=>simp at b|none=>simp only[Option.isSome_none,U7,U5]at b⊢;have d:=k.get o;rw[b]at d;revert d;generalize C[o]? =X;intro d;cases d with|some r=>exact⟨_,rfl,r⟩
  |_=>simp at b
def bt.frozen(h:bt S Pr π w W){a A}(x:aS π a A):W.frozen? A=true->w.frozen? a=true:=by cases x with| @mk r s o p x=>obtain⟨ob,j,b,d,g⟩:=h.obj _ _ x;simp only[World.frozen?,b,d];cases g with| @cells c C e f F k i=>obtain rfl|⟨a1,l,m⟩:=i;exact id;simp only[UT,U3];omega|_=>exact id
def bt.shape(h:bt S Pr π w W){r R}(x:π r R):W.shape? R=w.shape? r:=by obtain⟨ob,f,a,b,c⟩:=h.obj _ _ x;simp only[World.shape?,a,b];cases c with|cells e d g=>simp[d.1]|_=>rfl
def eU{b:Type}(a:Array b)(i j f):(a.modify i f)[j]? =if i=j then a[j]?.map f else a[j]? :=VF
def dU(w:x6)(a v b)(c:b≠a.block):(w.setCell a v).heap[b]? =w.heap[b]? :=by simp only[World.setCell,eU];rw[UG (λh=>c h.symm)]
def fX(w:x6)(a v):(w.setCell a v).heap.size=w.heap.size:=by simp[World.setCell]
def iq{W:x6}{a v}{b:Nat}{c e F}(h:W.heap[b]? =some (.cells c e F)):∃c' F',(W.setCell a v).heap[b]? =some (.cells c' e F')/\Fle F F':=by simp only[World.setCell,eU];split;rw[h];exact⟨_,F,rfl,.refl _⟩;exact⟨c,F,h,.refl _⟩
def bt.setCell(h:bt S Pr π w W){a A}(x:aS π a A){v V}(u:aw π v V):bt S Pr π (w.setCell a v) (W.setCell A V):=by
 cases x with
 | @mk r s o p x=>
  refine⟨λg R' y=>?_,λg R' y z=>?_,λR z=>by rw[fX];exact h.wY R z,by rw[fX];exact h.gw,by rw[fX];exact h.gW,by obtain⟨c,e,f,B⟩:=h.w0;obtain⟨c',D,d,_⟩:=iq (a:=⟨r,o,p⟩) (v:=v) B;exact⟨c',e,D,d⟩⟩;obtain⟨ob,E,d,i,k⟩:=h.obj g R' y;by_cases e:g=r;subst e
  have j:=h.fn _ _ _ y x;subst j;simp only[World.setCell,eU,UW,d,i,Vv];refine⟨_,_,rfl,rfl,?_⟩;cases k with
  | @cells c C e f F l m=>simp only[];cases p with|some p=>exact .cells e (by simpa using l) (by simpa using m)|none=>exact .cells e (by simpa using l.set o u) (by simpa using m)
  |map n h=>exact .map n h
  |stringIter=>exact .stringIter _ _
  |fK=>exact .fK _ _ _
  |mapIter a b c h=>exact .mapIter a b c h
  |loop h=>exact .loop h
  |deferred=>exact .deferred
  |eQ=>exact .eQ
  |number b h=>exact .number b h
  |view t h=>exact .view t h
  have j:R'≠s:=λj=>e (by subst j;exact h.inj _ _ _ y x);exact⟨ob,E,by rw[dU _ _ _ _ e];exact d,by rw[dU _ _ _ _ j];exact i,k⟩;obtain⟨c,e,f,d,i⟩:=h.vJ g R' y z;by_cases q:g=r;subst q;refine⟨if p.isSome then c else c.setIfInBounds o v,e,f,?_,?_⟩;simp only[World.setCell,eU,UW,d,Vv];split<;>simpa using i;exact⟨c,e,f,by rw[dU _ _ _ _ q];exact d,i⟩
def gV(w:x6)(a n b)(c:b≠a.block):(w.freeze a n).heap[b]? =w.heap[b]? :=by simp only[World.freeze];split;rfl;simp only[eU];rw[UG (λh=>c h.symm)]
def jL(w:x6)(a n):(w.freeze a n).heap.size=w.heap.size:=by simp only[World.freeze];split<;>simp
def mX(w:x6)(a n)(b:n≠0){c e f}(h:w.heap[a.block]? =some (.cells c e f)):(w.freeze a n).heap[a.block]? =some (.cells c e (grow f a.off n)):=by simp only[World.freeze,UG b,eU,UW,h,Vv];rfl
def bH(w:x6)(a n){o:Obj}(h:w.heap[a.block]? =some o)(b:∀c e f,o≠ .cells c e f):(w.freeze a n).heap[a.block]? =some o:=by simp only[World.freeze];split;exact h;simp only[eU,UW,h,Vv];cases o<;>first|rfl|exact absurd rfl (b _ _ _)
def Aj{f m}(b:f.1=0)(c:m<f.2)(a n):(grow f a n).1=0/\m<(grow f a n).2/\f.2<=(grow f a n).2/\a+n<=(grow f a n).2:=by (unfold grow;have:(f.1==f.2)=false:=by simp;omega);rw[this];simp only[U7,U5];omega
def PM{F k}(a n)(h:F.2<=k)(b:a+n<=k):(grow F a n).2<=k:=by unfold grow;split<;>simp only[]<;>omega
def xk{W:x6}{a}{n b:Nat}{c e F}(h:W.heap[b]? =some (.cells c e F)):∃c' F',(W.freeze a n).heap[b]? =some (.cells c' e F')/\Fle F F':=by by_cases d:n=0;subst d;exact⟨c,F,by simpa[World.freeze]using h,.refl _⟩;by_cases f:b=a.block;subst f;exact⟨c,_,mX W a n d h,Mx _ _ _ d⟩;exact⟨c,F,by rw[gV _ _ _ _ f];exact h,.refl _⟩
def bt.freeze(h:bt S Pr π w W){a A}(x:aS π a A)(n):bt S Pr π (w.freeze a n) (W.freeze A n):=by by_cases m:n=0;subst m;simpa[World.freeze]using h;cases x with| @mk r s o p x=>refine⟨λd R' y=>?_,λd R' y z=>?_,λR z=>by rw[jL];exact h.wY R z,by rw[jL];exact h.gw,by rw[jL];exact h.gW,by obtain⟨c,e,f,B⟩:=h.w0;obtain⟨c',D,g,_⟩:=xk (a:=⟨r,o,p⟩) (n:=n) B;exact⟨c',e,D,g⟩⟩;obtain⟨ob,E,g,i,k⟩:=h.obj d R' y;by_cases e:d=r;subst e;(have l:=h.fn _ _ _ y x;subst l;cases k with| @cells c C e f F H I=>refine⟨_,_,mX w ⟨d,o,p⟩ n m g,mX W ⟨R',o,p⟩ n m i,.cells e H ?_⟩;obtain rfl|⟨a1,J,K⟩:=I;exact .inl rfl;obtain⟨q,u,L,M⟩:=Aj a1 J o n;exact .inr ⟨q,u,PM o n (UJ K L) M⟩|map N j=>exact⟨_,_,bH w ⟨d,o,p⟩ n g (by simp),bH W ⟨R',o,p⟩ n i (by simp),.map N j⟩|stringIter=>exact⟨_,_,bH w ⟨d,o,p⟩ n g (by simp),bH W ⟨R',o,p⟩ n i (by simp),.stringIter _ _⟩|fK=>exact⟨_,_,bH w ⟨d,o,p⟩ n g (by simp),bH W ⟨R',o,p⟩ n i (by simp),.fK _ _ _⟩|mapIter a b c j=>exact⟨_,_,bH w ⟨d,o,p⟩ n g (by simp),bH W ⟨R',o,p⟩ n i (by simp),.mapIter a b c j⟩|loop j=>exact⟨_,_,bH w ⟨d,o,p⟩ n g (by simp),bH W ⟨R',o,p⟩ n i (by simp),.loop j⟩|deferred=>exact⟨_,_,bH w ⟨d,o,p⟩ n g (by simp),bH W ⟨R',o,p⟩ n i (by simp),.deferred⟩|eQ=>exact⟨_,_,bH w ⟨d,o,p⟩ n g (by simp),bH W ⟨R',o,p⟩ n i (by simp),.eQ⟩|number b j=>exact⟨_,_,bH w ⟨d,o,p⟩ n g (by simp),bH W ⟨R',o,p⟩ n i (by simp),.number b j⟩|view t j=>exact⟨_,_,bH w ⟨d,o,p⟩ n g (by simp),bH W ⟨R',o,p⟩ n i (by simp),.view t j⟩);have l:R'≠s:=λl=>e (by subst l;exact h.inj _ _ _ y x);exact⟨ob,E,by rw[gV _ _ _ _ e];exact g,by rw[gV _ _ _ _ l];exact i,k⟩;obtain⟨c,e,f,g,i,k⟩:=h.vJ d R' y z;by_cases v:d=r;subst v;obtain⟨q,u,_⟩:=Aj i k o n;exact⟨c,e,_,mX w ⟨d,o,p⟩ n m g,q,u⟩;exact⟨c,e,f,by rw[gV _ _ _ _ v];exact g,i,k⟩
def bt.ext(h:bt S Pr π w W):Ren G where
 rel:=λr R=>π r R\/(r=w.heap.size/\R=W.heap.size)
 fn:=by
  rintro r R R' (x|⟨e1,a⟩) (y|⟨b,c⟩)
  .exact h.fn _ _ _ x y
  .have:=(h.lt x).1;omega
  .have:=(h.lt y).1;omega
  .omega
 inj:=by
  rintro r d R (x|⟨e1,a⟩) (y|⟨b,c⟩)
  .exact h.inj _ _ _ x y
  .have:=(h.lt x).2;omega
  .have:=(h.lt y).2;omega
  .omega
 dF:=by
  rintro r R (x|⟨rfl,rfl⟩)
  .exact π.dF _ _ x
  .have:=h.gw;have:=h.gW;omega
def bt.new(h:bt S Pr π w W){o O}(i:fV S π o O):bt S Pr h.ext {w with heap:=w.heap.push o} {W with heap:=W.heap.push O}:=by have l:Ren.le π h.ext:=λ_ _ x=>.inl x;refine⟨?_,?_,λR z=>by simp;have:=h.wY R z;omega,by simp;have:=h.gw;omega,by simp;have:=h.gW;omega,by obtain⟨c,e,f,g⟩:=h.w0;have:=(UO.1 g).1;exact⟨c,e,f,by simp only[VD];rw[UG (by omega)];exact g⟩⟩;rintro r R (x|⟨rfl,rfl⟩);obtain⟨a,A,b,d,j⟩:=h.obj r R x;have:=h.lt x;exact⟨a,A,by simp only[VD];rw[UG (by omega)];exact b,by simp only[VD];rw[UG (by omega)];exact d,j.mono l⟩;exact⟨o,O,by simp,by simp,i.mono l⟩;rintro r R (x|⟨e1,k⟩) z;obtain⟨c,e,f,b,d⟩:=h.vJ r R x z;have:=h.lt x;exact⟨c,e,f,by simp only[VD];rw[UG (by omega)];exact b,d⟩;have:=h.wY R z;omega
def bt.setObj(h:bt S Pr π w W){r R}(x:π r R){o O}(n:fV S π o O)(b:∀c e f,w.heap[r]? ≠some (.cells c e f)):bt S Pr π {w with heap:=w.heap.setIfInBounds r o} {W with heap:=W.heap.setIfInBounds R O}:=by have k:=h.lt x;refine⟨λd R' y=>?_,λd R' y z=>?_,λR z=>by simpa using h.wY R z,by simpa using h.gw,by simpa using h.gW,by obtain⟨p,e0,q,l⟩:=h.w0;refine⟨p,e0,q,?_⟩;rw[UU (λe=>by subst e;exact b _ _ _ l)];exact l⟩;by_cases e:d=r;subst e;have g:=h.fn _ _ _ y x;subst g;exact⟨o,O,by simp[k.1],by simp[k.2],n⟩;obtain⟨a,A,i,j,s⟩:=h.obj d R' y;have g:R'≠R:=λg=>e (by subst g;exact h.inj _ _ _ y x);exact⟨a,A,by rw[UU (U4 e)];exact i,by rw[UU (U4 g)];exact j,s⟩;obtain⟨c,e,f,i,j⟩:=h.vJ d R' y z;by_cases m:d=r;subst m;exact absurd i (b _ _ _);exact⟨c,e,f,by rw[UU (U4 m)];exact i,j⟩
def aw.PO{v V}(h:aw π v V)(b:(∀c,v≠ .agg c)/\(∀c,v≠ .tuple c)):(∀c,V≠ .agg c)/\(∀c,V≠ .tuple c):=by cases h with|mR V a=>exact absurd rfl (b.2 _)|_=>simp_all
def bt.setCells(h:bt S Pr π w W){r R}(x:π r R){c c' C k e f F}(l:w.heap[r]? =some (.cells c e f))(n:W.heap[R]? =some (.cells C e F)) (p:VsR π c' k) (I:c'.size=c.size) (q:J1 c'.size f F):bt S Pr π {w with heap:=w.heap.setIfInBounds r (.cells c' e f)} {W with heap:=W.heap.setIfInBounds R (.cells k e F)}:=by have j:=h.lt x;refine⟨λd R' y=>?_,λd R' y z=>?_,λR z=>by simpa using h.wY R z,by simpa using h.gw,by simpa using h.gW,by obtain⟨s,e0,t,u⟩:=h.w0;by_cases g:r=0;subst g;exact⟨c',e,f,by simp[j.1]⟩;exact⟨s,e0,t,by rw[UU g];exact u⟩⟩;by_cases b:d=r;subst b;have i:=h.fn _ _ _ y x;subst i;exact⟨.cells c' e f,.cells k e F,by simp[j.1],by simp[j.2],.cells e p q⟩;obtain⟨a,A,l,n,v⟩:=h.obj d R' y;have i:R'≠R:=λi=>b (by subst i;exact h.inj _ _ _ y x);exact⟨a,A,by rw[UU (U4 b)];exact l,by rw[UU (U4 i)];exact n,v⟩;obtain⟨B,D,E,m,o,H⟩:=h.vJ d R' y z;by_cases b:d=r;subst b;rw[l]at m;cases m;exact⟨c',e,f,by simp[j.1],o,by omega⟩;exact⟨B,D,E,by rw[UU (U4 b)];exact m,o,H⟩
def bt.farLoad{P fs}(h:bt S Pr π w W){a A}(x:aS π a A){v t}(b:w.farLoad (ah P fs) a false=.ok (v,t)):∃T,W.cell? A=none/\W.farLoad P A false=.ok (v,T)/\aw π v v/\∀X∈T,∃r,π r X.block:=by
 have g:=x;cases x with
 | @mk r s o p x=>
  obtain⟨ob,z,i,j,k⟩:=h.obj _ _ x;unfold World.farLoad World.cell? at*;simp only[i]at b;simp only[j];cases k with
  | @view c f u d=>simp only[]at b⊢;cases e:w.viewLoad (ah P fs) c u ⟨r,o,p⟩ false with|error _=>rw[e]at b;cases b|ok y=>obtain⟨B,C⟩:=y;rw[e]at b;cases b;obtain⟨T,l,m,n⟩:=BN h.obj d g u e;rw[l];exact⟨T,trivial,rfl,m,λX q=>by cases d with|mk d=>exact⟨_,by rw[n X q];exact d⟩⟩
  |_=>cases b
def bt.farStore{P fs}(h:bt S Pr π w W){a A}(x:aS π a A){v V}(Z:aw π v V){w' t}(d:w.farStore (ah P fs) a v false=.ok (w',t)):∃D T,W.cell? A=none/\W.farStore P A V false=.ok (D,T)/\bt S Pr π w' D/\Chg Pr π W D π/\∀X∈T,(∃r,π r X.block)/\¬Pr X.block:=by
 have hx:=x;cases x with
 | @mk r s o p x=>
  obtain⟨ob,OB,h1,h2,h3⟩:=h.obj _ _ x;unfold World.farStore World.cell? at*;simp only[h1]at d;simp only[h2];cases h3 with
  | @view j N u O=>simp only[]at d⊢;cases E:w.viewStore (ah P fs) j u ⟨r,o,p⟩ v false with|error _=>rw[E]at d;cases d|ok y=>rw[E]at d;cases d;obtain⟨c,e,f,C,F,c',C',T,Q,rfl,H,n,q5,q6,q7,q8,q9,I,k⟩:=zb h.obj O hx u Z E;cases O with| @mk b B o' p' i=>(simp only[]at Q H n k⊢;rw[Q];have R:∀X∈T,¬Pr B:=λX z hp=>by obtain⟨cc,ee,ff,U,g2,g3⟩:=h.vJ _ _ i hp;rw[H]at U;cases U;exact q9 (Yd z) ⟨g2,g3⟩);refine⟨_,T,trivial,rfl,h.setCells i H n q6 q7 q8,⟨rfl,rfl,rfl,by simp,λb l hh=>UU ?_,λJ l Y e0 K g=>?_,λJ Y e0 K g=>?_,λ_ _ h=>.inl h,λ_ p q=>absurd q (by simp;omega),λ_ _ h=>h⟩,λX z=>by rw[k X z];exact⟨⟨_,i⟩,R X z⟩⟩;rintro rfl;exact hh ⟨_,i⟩;by_cases m:J=B;subst m;(have L:T=[]:=by cases M:T with|nil=>rfl|cons X T'=>exact absurd l (R X (by rw[M];exact .head _)));rw[I L];rw[n]at g;cases g;exact⟨F,by simp[(h.lt i).2]⟩;exact⟨K,by rw[UU (U4 m)];exact g⟩;by_cases m:J=B;subst m;rw[n]at g;cases g;exact⟨C',F,by simp[(h.lt i).2],.refl _⟩;exact⟨Y,K,by rw[UU (U4 m)];exact g,.refl _⟩
  |_=>cases d
def qu(w τ d a n):(au w τ d).freeze a n=au (w.freeze a n) τ d:=by unfold World.freeze au;split<;>rfl
def Dp(π:Ren G)(w:x6):Prop:=∀(r R:Nat) (o:Option (List Deferred)),π r R->w.heap[r]? =some (Obj.deferred o)->o=none\/o=some []
def bt.dp(h:bt S Pr π w W){w'}(k:oE w w'):Dp π w':=by intro r R o a b;obtain⟨x,X,c,_,d⟩:=h.obj r R a;have:=k _ _ c;rw[b]at this;cases this;cases d;exact .inr rfl;exact .inl rfl
def Dp.mono{a}(l:Ren.le π a){w}(h:Dp a w):Dp π w:=λr R o b c=>h r R o (l _ _ b) c
def dM(S:Kn)(Pr:Nat->Prop)(P:Program)(fs:Array Func){j k}(Q:Ren G->j->k->Prop)(π:Ren G)(s:Sem j)(s':Sem k)(w W:x6)(es l:Array Event)(d:Nat):Prop:=
 ∃L:List (Question->Nat),(∀g∈L,S.gq g)/\((∀τ,Fits τ d L->∃h w' f,s.runT (ah P fs) (au w τ d) es=(.halt h w',f)/\gO h/\Dp π w')\/
  ∃a w' f b i ev c,(∀τ,Fits τ d L->s.runT (ah P fs) (au w τ d) es=(.ok a (au w' τ (d+L.length)),f))/\s'.runT P W l=(.ok b i,l++ev)/\Q c a b/\bt S Pr c w' i/\Chg Pr π W i c/\∀e∈ev,lO Pr c e)
def ir{τ d l m}(h:Fits τ d (l++m)):Fits τ d l/\Fits τ (d+l.length) m:=by refine⟨λi g a=>h i g ?_,λi g a=>?_⟩;have:=(Vt.1 a).1;rw[Wu this];exact a;have:=h (l.length+i) g (by rw[XN (by omega)];simpa using a);rw[show d+l.length+i=d+(l.length+i) by omega];exact this
def iu{a L:List (Question->Nat)}(b:∀g∈a,S.gq g)(c:∀g∈L,S.gq g):∀g∈a++L,S.gq g:=λg d=>(Wn.1 d).elim (b g) (c g)
def dM.lift{P:Program}{fs:Array Func}{u v:Type}{Q:Ren G->u->v->Prop}{π f:Ren G}{s k:Sem u}{s' K:Sem v}{w j W Y1:x6}{es i n ev0:Array Event}{d:Nat}(c:List (Question->Nat)) (h:dM S Pr P fs Q f k K j Y1 i (n++ev0) (d+c.length)) (y:∀τ,Fits τ d c->s.runT (ah P fs) (au w τ d) es=k.runT (ah P fs) (au j τ (d+c.length)) i) (D:s'.runT P W n=K.runT P Y1 (n++ev0)) (z:Chg Pr π W Y1 f) (E:∀e∈ev0,lO Pr f e) (A:∀g∈c,S.gq g:=by simp):dM S Pr P fs Q π s s' w W es n d:=by obtain⟨L,B,h|⟨a,w',l,b,F,ev,o,p,q,r,H,C,I⟩⟩:=h;refine⟨c++L,iu A B,.inl λτ m=>?_⟩;have:=ir m;rw[y τ this.1];obtain⟨x,w',l,p,q,r⟩:=h τ this.2;exact⟨x,w',l,p,q,r.mono z.le⟩;refine⟨c++L,iu A B,.inr ⟨a,w',l,b,F,ev0++ev,o,λτ m=>?_,?_,r,H,z.trans C,λe t=>?_⟩⟩;have:=ir m;rw[y τ this.1,p τ this.2,U6,Wv];rw[D,q,VU];obtain x|x:=VJ.1 t;exact(E e x).mono C.le;exact I e x
def dM.none{P fs b c Q}{π:Ren G}{s:Sem b}{s':Sem c}{w W es e d} (f:bt S Pr π w W) (h:∀τ,∃x w' a,s.runT (ah P fs) (au w τ d) es=(.halt x w',a)/\gO x/\oE w w'):dM S Pr P fs Q π s s' w W es e d:=⟨[],by simp,.inl λτ _=>by obtain⟨x,w',a,g,i,j⟩:=h τ;exact⟨x,w',a,g,i,f.dp j⟩⟩
def bt.D7{P fs}(h:bt S Pr π w W){a A}(x:aS π a A){e m}(b:w.farLoad (ah P fs) a m=.error e):gO e:=by cases x with| @mk r s o p x=>obtain⟨ob,f,c,g,d⟩:=h.obj _ _ x;unfold World.farLoad World.noCell at b;simp only[c]at b;cases d with|view=>simp only[]at b;split at b;cases b;cases b;exact True.intro|_=>cases b;exact True.intro
def bt.Cb{P fs}(h:bt S Pr π w W){a A}(x:aS π a A){v e m}(b:w.farStore (ah P fs) a v m=.error e):gO e:=by cases x with| @mk r s o p x=>obtain⟨ob,f,c,g,d⟩:=h.obj _ _ x;unfold World.farStore World.noCell at b;simp only[c]at b;cases d with|view=>simp only[]at b;split at b;cases b;cases b;exact True.intro|_=>cases b;exact True.intro
def Chg.heap{Y1}(h:Y1.heap=W.heap)(e:Y1.os=W.os)(f:Y1.tape=W.tape)(g:Y1.output=W.output):Chg Pr π W Y1 π:=by refine⟨e,f,g,by rw[h];exact UI _,λ_ _ _=>by rw[h],λ_ _ _ _ F d=>⟨F,by rw[h];exact d⟩,λ_ c _ F d=>⟨c,F,by rw[h];exact d,.refl _⟩,λ_ _ h=>.inl h,λ_ a b=>absurd b (by rw[h];omega),λ_ _ h=>h⟩
def bt.heap{a Y1}(h:bt S Pr π w W)(e:a.heap=w.heap)(E:Y1.heap=W.heap):bt S Pr π a Y1:=⟨by rw[e,E];exact h.obj,by rw[e];exact h.vJ,by rw[E];exact h.wY,by rw[e];exact h.gw,by rw[E];exact h.gW,by rw[e];exact h.w0⟩
def jb(P:Program){d:Type}(a:Addr)(v:Zj)(k:Sem d)(w:x6)(es:Array Event)(e:∀c,v≠ .agg c)(f:∀c,v≠ .tuple c):(Sem.store .plain a v k).runT P w es=match w.cell? a with
  |some _=>if w.frozen? a then(.halt (.unsupported (.unsafePointer "a write to bytes that a string shares")) w,es)else k.runT P (w.setCell a v) (es.push ⟨.cell a,true,false⟩)
  |none=>match w.farStore P a v false with
   | .ok (w,b)=>k.runT P w (es++b.toArray.map (⟨.cell ·,true,false⟩))
   | .error h=>(.halt h w,es):=by
 cases v<;>first|rfl|exact absurd rfl (e _)|exact absurd rfl (f _)
def SR.run{fs P α β Q}{s:Sem α}{s':Sem β}(h:SR S (ah P fs) P Q π s s'):∀(w W) (es j) (d),bt S Pr π w W->dM S Pr P fs Q π s s' w W es j d:=by
 induction h with
 | @pure π a b q=>intro w W es j d g;exact⟨[],by simp,.inr ⟨a,w,es,b,W,#[],π,λτ _=>rfl,by simp[Sem.runT],q,g,Chg.refl _ _ _,by simp⟩⟩
 | @load π a A k K x _ i=>
  intro w W es j d g;cases Z:w.cell? a with
  |none=>
   cases D:w.farLoad (ah P fs) a false with
   |error e=>(refine .none g λτ=>⟨e,au w τ d,es,?_,g.D7 x D,.refl _⟩);simp only[Sem.runT];rw[show(au w τ d).cell? a=none from Z,show(au w τ d).farLoad (ah P fs) a (Mode.plain==Mode.atomic)=.error e from D]
   |ok y=>obtain⟨v,t⟩:=y;obtain⟨T,E,J,I,g4⟩:=g.farLoad x D;refine dM.lift [] (i v v I w W (es++t.toArray.map (⟨.cell ·,false,false⟩)) (j++T.toArray.map (⟨.cell ·,false,false⟩)) d g) ?_ ?_ (Chg.refl _ _ _) ?_;intro τ _;simp only[Sem.runT];rw[show(au w τ d).cell? a=none from Z,show(au w τ d).farLoad (ah P fs) a (Mode.plain==Mode.atomic)=.ok (v,t)from D];rfl;simp only[Sem.runT,E];rw[show(Mode.plain==Mode.atomic)=false from rfl,J];intro e z;obtain⟨X,hX,rfl⟩:=XO.1 z;obtain⟨r,hr⟩:=g4 X (by simpa using hX);exact⟨rfl,⟨r,hr⟩,by simp⟩
  |some v=>obtain⟨V,hV,an⟩:=g.cell x Z;refine dM.lift (ev0:=#[⟨.cell A,false,false⟩]) [] (i v V an w W (es.push ⟨.cell a,false,Mode.plain==Mode.atomic⟩) _ d g) ?_ ?_ (Chg.refl _ _ _) ?_;intro τ _;simp only[Sem.runT];rw[show(au w τ d).cell? a=some v from Z];rfl;simp only[Sem.runT,hV];rw[show(Mode.plain==Mode.atomic)=false from rfl,W4];intro e z;simp at z;subst z;cases x with| @mk r s o p x=>exact⟨rfl,⟨r,x⟩,by simp⟩
 | @store π a A v V k K x Z _ i=>
  intro w W es j d g;by_cases l:(∀c,v≠ .agg c)/\(∀c,v≠ .tuple c);case neg=>(refine .none g λτ=>⟨.stuck "store: not the value of one cell",au w τ d,es,?_,True.intro,.refl _⟩);cases v<;>first|rfl|exact absurd ⟨by simp,by simp⟩ l
  have L:=Z.PO l;cases hc:w.cell? a with
  |none=>
   cases D:w.farStore (ah P fs) a v false with
   |error e=>(refine .none g λτ=>⟨e,au w τ d,es,?_,g.Cb x D,.refl _⟩);rw[jb _ _ _ _ _ _ l.1 l.2,show(au w τ d).cell? a=none from hc,gG,D];rfl
   |ok y=>obtain⟨w1,t⟩:=y;obtain⟨W1,T,E,J,I,g4,g5⟩:=g.farStore x Z D;refine dM.lift [] (i w1 W1 (es++t.toArray.map (⟨.cell ·,true,false⟩)) (j++T.toArray.map (⟨.cell ·,true,false⟩)) d I) ?_ ?_ g4 ?_;intro τ _;rw[jb _ _ _ _ _ _ l.1 l.2,show(au w τ d).cell? a=none from hc,gG,D];rfl;rw[jb _ _ _ _ _ _ L.1 L.2,E,J];intro e z;obtain⟨X,hX,rfl⟩:=XO.1 z;obtain⟨⟨r,hr⟩,hp⟩:=g5 X (by simpa using hX);exact⟨rfl,⟨r,hr⟩,λ_=>hp⟩
  |some aa=>obtain⟨ax,af,_⟩:=g.cell x hc;by_cases M:w.frozen? a=true;(refine .none g λτ=>⟨.unsupported (.unsafePointer "a write to bytes that a string shares"),au w τ d,es,?_,True.intro,.refl _⟩);rw[jb _ _ _ _ _ _ l.1 l.2,show(au w τ d).cell? a=some aa from hc];simp only[];rw[UH (show(au w τ d).frozen? a=true from M)];have ao:¬W.frozen? A=true:=λh=>M (g.frozen x h);(have N:¬Pr A.block:=by intro hp;cases x with| @mk r s o p x=>obtain⟨c,e,f,E,J,I⟩:=g.vJ _ _ x hp;apply M;have g4:=hc;simp only[World.cell?,World.frozen?,E]at g4⊢;cases p with|some p=>simp at g4|none=>simp only[Option.isSome_none,U7,U5]at g4;have:=(UO.1 g4).1;simp only[UT,U3];omega);refine dM.lift (ev0:=#[⟨.cell A,true,false⟩]) [] (i (w.setCell a v) (W.setCell A V) (es.push ⟨.cell a,true,false⟩) _ d (g.setCell x Z)) ?_ ?_ ?_ ?_;intro τ _;rw[jb _ _ _ _ _ _ l.1 l.2,show(au w τ d).cell? a=some aa from hc];simp only[];rw[UG (show ¬(au w τ d).frozen? a=true from M)];rfl;rw[jb _ _ _ _ _ _ L.1 L.2,af];simp only[];rw[UG ao,W4];refine⟨rfl,rfl,rfl,by rw[fX];exact UI _,λb U hh=>dU _ _ _ _ ?_,λb U c e F B=>⟨F,?_⟩,λb c e F B=>iq B,λ_ _ h=>.inl h,λ_ p q=>absurd q (by rw[fX];omega),λ_ _ h=>h⟩;rintro rfl;(cases x with| @mk r s o p x=>exact hh ⟨r,x⟩);rw[dU _ _ _ _ (by rintro rfl;exact N U)];exact B;intro e z;simp at z;subst z;cases x with| @mk r s o p x=>exact⟨rfl,⟨r,x⟩,λ_=>N⟩
 | @new π o O k K ho _ i=>(intro w W es j d g;refine dM.lift (ev0:=#[]) [] (i g.ext w.heap.size W.heap.size (λ_ _ x=>.inl x) (.inr ⟨rfl,rfl⟩) {w with heap:=w.heap.push o} {W with heap:=W.heap.push O} es _ d (g.new ho)) (λ_ _=>rfl) (by simp[Sem.runT]) ?_ (by simp);have ab:∀(b:Nat) o,W.heap[b]? =some o->(W.heap.push O)[b]? =some o:=λb o h=>by have:=(UO.1 h).1;rw[VD];rw[UG (by omega)];exact h);refine⟨rfl,rfl,rfl,by simp,λb U _=>by simp only[VD];rw[UG (by omega)],λb U c e F B=>⟨F,ab _ _ B⟩,λb c e F B=>⟨c,F,ab _ _ B,.refl _⟩,?_,?_,λ_ _ h=>.inl h⟩;rintro r R (x|⟨_,rfl⟩);exact .inl x;exact .inr (UI _);intro R p q;simp at q;exact⟨w.heap.size,.inr ⟨rfl,by omega⟩⟩
 | @shape π r R k K x _ i=>intro w W es j d g;refine dM.lift (ev0:=#[]) [] (i (w.shape? r) w W es _ d g) (λ_ _=>rfl) ?_ (Chg.refl _ _ _) (by simp);simp only[Sem.runT];rw[g.shape x,XP]
 | @freeze π a A n k K x _ i=>intro w W es j d g;refine dM.lift (ev0:=#[]) [] (i _ _ es _ d (g.freeze x n)) ?_ (by simp[Sem.runT]) ?_ (by simp);intro τ _;simp only[Sem.runT];rw[qu];rfl;(have D:∀(w:x6) a,(w.freeze a n).os=w.os/\(w.freeze a n).tape=w.tape/\(w.freeze a n).output=w.output:=by intro w a;unfold World.freeze;split<;>exact⟨rfl,rfl,rfl⟩);refine⟨(D W A).1,(D W A).2.1,(D W A).2.2,by rw[jL];exact UI _,λb U hh=>gV _ _ _ _ ?_,λb _ c e F B=>?_,λb c e F B=>xk B,λ_ _ h=>.inl h,λ_ p q=>absurd q (by rw[jL];omega),λ_ _ h=>h⟩;rintro rfl;(cases x with| @mk r s o p x=>exact hh ⟨r,x⟩);by_cases hn:n=0;subst hn;exact⟨F,by simpa[World.freeze]using B⟩;by_cases U:b=A.block;subst U;exact⟨_,mX W A n hn B⟩;exact⟨F,by rw[gV _ _ _ _ U];exact B⟩
 | @frozen π a A k K x _ i=>intro w W es j d g;exact dM.lift (ev0:=#[]) [] (i _ _ (g.frozen x) w W es _ d g) (λ_ _=>rfl) (by simp[Sem.runT]) (Chg.refl _ _ _) (by simp)
 | @getObj π r R k K x _ i=>intro w W es j d g;obtain⟨o,O,E,J,I⟩:=g.obj _ _ x;by_cases u:∃c e f,o=.cells c e f;obtain⟨c,e,f,rfl⟩:=u;(refine .none g λτ=>⟨.stuck "getObj: a row of cells",au w τ d,es,?_,True.intro,.refl _⟩);simp only[Sem.runT,show(au w τ d).heap[r]? =some (.cells c e f)from E];(have ag:∀c e f,o≠ .cells c e f:=λc e f h=>u ⟨c,e,f,h⟩;have hch:O.isChan=false:=by cases I<;>rfl);(have ar:∀c e f,O≠ .cells c e f:=by rintro c e f rfl;cases I;exact ag _ _ _ rfl);refine dM.lift (ev0:=#[⟨.obj R,false,false⟩]) [] (i o O I w W (es.push ⟨.obj r,false,o.isChan⟩) _ d g) ?_ ?_ (Chg.refl _ _ _) ?_;intro τ _;(cases o<;>simp only[Sem.runT,show(au w τ d).heap[r]? =_ from E]<;>first|rfl|exact absurd rfl (ag _ _ _));(have:(Sem.getObj R K).runT P W j=(K O).runT P W (j.push ⟨.obj R,false,O.isChan⟩):=by cases O<;>simp only[Sem.runT,J]<;>exact absurd rfl (ar _ _ _));rw[this,hch,W4];intro e z;simp at z;subst z;exact⟨rfl,⟨r,x⟩,by simp⟩
 | @setObj π r R o O k K x ag ho _ i=>
  intro w W es j d g;obtain⟨H,ad,E,J,I⟩:=g.obj _ _ x;by_cases u:∃c e f,H=.cells c e f;obtain⟨c,e,f,rfl⟩:=u;refine .none g λτ=>⟨.stuck "setObj: a row of cells",au w τ d,es,?_,True.intro,.refl _⟩
  simp only[Sem.runT,show(au w τ d).heap[r]? =some (.cells c e f)from E];have m:∀c e f,H≠ .cells c e f:=λc e f h=>u ⟨c,e,f,h⟩;have hch:O.isChan=false:=by cases ho<;>rfl
  have C:∀c e f,ad≠ .cells c e f:=by rintro c e f rfl;cases I;exact m _ _ _ rfl
  have N:¬Pr R:=λhp=>by obtain⟨c,e,f,q1,_⟩:=g.vJ _ _ x hp;rw[E]at q1;exact m _ _ _ (Vd q1)
  refine dM.lift (ev0:=#[⟨.obj R,true,false⟩]) [] (i {w with heap:=w.heap.setIfInBounds r o} {W with heap:=W.heap.setIfInBounds R O} (es.push ⟨.obj r,true,o.isChan⟩) _ d
   (g.setObj x ho (λc e f h=>m c e f (Vd (E.symm.trans h))))) ?_ ?_ ?_ ?_
  intro τ _;cases H<;>simp only[Sem.runT,show(au w τ d).heap[r]? =_ from E]<;>first|rfl|exact absurd rfl (m _ _ _)
  have:(Sem.setObj R O K).runT P W j=K.runT P {W with heap:=W.heap.setIfInBounds R O} (j.push ⟨.obj R,true,O.isChan⟩):=by cases ad<;>simp only[Sem.runT,J]<;>exact absurd rfl (C _ _ _)
  rw[this,hch,W4];have l:∀(b:Nat) c e F,W.heap[b]? =some (Obj.cells c e F)->(W.heap.setIfInBounds R O)[b]? =some (Obj.cells c e F):=λb c e F B=>by rw[UU];exact B;rintro rfl;rw[J]at B;exact C _ _ _ (Vd B)
  refine⟨rfl,rfl,rfl,by simp,λb U hh=>UU ?_,λb _ c e F B=>⟨F,l _ _ _ _ B⟩,λb c e F B=>⟨c,F,l _ _ _ _ B,.refl _⟩,λ_ _ h=>.inl h,λ_ p q=>absurd q (by simp;omega),λ_ _ h=>h⟩;rintro rfl;exact hh ⟨r,x⟩;intro e z;simp at z;subst z;exact⟨rfl,⟨r,x⟩,λ_=>N⟩
 | @choose π q k K fq _ i=>intro w W es j d g;by_cases Y:q.forced=true;refine dM.lift (ev0:=#[]) [] (i 0 w W es _ d g) ?_ ?_ (Chg.refl _ _ _) (by simp);intro τ _;simp only[Sem.runT];rw[UH Y];rfl;simp only[Sem.runT];rw[UH Y,XP];refine dM.lift (ev0:=#[]) [only q (W.tape W.drawn q)] (i (q.cut (W.tape W.drawn q)) w {W with drawn:=W.drawn+1} es _ (d+1) (g.heap rfl rfl)) ?_ ?_ (Chg.heap rfl rfl rfl rfl) (by simp) (by simpa using zX fq _);intro τ ak;simp only[Sem.runT];rw[UG Y,show(au w τ d).tape (au w τ d).drawn q=W.tape W.drawn q from(congrFun ak.head q).trans (tG _ _)];rfl;simp only[Sem.runT];rw[UG Y,XP]
 | @program π k K _ i=>intro w W es j d g;exact dM.lift (ev0:=#[]) [] (i w W es _ d g) (λ_ _=>rfl) (by simp[Sem.runT]) (Chg.refl _ _ _) (by simp)
 | @kX π k s' _ i=>intro w W es j d g;exact dM.lift (ev0:=#[]) [] (i w W es _ d g) (λ_ _=>rfl) (by simp) (Chg.refl _ _ _) (by simp)
 | @extern π f k K _ i=>intro w W es j d g;refine dM.lift (ev0:=#[⟨.mark (.extern f),false,true⟩]) [] (i w W (es.push ⟨.mark (.extern f),false,true⟩) _ d g) (λ_ _=>rfl) (by simp[Sem.runT,W4]) (Chg.refl _ _ _) ?_;intro e z;simp at z;subst z;trivial
 | @noRoom π k K _ i=>intro w W es j d g;refine dM.lift (ev0:=#[⟨.mark .noRoom,false,true⟩]) [] (i w W (es.push ⟨.mark .noRoom,false,true⟩) _ d g) (λ_ _=>rfl) (by simp[Sem.runT,W4]) (Chg.refl _ _ _) ?_;intro e z;simp at z;subst z;trivial
 | @nA π q k s' n t fq e _ i=>intro w W es j d g;by_cases Y:q.forced=true;rw[UH Y]at e;subst e;refine dM.lift (ev0:=#[]) [] (i w W es _ d g) ?_ (by simp) (Chg.refl _ _ _) (by simp);intro τ _;simp only[Sem.runT];rw[UH Y];rfl;rw[UG Y]at e;subst e;refine dM.lift (ev0:=#[]) [only q t] (i w W es _ (d+1) g) ?_ (by simp) (Chg.refl _ _ _) (by simp) (by simpa using zX fq _);intro τ ak;simp only[Sem.runT];rw[UG Y,show(au w τ d).tape (au w τ d).drawn q=t from(congrFun ak.head q).trans (tG _ _)];rfl
 | @tH π s r K _ i=>intro w W es j d g;exact i (W.shape? r) w W es j d g
 | @tI π k s' _ i=>intro w W es j d g;obtain⟨c,e,f,h0⟩:=g.w0;refine dM.lift (ev0:=#[]) [] (i (e,c.size) w W es _ d g) (λτ _=>?_) (by simp) (Chg.refl _ _ _) (by simp);simp only[Sem.runT];rw[show(au w τ d).shape? 0=some (e,c.size) by simp only[World.shape?,au,h0]];rfl
 | @pP π s a K _ i=>intro w W es j d g;exact i (W.frozen? a) w W es j d g
 |never n=>intro w W es j d g;exact .none g λτ=>n _ _ _
end Go.Tm
namespace Go.Tm
def Plain(v:Zj):Prop:=∀(G:Nat) (π:Ren G),aw π v v
def dH(P:Program):Prop:=∀t i z,P.info? t=some i->i.zero=some z->Plain z
abbrev VQ{G}:Ren G->Zj->Zj->Prop:=λπ v V=>aw π v V
abbrev EqQ{G}{c:Type}:Ren G->c->c->Prop:=λ_ a b=>a=b
abbrev AQ{G}:Ren G->Addr->Addr->Prop:=λπ a A=>aS π a A
abbrev VsQ{G}:Ren G->Zq->Zq->Prop:=λπ a A=>VsR π a A
section
variable {S:Kn} {P:Program} {fs:Array Func} {π:Ren P.globals.size}
def aj{a b Q h}{s:Sem b}:(SR S (ah P fs) P) Q π (stuck h:Sem a) s:=.never (.halt _)
def aD{a b:Type}{Q:Ren P.globals.size->a->b->Prop}{h:Unsupported}{s:Sem b}(c:gO (.unsupported h):=by exact True.intro):(SR S (ah P fs) P) Q π (unsupported h:Sem a) s:=.never (.halt _ c)
def ai{c d Q}{a:c}{b:d}(h:Q π a b):(SR S (ah P fs) P) Q π (pure a) (pure b):=.pure h
def xm{a}{s:Sem a}(h:cQ s:=by repeat' (first|with_reducible exact cQ.unsupported _ (by with_unfolding_all exact True.intro)|with_reducible first
 |exact cQ.stuck _|exact cQ.pure _|exact cQ.program|exact cQ.choose _|exact cQ.shape _|exact cQ.frozen _|exact cQ.mark _|exact cQ.newObj _|exact cQ.sys _|assumption
 |refine cQ.ite ?_ ?_|refine cQ.bind ?_ λ_=>?_|dsimp only|split)):cQ s:=h
def zm(t):cQ (typeInfo t):=by unfold typeInfo;exact xm
def dj(t):cQ (underlying t):=by unfold underlying;exact xm
def D8(t):cQ (elemOf t):=by unfold elemOf;refine cQ.bind (dj t) λ_=>?_;exact xm
def D9(t v):cQ (newVar t v):=by unfold newVar newRow;exact xm
def rU(t):cQ (typeStr t):=by unfold typeStr;refine cQ.bind (zm t) λ_=>?_;exact xm
def qv{a}(v):dT (goPanic v:Sem a):=.halt _
def aE{a}(e):dT (runtimePanic e:Sem a):=by
 unfold runtimePanic;refine eR _ _ (.inr ⟨.program,λp=>?_⟩);cases e<;>simp only[]<;>first
  |exact qv _
  |exact eR _ _ (.inr ⟨D8 _,λ_=>eR _ _ (.inr ⟨D9 _ _,λ_=>qv _⟩)⟩)
def rV{a}(k x y c):dT (boundsPanic k x y c:Sem a):=by unfold boundsPanic;simp only[];split<;>refine eR _ _ (.inr ⟨?_,λ_=>aE _⟩);exact cQ.bind (.choose _) λ_=>.pure _;exact .pure _
def dk{a b Q e}{s:Sem b}:(SR S (ah P fs) P) Q π (runtimePanic e:Sem a) s:=.never (aE e)
def ej{a b Q k x y c}{s:Sem b}:(SR S (ah P fs) P) Q π (boundsPanic k x y c:Sem a) s:=.never (rV k x y c)
def cu:(SR S (ah P fs) P) (λ_ a b=>ah P fs=a/\P=b) π program program:=.program (.pure ⟨rfl,rfl⟩)
def eK(q:Question)(a:Jo q=false:=by with_unfolding_all rfl):(SR S (ah P fs) P) EqQ π (choose q) (choose q):=.choose (λf b h=>absurd h (Mw a f b)) λ_=>.pure rfl
def rn(n):(SR S (ah P fs) P) (λ_ _ _=>True) π (askRoom n) (askRoom n):=by unfold askRoom;split;exact .noRoom (.pure trivial);exact .pure trivial
def dC(t):(SR S (ah P fs) P) (λ_ a b=>a=b/\P.info? t=some b) π (typeInfo t) (typeInfo t):=by unfold typeInfo;refine cu.bind ?_;rintro c l _ _ ⟨rfl,rfl⟩;rw[J2];cases h:P.info? t with|none=>exact aj|some i=>exact ai ⟨rfl,rfl⟩
def aA(t):(SR S (ah P fs) P) (λ_ a b=>a=b/\P.underlying t=some b) π (underlying t) (underlying t):=by unfold underlying;refine cu.bind ?_;rintro c l _ _ ⟨rfl,rfl⟩;rw[jX];cases h:P.underlying t with|none=>exact aj|some i=>exact ai ⟨rfl,rfl⟩
def bJ(t):(SR S (ah P fs) P) EqQ π (sizeOf t) (sizeOf t):=by unfold sizeOf;refine(dC t).bind ?_;rintro a l _ _ ⟨rfl,_⟩;exact ai rfl
def Ea(t):(SR S (ah P fs) P) EqQ π (isAgg t) (isAgg t):=by unfold isAgg;refine(aA t).bind ?_;rintro b l a _ ⟨rfl,_⟩;split<;>exact ai rfl
def Ke(t):(SR S (ah P fs) P) EqQ π (elemOf t) (elemOf t):=by unfold elemOf;refine(aA t).bind ?_;rintro b l a _ ⟨rfl,_⟩;split;exact ai rfl;exact aj
def eD(c:dH P)(t):(SR S (ah P fs) P) (λ_ a b=>a=b/\Plain a) π (zeroValue t) (zeroValue t):=by unfold zeroValue;refine(dC t).bind ?_;rintro d l i _ ⟨rfl,h⟩;cases e:i.zero with|none=>exact aD|some z=>exact ai ⟨rfl,c t i z h e⟩
def rW{a A}(h:aS π a A):(SR S (ah P fs) P) VQ π (load a) (load A):=.load h λ_ _ b=>.pure b
def MJ{a A v V}(h:aS π a A)(b:aw π v V):(SR S (ah P fs) P) EqQ π (store a v) (store A V):=.store h b (.pure rfl)
def iv{o O}(h:fV S π o O):(SR S (ah P fs) P) (λa r R=>a r R) π (newObj o) (newObj O):=.new h λ_ _ _ _ x=>.pure x
def cJ{r b}(h:π r b):(SR S (ah P fs) P) (λa o O=>fV S a o O) π (getObj r) (getObj b):=.getObj h λ_ _ c=>.pure c
def eL{r a o O}(h:π r a)(b:∀c e f,o≠ .cells c e f)(d:fV S π o O):(SR S (ah P fs) P) EqQ π (setObj r o) (setObj a O):=.setObj h b d (.pure rfl)
def aS.add{G}{ρ:Ren G}{a A}(h:aS ρ a A)(n):aS ρ (a.add n) (A.add n):=by cases h with|mk h=>unfold Addr.add;split;exact .mk h;exact .mk h
def tT(n):∀{π:Ren P.globals.size} {a A} {acc b} (i),aS π a A->VsR π acc b->(SR S (ah P fs) P) VsQ π (loadCellsFrom a i n acc) (loadCellsFrom A i n b):=by induction n with|zero=>exactλi h c=>ai c|succ n e=>intro π a A acc b i h c;unfold loadCellsFrom;refine(rW (h.add i)).bind ?_;intro f l v V d;exact e (i+1) (h.mono l) ((VsR.mono l c).push d)
def kB{a A}(h:aS π a A)(n):(SR S (ah P fs) P) VsQ π (loadCells a n) (loadCells A n):=tT n 0 h aY.empty
def mA{c}:∀{π:Ren P.globals.size} {d} {a A} (i),aS π a A->bp (aw π) c d->(SR S (ah P fs) P) EqQ π (storeCells a c i) (storeCells A d i):=by induction c with|nil=>intro π d a A i h b;cases b;exact ai rfl|cons v c f=>intro π d a A i h b;cases b with|cons b e=>unfold storeCells;refine(MJ (h.add i) b).bind ?_;intro g l _ _ _;exact f (i+1) (h.mono l) (e.mono λ_ _ x=>x.mono l)
def aw.cells{G}{ρ:Ren G}{v V}(h:aw ρ v V):VsR ρ v.cells V.cells:=by
 cases h with
 |agg s h=>exact⟨s,h⟩
 |mR V a=>(have e:V.cells=#[V]:=by cases V<;>first|rfl|cases a);rw[e];exact aY.push aY.empty (.mR V a)
 |_=>exact⟨rfl,λi x y b c=>by
  simp only[Value.cells]at b c;obtain _|i:=i
  .simp at b c;subst b c;first|exact .J0 _ _ _|exact .qZ _|(constructor<;>assumption)
  .simp at b⟩
def xn{a A}(t)(h:aS π a A):(SR S (ah P fs) P) VQ π (loadVar t a) (loadVar t A):=by unfold loadVar;refine(Ea t).bind ?_;rintro d l b _ rfl;split;refine(bJ t).bind ?_;rintro c e n _ rfl;refine(kB ((h.mono l).mono e) n).bind ?_;intro f i j k g;exact ai (aw.Gy g);exact rW (h.mono l)
def Eb{a A v V}(t)(h:aS π a A)(b:aw π v V):(SR S (ah P fs) P) EqQ π (storeVar t a v) (storeVar t A V):=by unfold storeVar;refine(bJ t).bind ?_;rintro c l n _ rfl;rw[b.cells.1];split;exact aj;exact mA 0 (h.mono l) (b.mono l).cells.toList
def jc{c C}(e)(h:VsR π c C):(SR S (ah P fs) P) AQ π (newRow e c) (newRow e C):=by unfold newRow;refine(iv (.cells e h (.inl rfl))).bind ?_;intro a l r d b;exact ai (.mk b)
def Ak{v V}(t)(h:aw π v V):(SR S (ah P fs) P) AQ π (newVar t v) (newVar t V):=jc t h.cells
def kZ{v V}(h:aw π v V):(SR S (ah P fs) P) EqQ π (asIntOf v) (asIntOf V):=by cases h<;>first|exact ai rfl|exact aj|exact aD
def jM{v V}(h:aw π v V):(SR S (ah P fs) P) EqQ π (asInt v) (asInt V):=by unfold asInt;refine(kZ h).bind ?_;rintro a l _ _ rfl;exact ai rfl
def Al{v V}(h:aw π v V):(SR S (ah P fs) P) EqQ π (asBool v) (asBool V):=by cases h<;>first|exact ai rfl|exact aj
def ML{v V}(h:aw π v V):(SR S (ah P fs) P) VsQ π (asAgg v) (asAgg V):=by cases h with|agg s h=>exact ai ⟨s,h⟩|_=>exact aj
def Am{v V}(h:aw π v V):(SR S (ah P fs) P) AQ π (asAddr v) (asAddr V):=by cases h with|ptr h=>exact ai h|JZ=>exact .never (by unfold asAddr;exact aE _)|_=>exact aj
def jN{v V}(h:aw π v V):(SR S (ah P fs) P) AQ π (Instr.sureAddr v) (Instr.sureAddr V):=by cases h with|ptr h=>exact ai h|_=>exact aj
def gH{c C}(t a)(h:VsR π c C):(SR S (ah P fs) P) VQ π (part t c a) (part t C a):=by unfold part;refine(Ea t).bind ?_;rintro g l b _ rfl;have e:=VsR.mono l h;split;refine(bJ t).bind ?_;rintro f i n _ rfl;exact ai (aw.Gy ((VsR.mono i e).extract _ _));have d:=e.get a;revert d;generalize c[a]? =u;generalize C[a]? =v;intro d;cases d with|none=>exact aj|some r=>exact ai r
def fu{r a}(h:π r a):(SR S (ah P fs) P) EqQ π (shape r) (shape a):=.shape h λs=>.pure rfl
abbrev VwR{G}(π:Ren G):Addr×TypeId->Addr×TypeId->Prop:=λx y=>aS π x.1 y.1/\x.2=y.2
def pQ{r d}(h:π r d):(SR S (ah P fs) P) (λc a b=>dP (VwR c) a b) π (viewAt r) (viewAt d):=by unfold viewAt;refine(fu h).bind ?_;rintro c l a _ rfl;split;exact ai .none;refine(cJ (l _ _ h)).bind ?_;intro e g o O f;cases f<;>first|exact ai .none|exact ai (.some ⟨by assumption,rfl⟩)
def lS{c d Q}{a:Option c}{b:Option d}(h:dP Q a b):a.isSome=b.isSome:=by cases h<;>rfl
def tU{a A}(h:aS π a A):(SR S (ah P fs) P) EqQ π (noView a) (noView A):=by cases h with|mk h=>unfold noView;refine(pQ h).bind ?_;intro c l x y b;rw[lS b];split;exact aD;exact ai rfl
def jd{a A}(h:aS π a A):(SR S (ah P fs) P) EqQ π (byteOf a) (byteOf A):=by (unfold byteOf;have e1:a.spot=A.spot/\a.off=A.off:=by cases h;exact⟨rfl,rfl⟩);rw[e1.1,e1.2];cases A.spot with|some s=>exact ai rfl|none=>simp only[];refine cu.bind ?_;rintro b l _ _ ⟨rfl,rfl⟩;refine(tU (h.mono l)).bind ?_;intro c d _ _ _;cases h with|mk h=>refine(fu (d _ _ (l _ _ h))).bind ?_;rintro f g sh _ rfl;cases sh with|none=>exact aj|some es=>obtain⟨e,n⟩:=es;simp only[show(ah P fs).cellsOf e=P.cellsOf e from rfl,show(ah P fs).bytesOf e=P.bytesOf e from rfl,show(ah P fs).depth=P.depth from rfl,gF];split;exact ai rfl;split;exact ai rfl;exact aj
def Kf{a A}(h:aS π a A)(c b):(SR S (ah P fs) P) AQ π (partAt a c b) (partAt A c b):=by unfold partAt;refine(jd h).bind ?_;rintro e l n _ rfl;cases h with|mk h=>refine(jd (.mk (l _ _ h))).bind ?_;rintro f d m _ rfl;simp only[];split;exact ai (.mk (d _ _ (l _ _ h)));exact ai (.mk (d _ _ (l _ _ h)))
def zn{a A}(h:aS π a A)(f):(SR S (ah P fs) P) AQ π (fieldPlace a f) (fieldPlace A f):=by unfold fieldPlace;refine(bJ f.type).bind ?_;rintro b l n _ rfl;split;exact Kf (h.mono l) _ _;exact ai ((h.mono l).add _)
def mB{x X}(h:aw π x X)(y c):(SR S (ah P fs) P) EqQ π (Instr.sliceBound x y c) (Instr.sliceBound X y c):=by unfold Instr.sliceBound;refine(kZ h).bind ?_;rintro a l ⟨k,i⟩ _ rfl;simp only[];split;exact ai rfl;exact ej
def fL(b len cap){p q r s mx e}(t:dP (aw π) p q)(u:dP (aw π) r s)(i:dP (aw π) mx e):(SR S (ah P fs) P) EqQ π (Instr.sliceBounds b len cap p r mx) (Instr.sliceBounds b len cap q s e):=by
 unfold Instr.sliceBounds;have e3:e.isSome=mx.isSome:=by cases i<;>rfl
 simp only[e3];have w:∀{c:Type} (o O:Option Zj),dP (aw π) o O->∀(f g:Zj->Sem c) (x y:Sem c) (a:Ren P.globals.size) (Q:Ren P.globals.size->c->c->Prop),Ren.le π a->(∀v V,aw a v V->(SR S (ah P fs) P) Q a (f v) (g V))->(SR S (ah P fs) P) Q a x y->
  (SR S (ah P fs) P) Q a (match o with|some v=>f v|none=>x) (match O with|some v=>g v|none=>y):=by
  intro c o O h f g x y a Q l z A;cases h with
  |none=>exact A
  |some h=>exact z _ _ (h.mono l)
 refine w mx e i _ _ _ _ π EqQ (Ren.le_refl _) (λv V B=>?_) ?_;all_goals
  refine SR.bind (R1:=EqQ) (by first|exact mB B _ _|exact ai rfl) ?_;rintro a l m _ rfl;have j:=t.mono λ_ _ x=>x.mono l;have k:=u.mono λ_ _ x=>x.mono l;have n:=i.mono λ_ _ x=>x.mono l;cases k<;>cases n<;>simp only[];all_goals
   refine SR.bind (R1:=EqQ) (by first|exact mB (by assumption) _ _|exact ai rfl|exact aj) ?_;rintro C D h _ rfl;have d:=j.mono λ_ _ x=>x.mono D;cases d<;>simp only[];all_goals
    refine SR.bind (R1:=EqQ) (by first|exact mB (by assumption) _ _|exact ai rfl) ?_;rintro E F G _ rfl;exact ai rfl
def lg{x X}(h:aw π x X)(c):(SR S (ah P fs) P) (λ_ a b=>a=b/\a=0) π (Instr.sliceBound x 0 c) (Instr.sliceBound X 0 c):=by unfold Instr.sliceBound;refine(kZ h).bind ?_;rintro d l ⟨k,i⟩ _ rfl;simp only[];split;exact ai ⟨rfl,by omega⟩;exact ej
def vP(b){g i j k mx d}(o:dP (aw π) g i)(p:dP (aw π) j k)(n:dP (aw π) mx d):(SR S (ah P fs) P) (λ_ a b=>a=b/\a=(0,0,0)) π (Instr.sliceBounds b 0 0 g j mx) (Instr.sliceBounds b 0 0 i k d):=by
 unfold Instr.sliceBounds;have e3:d.isSome=mx.isSome:=by cases n<;>rfl
 simp only[e3];cases n<;>simp only[];all_goals
  refine SR.bind (R1:=λ_ a b=>a=b/\a=0) (by first|exact lg (by assumption) _|exact ai ⟨rfl,rfl⟩) ?_;rintro q l m _ ⟨rfl,rfl⟩;have e:=o.mono λ_ _ x=>x.mono l;have f:=p.mono λ_ _ x=>x.mono l;cases f<;>simp only[];all_goals
   refine SR.bind (R1:=λ_ a b=>a=b/\a=0) (by first|exact lg (by assumption) _|exact ai ⟨rfl,rfl⟩|exact aj) ?_;rintro r s h _ ⟨rfl,rfl⟩;have c:=e.mono λ_ _ x=>x.mono s;cases c<;>simp only[];all_goals
    refine SR.bind (R1:=λ_ a b=>a=b/\a=0) (by first|exact lg (by assumption) _|exact ai ⟨rfl,rfl⟩) ?_;rintro t u v _ ⟨rfl,rfl⟩;exact ai ⟨rfl,rfl⟩
def MM{x X}(t)(m:aw π x X){s u v w mx p}(f:dP (aw π) s u)(g:dP (aw π) v w)(h:dP (aw π) mx p):(SR S (ah P fs) P) VQ π (Instr.slice t x s v mx) (Instr.slice t X u w p):=by
 unfold Instr.slice;refine(aA t).bind ?_;rintro B l d _ ⟨rfl,_⟩;have m:=m.mono l;have f:=f.mono λ_ _ x=>x.mono l;have g:=g.mono λ_ _ x=>x.mono l;have h:=h.mono λ_ _ x=>x.mono l;have e3:p.isSome=mx.isSome:=by cases h<;>rfl
 cases d with
 |string=>(cases m<;>simp only[]<;>try exact aj);rw[e3];split;exact .never (eR _ _ (.inl (.halt _)));refine(fL false _ _ f g dP.none).bind ?_;rintro i e ⟨a,b,c⟩ _ rfl;exact ai (.string _)
 |slice elem=>(cases m<;>simp only[]<;>try exact aj);rename_i len cap;refine(fL true _ _ f g h).bind ?_;rintro i e ⟨a,b,c⟩ _ rfl;refine(bJ elem).bind ?_;rintro j o n _ rfl;refine ai ?_;simp only[Option.map_none,ite_self];exact .iT _ _;rename_i a A len cap k;refine(fL true _ _ f g h).bind ?_;rintro i e ⟨y,b,c⟩ _ rfl;refine(bJ elem).bind ?_;rintro j o n _ rfl;refine ai ?_;simp only[Vv];split;exact .slice _ _ ((k.mono e).mono o);exact .slice _ _ (((k.mono e).mono o).add _);refine(vP true f g h).bind ?_;rintro i e ⟨y,b,c⟩ _ ⟨rfl,e0⟩;cases e0;refine(bJ elem).bind ?_;rintro j o n _ rfl;exact ai (.qZ _)
 |pointer q=>(simp only[];refine(Am m).bind ?_;intro z r a A k;refine(aA q).bind ?_;rintro i e d _ ⟨rfl,C⟩;clear C;have f:=f.mono λ_ _ x=>(x.mono r).mono e;have g:=g.mono λ_ _ x=>(x.mono r).mono e;have h:=h.mono λ_ _ x=>(x.mono r).mono e;cases d<;>simp only[]<;>try exact aj);rename_i n elem;refine(fL false _ _ f g h).bind ?_;rintro j o ⟨y,b,c⟩ _ rfl;refine(bJ elem).bind ?_;rintro D E n _ rfl;refine ai ?_;have k:=((k.mono e).mono o).mono E;simp only[];split;exact .slice _ _ k;exact .slice _ _ (k.add _)
 |_=>cases m<;>exact aj
def GR{x X}(t)(h:aw π x X){k m o p q r}(e:dP (aw π) k m)(f:dP (aw π) o p)(g:dP (aw π) q r):(SR S (ah P fs) P) VQ π (Instr.sliceAt t x k o q) (Instr.sliceAt t X m p r):=by (unfold Instr.sliceAt;refine(aA t).bind ?_;rintro u l d _ ⟨rfl,v⟩;clear v;have h:=h.mono l;have e:=e.mono λ_ _ x=>x.mono l;have f:=f.mono λ_ _ x=>x.mono l;have g:=g.mono λ_ _ x=>x.mono l;cases d<;>simp only[]<;>try exact MM t h e f g);(rename_i n elem;refine(jN h).bind ?_;intro s j a A i;have e:=e.mono λ_ _ x=>(x.mono j));(have f:=f.mono λ_ _ x=>(x.mono j));(have g:=g.mono λ_ _ x=>(x.mono j));refine(fL false _ _ e f g).bind ?_;rintro w y ⟨C,b,c⟩ _ rfl;refine(bJ elem).bind ?_;rintro z B n _ rfl;refine ai ?_;have i:=(i.mono y).mono B;simp only[];split;exact .slice _ _ i;exact .slice _ _ (i.add _)
def kM(t:TypeId)(k:IntKind)(i:Int)(base:Option Addr)(len:Nat)(elem:TypeId):Sem Zj:=do
 let b:=len<=1&&(match <-underlying t with| .array .. =>true|_=>false)
 match base with
 |some a=>
  if 0<=i/\i<len then pure (.pointer (some (a.add (i.toNat*(<-sizeOf elem)))))
  else if b then unsupported (.noEntry "op/indexAddr.an index out of range at an array of length 0 or 1 (ledger 616)")
  else boundsPanic k i len .index
 |none=>boundsPanic k i 0 .index
def nG(t k i){a A}(len elem)(b:dP (aS π) a A):(SR S (ah P fs) P) VQ π (kM t k i a len elem) (kM t k i A len elem):=by unfold kM;refine(aA t).bind ?_;rintro c d d' _ ⟨rfl,_⟩;cases b with|none=>exact ej|some b=>simp only[];split;refine(bJ elem).bind ?_;rintro e f n _ rfl;exact ai (.ptr (((b.mono d).mono f).add _));split<;>split<;>first|exact aD|exact ej
def zo(t k i){a A:Addr}(elem):(SR S (ah P fs) P) VQ π (kM t k i (some a) 0 elem) (kM t k i (some A) 0 elem):=by unfold kM;refine(aA t).bind ?_;rintro b c d' _ ⟨rfl,_⟩;simp only[];rw[UG (by omega)];split<;>first|exact aD|exact ej
def GU{x X i I}(t)(b:aw π x X)(j:aw π i I):(SR S (ah P fs) P) VQ π (Instr.indexAt t x i) (Instr.indexAt t X I):=by
 unfold Instr.indexAt;refine(kZ j).bind ?_;rintro m l ⟨k,i⟩ _ rfl;refine(aA t).bind ?_;rintro n o d _ ⟨rfl,p⟩;clear p;have b:=(b.mono l).mono o;have g:∀{q r:Type} (f:q->Sem r) (h:String),dT (stuck h>>= f):=λf h=>eR _ _ (.inl (.halt _));cases d with
 |array len elem=>refine(jN b).bind ?_;intro s u a A e;exact nG t k i len elem (.some e)
 |slice elem=>cases b with|iT len c=>exact nG t k i len elem .none|slice len c e=>exact nG t k i len elem (.some e)|qZ A=>exact zo t k i elem|_=>exact .never (g _ _)
 |_=>exact .never (g _ _)
def MN{x X i I}(t)(a:aw π x X)(b:aw π i I):(SR S (ah P fs) P) VQ π (Instr.index t x i) (Instr.index t X I):=by
 unfold Instr.index;refine(kZ b).bind ?_;rintro c l ⟨k,i⟩ _ rfl;refine(aA t).bind ?_;rintro e f d _ ⟨rfl,m⟩;have a:=(a.mono l).mono f;cases d with
 |array len elem=>(cases a<;>simp only[]<;>try exact aj);rename_i s h;split;refine(bJ elem).bind ?_;rintro g j n _ rfl;exact gH elem _ (VsR.mono j ⟨s,h⟩);exact ej
 |string=>(cases a<;>simp only[]<;>try exact aj);split;exact ai (.int _ _);exact ej
 |_=>cases a<;>exact aj
def MO{x X}(t f)(b:aw π x X):(SR S (ah P fs) P) VQ π (Instr.field t x f) (Instr.field t X f):=by (unfold Instr.field;refine(aA t).bind ?_;rintro e g d _ ⟨rfl,j⟩;cases d<;>simp only[]<;>try exact aj);rename_i a;split;refine(ML (b.mono g)).bind ?_;intro h k c C i;exact gH _ _ i;exact aj
def GV{x X}(i)(b:aw π x X):(SR S (ah P fs) P) VQ π (Instr.extract x i) (Instr.extract X i):=by
 unfold Instr.extract;cases b with
 | @tuple c C s h=>(simp only[];have a:=(aY.get ⟨s,h⟩ i:dP (aw π) c[i]? C[i]?));revert a;generalize c[i]? =u;generalize C[i]? =v;intro a;cases a with|none=>exact aj|some r=>exact ai r
 |_=>exact aj
end
section
variable {S:Kn} {P:Program} {fs:Array Func} {G:Nat} {π:Ren P.globals.size} {ρ:Ren G}
def aB{a b s}{f:a->Sem b}(h:dT s):dT (s>>= f):=eR _ _ (.inl h)
def bI{b c s}{f:b->Sem c}(d:cQ s)(h:∀a,dT (f a)):dT (s>>= f):=eR _ _ (.inr ⟨d,h⟩)
def dD{a}(h):dT (stuck h:Sem a):=.halt _
def bK{a:Type}(h:Unsupported)(b:gO (.unsupported h):=by exact True.intro):dT (unsupported h:Sem a):=.halt _ b
def GY{x X}(s f)(e:aw π x X):(SR S (ah P fs) P) VQ π (Instr.fieldAt s x f) (Instr.fieldAt s X f):=by (unfold Instr.fieldAt;refine(aA s).bind ?_;rintro g h d _ ⟨rfl,n⟩;cases d<;>simp only[]<;>try exact aj);rename_i c;cases o:c[f]? with|none=>exact aj|some i=>simp only[];refine(jN (e.mono h)).bind ?_;intro j p a A k;exact(zn k i).bind λl q b B m=>ai (.ptr m)
def rp(b):Plain (.bool b):=λ_ _=>.bool b
def zp:Plain (default:Zj):=λ_ π=>by show aw π (Value.bool default) (Value.bool default);exact .bool _
def bn(c:Zq):Prop:=∀(i:Nat) v,c[i]? =some v->Plain v
def bn.refl{c}(h:bn c)(ρ:Ren G):VsR ρ c c:=⟨rfl,λi x y a b=>by rw[a]at b;cases b;exact h i x a _ ρ⟩
def Plain.cells{v}(h:Plain v):bn v.cells:=λi x a G π=>((h G π).cells).2 i x x a a
def bn.getD{c}(h:bn c)(i:Nat):Plain c[i]! :=by rw[getElem!_def];cases e:c[i]? with|none=>exact zp|some v=>exact h i v e
def bn.spread{c}(h:bn c)(n m):bn ((Array.range n).map λi=>c[i%m]!):=by intro i v a;rw[Vk]at a;cases e:(Array.range n)[i]? with|none=>rw[e]at a;simp at a|some k=>rw[e]at a;simp at a;subst a;exact h.getD _
def bn.empty:bn #[]:=λi v h=>by simp at h
def MP(c:dH P)(t):(SR S (ah P fs) P) VQ π (Instr.alloc t true (.tuple #[])) (Instr.alloc t true (.tuple #[])):=by unfold Instr.alloc;refine(eD c t).bind ?_;rintro b l z _ ⟨rfl,d⟩;simp only[];refine(Ak t (d _ b)).bind ?_;rintro e g a A f;exact ai (.ptr f)
def Rf{v V}(t)(h:aw π v V):(SR S (ah P fs) P) VQ π (Instr.box t v) (Instr.box t V):=by unfold Instr.box;refine(Ak t h).bind ?_;rintro b d a A c;exact ai (.ptr c)
abbrev lT{G}(π:Ren G):Nat×Zj->Nat×Zj->Prop:=λa b=>a.1=b.1/\aw π a.2 b.2
def Kg{l L:List (Zj×Nat)}(h:bp (λa b=>aw ρ a.1 b.1/\a.2=b.2) l L):∀{c C:Zq} (d:Nat),VsR ρ c C->VsR ρ (l.foldl (λcs (c,j)=>cs.setIfInBounds (d+j) c) c) (L.foldl (λcs (c,j)=>cs.setIfInBounds (d+j) c) C):=by induction h with|nil=>exactλ_ h=>h| @cons x y l m e _ f=>intro c C d g;obtain⟨v,j⟩:=x;obtain⟨V,J⟩:=y;obtain⟨i,rfl⟩:=e;exact f d (g.set _ i)
def GZ{l L}(h:bp (aw ρ) l L):∀n,bp (λa b=>aw ρ a.1 b.1/\a.2=b.2) (l.zipIdx n) (L.zipIdx n):=by induction h with|nil=>exactλ_=>.nil|cons c _ d=>exactλn=>by simp only[List.zipIdx_cons];exact .cons ⟨c,rfl⟩ (d _)
def xo(a){l L}(h:bp (lT ρ) l L):∀{c C},VsR ρ c C->dP (VsR ρ) (Instr.fill a c l) (Instr.fill a C L):=by induction h with|nil=>exactλh=>.some h| @cons x y l m b _ k=>intro c C f;obtain⟨i,v⟩:=x;obtain⟨j,V⟩:=y;obtain⟨g,d⟩:=b;simp only[]at g d;subst g;unfold Instr.fill;cases a i with|none=>exact .none|some os=>obtain⟨e,size⟩:=os;simp only[];rw[<-d.cells.1,<-f.1];split;exact .none;refine k ?_;rw[<-Xr,<-Xr,Array.toList_zipIdx,Array.toList_zipIdx];exact Kg (GZ d.cells.toList 0) e f
def xp(a:List Field):(SR S (ah P fs) P) EqQ π (a.mapM λf=>do pure (f.offset,<-sizeOf f.type)) (a.mapM λf=>do pure (f.offset,<-sizeOf f.type)):=by induction a generalizing π with|nil=>exact ai rfl|cons f l c=>simp only[List.mapM_cons];refine SR.bind (R1:=EqQ) ((bJ f.type).bind ?_) ?_;rintro b l n _ rfl;exact ai rfl;rintro b e x _ rfl;refine c.bind ?_;rintro d g y _ rfl;exact ai rfl
def MQ{i j d e Q}{Q':Ren P.globals.size->d->e->Prop}{s t}{f:i->d}{g:j->e}(h:(SR S (ah P fs) P) Q π s t)(k:∀c a b,Q c a b->Q' c (f a) (g b)):(SR S (ah P fs) P) Q' π (Functor.map f s) (Functor.map g t):=by rw[map_eq_pure_bind,map_eq_pure_bind];exact h.bind λc l a b q=>ai (k _ _ _ q)
def MR(p:dH P)(t){g PS}(h:aY (lT π) g PS):(SR S (ah P fs) P) VQ π (Instr.build t g) (Instr.build t PS):=by (unfold Instr.build;refine(eD p t).bind ?_;rintro q l z _ ⟨rfl,m⟩;refine(aA t).bind ?_;rintro f s d _ ⟨rfl,_⟩;have h:aY (lT f) g PS:=(h.mono λ_ _ x=>⟨x.1,(x.2.mono l).mono s⟩));(have o:=h.toList;cases d<;>simp only[]<;>try exact aj);rename_i n elem _;refine(bJ _).bind ?_;rintro a j size _ rfl;have:=xo (λi=>some (i*size,size)) (o.mono λ_ _ (x:lT f _ _)=>(⟨x.1,x.2.mono j⟩:lT a _ _)) (m _ a).cells;revert this;(generalize Instr.fill _ _ _=u;generalize Instr.fill _ _ _=v;intro k;cases k with|none=>exact aj|some r=>exact ai (aw.Gy r));rename_i b _;refine SR.bind (R1:=EqQ) ?_ ?_;obtain⟨w⟩:=b;(rw[List.mapM_toArray];exact MQ (xp w) λ_ _ _ e=>by rw[show _=_ from e]);rintro a j c _ rfl;have:=xo (c[·]?) (o.mono λ_ _ (x:lT f _ _)=>(⟨x.1,x.2.mono j⟩:lT a _ _)) (m _ a).cells;revert this;generalize Instr.fill _ _ _=u;generalize Instr.fill _ _ _=v;intro k;cases k with|none=>exact aj|some r=>exact ai (aw.Gy r)
def zq(k:dH P)(t n){f PS}(h:aY (lT π) f PS):(SR S (ah P fs) P) VQ π (Instr.buildSlice t n f) (Instr.buildSlice t n PS):=by
 unfold Instr.buildSlice;refine(aA t).bind ?_;rintro c l d _ ⟨rfl,_⟩;have h:aY (lT c) f PS:=(h.mono λ_ _ x=>⟨x.1,(x.2.mono l)⟩)
 have m:=h.toList;cases d<;>simp only[]<;>try exact aj
 rename_i elem _;refine(bJ _).bind ?_;rintro e o size _ rfl;split;exact .never (aB (bK _))
 have key:∀(b:Ren P.globals.size),Ren.le e b->∀zero:Zq,bn zero->(SR S (ah P fs) P) VQ b
  (do let some cells:=Instr.fill (λi=>some (i*size,size)) ((Array.range (n*size)).map (zero[· %zero.size]!)) f.toList|stuck "buildSlice: a part of the wrong size"
      pure (.slice (some (<-newRow elem cells)) n n))
  (do let some cells:=Instr.fill (λi=>some (i*size,size)) ((Array.range (n*size)).map (zero[· %zero.size]!)) PS.toList|stuck "buildSlice: a part of the wrong size"
      pure (.slice (some (<-newRow elem cells)) n n)):=by
  intro b g zero j;have:=xo (λi=>some (i*size,size)) (m.mono λ_ _ (x:lT c _ _)=>(⟨x.1,(x.2.mono o).mono g⟩:lT b _ _)) ((j.spread (n*size) zero.size).refl b)
  revert this
  generalize Instr.fill _ _ _=u;generalize Instr.fill _ _ _=v;intro p;cases p with
  |none=>exact aj
  |some r=>refine(jc elem r).bind ?_;rintro q w a A s;exact ai (.slice _ _ s)
 split;exact key e (Ren.le_refl _) #[] .empty;refine(eD k elem).bind ?_;rintro b g z _ ⟨rfl,j⟩;exact key b g _ j.cells
def Ec{fn a f F c C}(h:FnR π fn a)(b:VsR π f F)(d:VsR π c C):(SR S (ah P fs) P) VQ π (Instr.makeFunc fn f c) (Instr.makeFunc a F C):=ai (.func h b.1 b.2 d.1 d.2)
def G3(t){r R}(h:dP (aw π) r R):(SR S (ah P fs) P) VQ π (Instr.makeMap t r) (Instr.makeMap t R):=by (unfold Instr.makeMap;have fin:∀b:Ren P.globals.size,(SR S (ah P fs) P) VQ b (do pure (.map (some (<-newObj (.map #[] 0)))):Sem Zj) (do pure (.map (some (<-newObj (.map #[] 0))))):=λb=>by refine(iv (.map 0 .empty)).bind ?_;rintro c j a A e;exact ai (.map e));cases h with|none=>exact fin _|some h=>(simp only[];refine(aA t).bind ?_;rintro f g d _ ⟨rfl,_⟩;cases d<;>simp only[]<;>try exact aj);refine(jM (h.mono g)).bind ?_;rintro i k _ _ _;exact fin _
def tV{v V}(t)(h:aw π v V):(SR S (ah P fs) P) VQ π (Instr.makeInterface t v) (Instr.makeInterface t V):=by unfold Instr.makeInterface;refine(aA t).bind ?_;rintro a b d _ ⟨rfl,_⟩;cases d<;>first|exact aj|exact ai (.iface t (h.mono b))
def Cc(k:dH P)(t){a A b B}(f:aw π a A)(m:aw π b B):(SR S (ah P fs) P) VQ π (Instr.makeSlice t a b) (Instr.makeSlice t A B):=by
 unfold Instr.makeSlice;refine(aA t).bind ?_;rintro o j d _ ⟨rfl,_⟩;cases d<;>simp only[]<;>try exact aj
 rename_i elem _;refine(jM (f.mono j)).bind ?_;rintro p q len _ rfl;refine(jM ((m.mono j).mono q)).bind ?_;rintro r x cap _ rfl;refine(dC elem).bind ?_;rintro g s i _ ⟨rfl,_⟩;have fin:∀(c:Ren P.globals.size) (n l:Nat) (zero:Zq),bn zero->(SR S (ah P fs) P) VQ c (do let a <-newRow elem ((Array.range n).map (zero[· %zero.size]!));pure (.slice (some a) l (IntKind.i64.wrap cap).toNat):Sem Zj)
  (do let a <-newRow elem ((Array.range n).map (zero[· %zero.size]!));pure (.slice (some a) l (IntKind.i64.wrap cap).toNat)):=by
  intro c n l zero h;refine(jc elem ((h.spread n zero.size).refl c)).bind ?_;rintro g s a A f;exact ai (.slice _ _ f)
 have e:∀(c:Ren P.globals.size),(SR S (ah P fs) P) VQ c (do
  askRoom ((IntKind.i64.wrap cap).toNat*i.bytes)
  let n:=(IntKind.i64.wrap cap).toNat*(<-sizeOf elem);let zero <-if n=0 then pure #[]else do pure (<-zeroValue elem).cells
  let a <-newRow elem ((Array.range n).map (zero[· %zero.size]!))
  pure (.slice (some a) (IntKind.i64.wrap len).toNat (IntKind.i64.wrap cap).toNat):Sem Zj) (do
  askRoom ((IntKind.i64.wrap cap).toNat*i.bytes)
  let n:=(IntKind.i64.wrap cap).toNat*(<-sizeOf elem);let zero <-if n=0 then pure #[]else do pure (<-zeroValue elem).cells
  let a <-newRow elem ((Array.range n).map (zero[· %zero.size]!))
  pure (.slice (some a) (IntKind.i64.wrap len).toNat (IntKind.i64.wrap cap).toNat)):=by
  intro c;refine(rn _).bind ?_;rintro u y _ _ _;refine(bJ elem).bind ?_;rintro v C D _ rfl;simp only[];split
  .exact fin _ _ _ #[] .empty
  .refine(eD k elem).bind ?_
   rintro w E z _ ⟨rfl,h⟩;exact fin _ _ _ _ h.cells
 split;split;exact .never (aB (aE _));split;exact .never (aB (aE _));exact .never (bI (.choose _) λa=>aB (aE _));exact e _
end
end Go.Tm

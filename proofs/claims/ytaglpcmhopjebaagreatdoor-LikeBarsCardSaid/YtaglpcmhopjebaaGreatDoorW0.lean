import GoSem.Step
import Derived.RunT
set_option linter.all false
set_option maxRecDepth 100000
set_option maxHeartbeats 20000000
theorem Go.ex{α:Sort _}(e:α):∃x,x=e:=⟨_,rfl⟩
abbrev Go.xv:=Go.World
abbrev Go.x6:=Go.Value
abbrev Go.UV:=ByteArray
abbrev Go.WZ:=Array Go.Value
abbrev Go.V4:=Go.Goroutine
abbrev Go.Value.i(n:Int):Go.Value:=.int .i64 n
def Go.Wt:=@if_neg
def Go.Wu:=@if_pos
def Go.Wv:=@Nat.le_refl
def Go.Ww:=@Nat.le_trans
def Go.Wx:=@Nat.lt_or_ge
def Go.Wy:=@Nat.lt_of_lt_of_le
def Go.Wz:=@decide_eq_false
def Go.WA:=@List.length_cons
def Go.WB:=@Nat.zero_le
def Go.WC:=@Array.getElem?_eq_some_iff
def Go.WE:=@decide_eq_true
def Go.WG:=@List.getElem_mem
def Go.WH:=@Nat.zero_add
def Go.WI:=@Bool.and_eq_true
def Go.WJ:=@List.length_drop
def Go.WK:=@Array.getElem?_setIfInBounds_ne
def Go.WL:=@if_true
def Go.WM:=@Nat.not_lt_zero
def Go.WN:=@List.getElem?_eq_getElem
def Go.WO:=@List.mem_cons
def Go.WQ:=@List.length_nil
def Go.WR:=@decide_eq_true_eq
def Go.WS:=@List.length_append
def Go.WT:=@Ne.symm
def Go.WU:=@if_false
def Go.WV:=@Option.some.inj
def Go.WW:=@Bool.false_eq_true
def Go.WX:=@List.size_toArray
def Go.WY:=@List.not_mem_nil
def Go.W4:=@Array.getElem?_eq_getElem
def Go.W5:=@beq_eq_false_iff_ne
def Go.W6:=@of_decide_eq_true
def Go.W7:=@or_false
def Go.W8:=@congrArg
def Go.W9:=@Array.size_setIfInBounds
def Go.Xa:=@List.length_map
def Go.Xb:=@Option.map_eq_some_iff
def Go.Xc:=@Nat.eq_zero_or_pos
def Go.Xd:=@Array.getElem?_map
def Go.Xe:=@List.all_eq_true
def Go.Xf:=@List.take_zero
def Go.Xg:=@List.drop_eq_nil_of_le
def Go.Xh:=@Array.getElem?_push_size
def Go.Xi:=@List.take_succ_cons
def Go.Xj:=@Nat.mul_one
def Go.Xk:=@List.getElem?_eq_some_iff
def Go.Xl:=@List.drop_zero
def Go.Xm:=@Option.map_some
def Go.Xn:=@List.drop_succ_cons
def Go.Xo:=@Option.some.injEq
def Go.Xp:=@List.eq_nil_of_length_eq_zero
def Go.Xq:=@List.getElem?_map
def Go.Xr:=@List.mem_of_getElem?
def Go.Xs:=@List.mem_toArray
def Go.Xt:=@Array.getElem?_setIfInBounds
def Go.Xu:=@Array.mem_of_getElem?
def Go.Xv:=@List.any_eq_true
def Go.Xw:=@beq_iff_eq
def Go.Xx:=@Array.getElem?_push
def Go.Xy:=@List.length_take
def Go.Xz:=@List.flatMap_cons
def Go.XB:=@Array.getElem?_modify
def Go.XC:=@Array.getD_eq_getD_getElem?
def Go.XD:=@Array.mem_append
def Go.XE:=@Nat.add_zero
def Go.XF:=@Array.getElem?_toList
def Go.XG:=@Nat.not_lt
def Go.XH:=@List.mem_map
def Go.XI:=@List.length_filter_le
def Go.XJ:=@List.append_nil
def Go.XK:=@Nat.lt_succ_self
def Go.XL:=@Int.ofNat_lt
def Go.XM:=@Array.append_assoc
def Go.XN:=@Classical.byContradiction
def Go.XO:=@List.getElem_of_mem
def Go.XP:=@Bool.eq_iff_iff
def Go.XQ:=@List.length_pos_iff
def Go.XR:=@List.append_assoc
def Go.XT:=@List.mem_append
def Go.XU:=@List.nil_append
def Go.XV:=@List.mem_iff_getElem?
def Go.XW:=@Bool.not_true
def Go.XX:=@List.filter_cons
def Go.XY:=@Array.empty_append
def Go.XZ:=@Nat.not_le
def Go.X0:=@Nat.le_of_eq
def Go.X3:=@Bool.or_eq_true
def Go.X4:=@List.isPrefixOf_iff_prefix
def Go.X6:=@Nat.succ_mul
def Go.X7:=@bne_iff_ne
def Go.Ya:=@List.mem_singleton
def Go.Yb:=@Nat.le_of_lt
def Go.Yc:=@Option.bind_eq_some_iff
def Go.Yd:=@Int.tmod_nonneg
def Go.Ye:=@Int.tmod_lt_of_pos
def Go.Yf:=@Array.getElem?_eq_none
def Go.Yg:=@List.length_eq_zero_iff
def Go.Yh:=@List.getElem?_append_left
def Go.Yi:=@Array.forIn_toList
def Go.Yj:=@Array.size_map
def Go.Yk:=@List.getElem_map
def Go.Yl:=@Option.getD_some
def Go.Ym:=@Nat.zero_mul
def Go.Yn:=@List.set_cons_succ
def Go.Yo:=@List.contains_iff_mem
def Go.Yp:=@List.mem_iff_getElem
def Go.Yq:=@List.take_length
def Go.Yr:=@List.map_append
def Go.Ys:=@Nat.add_assoc
def Go.Yt:=@ByteArray.size_extract
def Go.Yu:=@List.flatMap_append
def Go.Yv:=@Eq.comm
def Go.Yw:=@dif_pos
def Go.Yx:=@Iff.rfl
def Go.Yy:=@Nat.mod_eq_of_lt
def Go.Yz:=@ne_of_beq_false
def Go.YA:=@Bool.and_false
def Go.YB:=@List.length_set
def Go.YC:=@Array.all_eq_true'
def Go.YD:=@List.any_eq_false
def Go.YE:=@List.take_succ_eq_append_getElem
def Go.YF:=@Nat.succ_pos
def Go.YG:=@Int.le_refl
def Go.YH:=@Nat.add_comm
def Go.YI:=@Option.bind_some
def Go.YJ:=@Bool.not_false
def Go.YK:=@List.mem_append_left
def Go.YL:=@Array.mem_push_of_mem
def Go.YM:=@Nat.add_mul
def Go.YN:=@List.setIfInBounds_toArray
def Go.YO:=@List.set_cons_zero
def Go.YP:=@Array.getElem?_append
def Go.YQ:=@List.filter_append
def Go.YR:=@List.take_of_length_le
def Go.YT:=@List.drop_eq_getElem_cons
def Go.YU:=@List.mem_filter
def Go.YV:=@Array.append_singleton
def Go.YW:=@List.getElem_cons_zero
def Go.YX:=@List.mem_flatMap
def Go.YY:=@Bool.false_or
def Go.YZ:=@List.all_cons
def Go.Y0:=@List.mem_range
def Go.Y1:=@Array.mem_push
def Go.Y2:=@List.cons.injEq
def Go.Y3:=@List.pairwise_iff_getElem
def Go.Y4:=@Prod.mk.inj
def Go.Y5:=@Int.le_trans
def Go.Y6:=@Int.toNat_of_nonneg
def Go.Y7:=@Nat.le_antisymm
def Go.Y8:=@List.getElem?_toArray
def Go.Y9:=@Array.ext
def Go.Za:=@Array.getElem_mem
def Go.Zb:=@Bool.false_ne_true
def Go.Zc:=@List.drop_drop
def Go.Zd:=@Bool.true_and
def Go.Ze:=@List.range_succ
def Go.Zf:=@List.getElem?_drop
def Go.Zg:=@List.getElem?_append_right
def Go.Zh:=@Array.foldl_toList
def Go.Zi:=@decide_eq_decide
def Go.Zj:=@Int.toNat_natCast
def Go.Zk:=@List.cons_append
def Go.Zl:=@List.getD_eq_getElem?_getD
def Go.Zm:=@List.length_range
def Go.Zn:=@List.pairwise_cons
def Go.Zo:=@Nat.exists_eq_add_of_le
def Go.Zp:=@true_and
def Go.Zq:=@List.getElem?_set
def Go.Zr:=@Array.mem_iff_getElem?
def Go.Zs:=@Nat.lt_succ_of_lt
def Go.Zt:=@Option.ne_none_iff_exists'
def Go.Zu:=@Array.ext'
def Go.Zv:=@Nat.lt_irrefl
def Go.Zw:=@List.map_id
def Go.Zx:=@Nat.lt_of_le_of_lt
def Go.Zy:=@UInt8.toNat_inj
def Go.Zz:=@Bool.eq_false_iff
def Go.ZA:=@List.length_reverse
def Go.ZB:=@List.foldl_append
def Go.ZC:=@Decidable.byContradiction
def Go.ZD:=@List.mem_cons_of_mem
def Go.ZE:=@Array.mem_map
def Go.ZF:=@Array.append_empty
def Go.ZG:=@Nat.mul_le_mul_right
def Go.ZH:=@Nat.min_eq_left
def Go.ZI:=@of_decide_eq_false
def Go.ZJ:=@Decidable.em
def Go.ZK:=@Array.getElem?_setIfInBounds_self_of_lt
def Go.ZL:=@List.foldl_cons
def Go.ZM:=@Prod.mk.injEq
def Go.ZN:=@Bool.false_and
def Go.ZO:=@getElem!_pos
def Go.ZP:=@Array.mem_toList_iff
def Go.ZQ:=@List.getElem?_take
def Go.ZR:=@List.mem_take_iff_getElem
def Go.ZS:=@List.take_add_one
def Go.ZT:=@Array.toList_modify
def Go.ZU:=@Nat.mod_lt
def Go.ZV:=@Int.not_lt
def Go.ZW:=@Nat.lt_trichotomy
def Go.ZX:=@Array.getElem?_extract
def Go.ZY:=@Array.getElem_toList
def Go.ZZ:=@List.findIdx?_eq_none_iff
def Go.Z0:=@Bool.not_eq_true'
def Go.Z4:=@List.ne_nil_of_mem
def Go.Z5:=@List.mem_cons_self
def Go.Z6:=@Array.getElem?_replicate
def Go.Z7:=@Nat.pos_of_ne_zero
def Go.Z8:=@List.forIn_cons
def Go.Z9:=@Std.Legacy.Range.forIn_eq_forIn_range'
def Go.aaa:=@Array.replicate_succ
def Go.aab:=@List.map_cons
def Go.aac:=@List.mem_of_mem_drop
def Go.aad:=@List.mem_of_mem_take
def Go.aae:=@List.ext_getElem
def Go.aaf:=@Bool.or_assoc
def Go.aag:=@Array.toList_push
def Go.aah:=@List.mem_append_right
def Go.aai:=@List.any_append
def Go.aaj:=@Nat.le_add_right
def Go.aak:=@List.getElem_range
def Go.aal:=@Array.all_append
def Go.aam:=@Option.map_map
def Go.aan:=@Array.mem_append_left
def Go.aao:=@List.ext_getElem?
def Go.aap:=@Array.mk.injEq
def Go.aaq:=@List.mem_flatten
def Go.aar:=@List.eq_of_mem_replicate
def Go.aas:=@Option.any_some
def Go.aat:=@Int.tdiv_eq_ediv_of_nonneg
def Go.aau:=@List.mem_filterMap
def Go.aav:=@List.length_filterMap_le
def Go.aaw:=@Int.natCast_nonneg
def Go.aax:=@List.findIdx?_eq_some_iff_getElem
def Go.aay:=@Nat.add_sub_cancel_left
def Go.aaz:=@decide_eq_false_iff_not
def Go.aaA:=@List.getElem?_cons_zero
def Go.aaB:=@Array.toList_setIfInBounds
def Go.aaC:=@List.getLast?_cons_cons
def Go.aaD:=@Option.isSome_iff_exists
def Go.aaE:=@List.append_cancel_left_eq
def Go.aaF:=@Nat.mod_two_eq_zero_or_one
def Go.aaG:=@List.perm_ext_iff_of_nodup
def Go.aaH:=@Array.mem_or_eq_of_mem_setIfInBounds
def Go.aaI:=@Array.eq_empty_of_size_eq_zero
def Go.aaJ:=@List.length_filterMap_eq_countP
def Go.aaK:=@List.mem_or_eq_of_mem_set
def Go.aaL:=@Nat.succ_pred_eq_of_pos
namespace Go.Tm
structure Ren(G:Nat) where
 rel:Nat->Nat->Prop
 fn:∀r R R',rel r R->rel r R'->R=R'
 inj:∀r r' R,rel r R->rel r' R->r=r'
 dU:∀r R,rel r R->(r<G↔R<G)
instance{G:Nat}:CoeFun (Ren G) (λ_=>Nat->Nat->Prop):=⟨Ren.rel⟩
variable {G:Nat}
def Ren.le(π a:Ren G):Prop:=∀r s,π r s->a r s
def Ren.le_refl(π:Ren G):Ren.le π π:=λ_ _ h=>h
def Ren.le_trans{a b c:Ren G}(h:Ren.le a b)(d:Ren.le b c):Ren.le a c:=λ_ _ x=>d _ _ (h _ _ x)
inductive aW(π:Ren G):Addr->Addr->Prop
 |mk {r s o:Nat} {p:Option Nat}:π r s->aW π ⟨r,o,p⟩ ⟨s,o,p⟩
def aW.mono{π b:Ren G}(l:Ren.le π b){a A}(h:aW π a A):aW b a A:=by cases h with|mk h=>exact .mk (l _ _ h)
def lP:Nat:=74
inductive FnR(π:Ren G):Fn->Fn->Prop
 |func (f):f≠lP->FnR π (.func f) (.func f)
 |yield {l L:Nat}:π l L->FnR π (.yield l) (.yield L)
def FnR.mono{π b:Ren G}(l:Ren.le π b){a A}(h:FnR π a A):FnR b a A:=by cases h with|yield h=>exact .yield (l _ _ h)|func f h=>exact .func f h
def eO:x6->Bool
 | .pointer (some _)| .slice (some _) _ _| .map (some _)| .chan (some _)| .iface _ _=>true
 | .func (.method _) _ _=>false
 | .func _ _ _=>true
 |_=>false
inductive aD(π:Ren G):x6->x6->Prop
 |bool (b):aD π (.bool b) (.bool b)
 |int (k n):aD π (.int k n) (.int k n)
 |float (k b):aD π (.float k b) (.float k b)
 |complex (k a b):aD π (.complex k a b) (.complex k a b)
 |string (s):aD π (.string s) (.string s)
 |LG:aD π (.pointer none) (.pointer none)
 |ptr {a A:Addr}:aW π a A->aD π (.pointer (some a)) (.pointer (some A))
 |jv (l c):aD π (.slice none l c) (.slice none l c)
 |slice {a A:Addr} (l c):aW π a A->aD π (.slice (some a) l c) (.slice (some A) l c)
 |sC (A:Addr):aD π (.slice (some ⟨0,0,some 0⟩) 0 0) (.slice (some A) 0 0)
 |Ol:aD π (.map none) (.map none)
 |map {r R:Nat}:π r R->aD π (.map (some r)) (.map (some R))
 |Ui:aD π (.chan none) (.chan none)
 |chan {r R:Nat}:π r R->aD π (.chan (some r)) (.chan (some R))
 |func {fn FN:Fn} {f F c C:WZ}:FnR π fn FN->f.size=F.size->(∀(i:Nat) x X,f[i]? =some x->F[i]? =some X->aD π x X)->c.size=C.size->(∀(i:Nat) x X,c[i]? =some x->C[i]? =some X->aD π x X)->aD π (.func fn f c) (.func FN F C)
 |nilFunc:aD π .nilFunc .nilFunc
 |iface (t) {v V:x6}:aD π v V->aD π (.iface t v) (.iface t V)
 |nilIface:aD π .nilIface .nilIface
 |agg {c C:WZ}:c.size=C.size->(∀(i:Nat) x X,c[i]? =some x->C[i]? =some X->aD π x X)->aD π (.agg c) (.agg C)
 |tuple {c C:WZ}:c.size=C.size->(∀(i:Nat) x X,c[i]? =some x->C[i]? =some X->aD π x X)->aD π (.tuple c) (.tuple C)
 |nE (V):eO V=true->aD π (.tuple #[]) V
 |LH (n f c):aD π (.func (.method "") #[.nilIface] #[]) (.func (.method n) f c)
def aD.mono{π d:Ren G}(l:Ren.le π d){v V}(h:aD π v V):aD d v V:=by induction h with|ptr h=>exact .ptr (h.mono l)|slice a b h=>exact .slice a b (h.mono l)|map h=>exact .map (l _ _ h)|chan h=>exact .chan (l _ _ h)|func g i _ j _ k m=>exact .func (g.mono l) i k j m|iface t _ e=>exact .iface t e|agg s _ e=>exact .agg s e|tuple s _ e=>exact .tuple s e|nE V a=>exact .nE V a|LH n f c=>exact .LH n f c|sC A=>exact .sC A|_=>constructor
def bf{c d:Type}(R:c->d->Prop)(a:Array c)(b:Array d):Prop:=a.size=b.size/\∀(i:Nat) x y,a[i]? =some x->b[i]? =some y->R x y
def bf.mono{c d}{R R':c->d->Prop}{a b}(e:∀x y,R x y->R' x y)(h:bf R a b):bf R' a b:=⟨h.1,λi x y f g=>e _ _ (h.2 i x y f g)⟩
abbrev VsR(π:Ren G):WZ->WZ->Prop:=bf (aD π)
def aD.IZ{π:Ren G}{c C}(h:VsR π c C):aD π (.agg c) (.agg C):=.agg h.1 h.2
def aD.tuple'{π:Ren G}{c C}(h:VsR π c C):aD π (.tuple c) (.tuple C):=.tuple h.1 h.2
inductive bw{α β:Type}(R:α->β->Prop):List α->List β->Prop
 |nil:bw R [] []
 |cons {x y l m}:R x y->bw R l m->bw R (x::l) (y::m)
def bw.mono{c d}{R R':c->d->Prop}(e:∀x y,R x y->R' x y){a b}(h:bw R a b):bw R' a b:=by induction h with|nil=>exact .nil|cons h _ f=>exact .cons (e _ _ h) f
inductive et{α β:Type}(R:α->β->Prop):Option α->Option β->Prop
 |none:et R none none
 |some {x y}:R x y->et R (some x) (some y)
def et.mono{c d}{R R':c->d->Prop}(e:∀x y,R x y->R' x y){a b}(h:et R a b):et R' a b:=by cases h with|none=>exact .none|some h=>exact .some (e _ _ h)
def bw.length{c d R}{a:List c}{b:List d}(h:bw R a b):a.length=b.length:=by induction h with|nil=>rfl|cons _ _ e=>simp[e]
def bw.append{e f R}{a c:List e}{b d:List f}(h:bw R a b)(g:bw R c d):bw R (a++c) (b++d):=by induction h with|nil=>exact g|cons x _ i=>exact .cons x i
def bf.get{d e R}{a:Array d}{b:Array e}(h:bf R a b)(i:Nat):et R a[i]? b[i]? :=by obtain hi|hi:=Wx i a.size;have c:=h.1▸hi;rw[W4 hi,W4 c];exact .some (h.2 i _ _ (W4 hi) (W4 c));have c:b.size<=i:=h.1▸hi;rw[Yf hi,Yf c];exact .none
def bf.mW{c d R}{a:Array c}{b:Array d}(h:∀i:Nat,et R a[i]? b[i]?):bf R a b:=by refine⟨?_,λi x y e f=>?_⟩;obtain h1|h1|h1:=ZW a.size b.size;have:=h a.size;rw[Yf (Wv _),W4 h1]at this;cases this;exact h1;have:=h b.size;rw[Yf (Wv _),W4 h1]at this;cases this;have:=h i;rw[e,f]at this;cases this with|some r=>exact r
def bf.toList{e f R}{a:Array e}{b:Array f}(h:bf R a b):bw R a.toList b.toList:=by
 obtain⟨a⟩:=a;obtain⟨b⟩:=b;simp only[bf,WX,Y8]at h⊢;obtain⟨c,d⟩:=h;induction a generalizing b with
 |nil=>cases b with|nil=>exact .nil|cons _ _=>simp at c
 |cons x a g=>cases b with|nil=>simp at c|cons y b=>exact .cons (d 0 x y rfl rfl) (g b (by simpa using c) λi u v j k=>d (i+1) u v (by simpa using j) (by simpa using k))
def bw.get{c d R}{a:List c}{b:List d}(h:bw R a b)(i:Nat):et R a[i]? b[i]? :=by
 induction h generalizing i with
 |nil=>simpa using et.none
 |cons x _ e=>cases i with
  |zero=>simpa using et.some x
  |succ i=>simpa using e i
def bw.toArray{c d R}{a:List c}{b:List d}(h:bw R a b):bf R a.toArray b.toArray:=bf.mW λi=>by simpa using h.get i
def bf.push{c d R a b}(h:bf R a b){x:c}{y:d}(r:R x y):bf R (a.push x) (b.push y):=bf.mW λi=>by rw[Xx,Xx,h.1];split;exact .some r;exact h.get i
def bf.append{e f R}{a c:Array e}{b d:Array f}(h:bf R a b)(g:bf R c d):bf R (a++c) (b++d):=bf.mW λi=>by rw[YP,YP,h.1];split;exact h.get i;exact g.get _
def bf.set{c d R a b}(h:bf R a b)(i){x:c}{y:d}(r:R x y):bf R (a.setIfInBounds i x) (b.setIfInBounds i y):=bf.mW λj=>by rw[Xt,Xt,h.1];split;split;exact .some r;exact .none;exact h.get j
def bf.extract{c d R}{a:Array c}{b:Array d}(h:bf R a b)(i j):bf R (a.extract i j) (b.extract i j):=bf.mW λk=>by rw[ZX,ZX,h.1];split;exact h.get _;exact .none
def bf.empty{a b R}:bf R (#[]:Array a) (#[]:Array b):=⟨rfl,λi x y h=>by simp at h⟩
def bf.map{j k d e R}{S:d->e->Prop}{a b}(h:bf R a b){f:j->d}{g:k->e}(l:∀x y,R x y->S (f x) (g y)):bf S (a.map f) (b.map g):=bf.mW λi=>by rw[Xd,Xd];have c:=h.get i;revert c;generalize a[i]? =u;generalize b[i]? =v;intro c;cases c with|none=>exact .none|some r=>exact .some (l _ _ r)
def bf.refl{b}{R:b->b->Prop}{a}(h:∀x,x∈a->R x x):bf R a a:=⟨rfl,λi x y c d=>by rw[c]at d;cases d;exact h x (Xu c)⟩
end Go.Tm
namespace Go.Tm
variable {G:Nat}
structure jw(π:Ren G)(e E:MapEntry):Prop where
 key:aD π e.key E.key
 val:aD π e.val E.val
 born:e.born=E.born
inductive rG(π:Ren G):Deferred->Deferred->Prop
 |mk {r R:Nat}:π r R->rG π ⟨.collected r,#[]⟩ ⟨.collected R,#[]⟩
def ic:x6->Bool
 | .bool _| .int .. | .float .. | .complex .. | .string _| .pointer none| .slice none _ _| .map none| .chan none| .nilFunc| .nilIface=>true
 | .tuple c=>c.isEmpty
 |_=>false
def K4:Question->Bool
 | .order _ _=>true
 |_=>false
def Om{q}(h:K4 q=false)(f id):q≠ .order f id:=λe=>by rw[e]at h;cases h
structure Kn where
 dU:Nat->Bool
 ent:Nat->Bool
 stop:Nat->Bool
 own:Nat->Bool
def Kn.free(S:Kn)(q:Question):Prop:=∀f a,q=.order f a->S.own f=false
def Kn.ie(S:Kn)(g:Question->Nat):Prop:=∀f a,S.own f=true->g (.order f a)=0
def Kn.calm(S:Kn)(g:Question->Nat):Prop:=∀f a,S.ent f=true->S.own f=true->g (.order f a)=0
noncomputable def only(q:Question)(n:Nat):Question->Nat:=open Classical in λa=>if a=q then n else 0
def uS(q n):only q n q=n:=Wu rfl
def BI{S:Kn}{q}(h:S.free q)(n):S.ie (only q n):=λf b a=>by unfold only;refine Wt λe=>?_;rw[h f b e.symm]at a;cases a
def I0{S:Kn}{f:FuncId}(h:S.ent f=true){g}(c:S.calm g)(a):S.ie (only (.order f a) (g (.order f a))):=λd b i=>by unfold only;by_cases e:Question.order d b=.order f a;rw[Wu e];cases e;exact c f a h i;exact Wt e
def nF{S:Kn}:S.ie (λ_=>0):=λ_ _ _=>rfl
def cW(S:Kn):Operand->Bool
 | .tmp _=>true
 | .func f=>f !=lP
 | .const v=>ic v
 | .global g=>S.dU g
def qS:Builtin->Bool
 | .append| .cap| .copy| .len| .max| .min| .unsafeString| .panic=>true
 |_=>false
def lQ(S:Kn):Op->Bool
 | .call ⟨.value (.func f),args,_⟩=>f==lP&&args.size==1&&args.all (cW S)
 |_=>false
def Du(S:Kn)(o:Op):Bool:=
 lQ S o||(match o with
 | .move _| .assign _| .pick .. | .alloc _| .box .. | .build .. | .buildSlice .. | .insert .. | .load .. | .store .. | .nilCheck _| .binOp .. | .unOp .. | .makeInterface .. | .makeMap .. | .makeSlice .. | .slice ..
 | .fieldAddr .. | .field .. | .indexAddr .. | .index .. | .lookup .. | .mapUpdate .. | .mapEntry .. | .entryStore .. | .range .. | .next .. | .entry _| .extract .. | .panic _=>true
 | .makeFunc (.func f) _ _=>f !=lP
 | .convert s d _=>s !=d
 | .call ⟨.value _,_,_⟩=>true
 | .call ⟨.builtin b,_,_⟩=>qS b
 |_=>false)&&o.operands.all (cW S)
def codeOk(S:Kn):Code->Bool
 | .skip| .exit _| .label _| .goto _| .ret| .refuse _=>true
 | .region _ ops _=>ops.all λo=>Du S o.op
 | .seq a b=>codeOk S a&&codeOk S b
 | .cond c a b=>cW S c&&codeOk S a&&codeOk S b
 | .block _ b| .loop b| .scope b=>codeOk S b
 | .rangeFunc f _ a b=>cW S f&&codeOk S a&&codeOk S b
def Kn.code(S:Kn)(c:Code):Prop:=codeOk S c=true
def sG:TypeId:=1000000
def Uj:Op->Bool
 | .call ⟨.builtin .unsafeSliceData,_,_⟩=>true
 |_=>false
def opD(S:Kn)(o:Op):Bool:=Du S o||(match o with
 | .call ⟨.builtin .unsafeSliceData,args,_⟩=>args.all (cW S)
 |_=>false)
def df(o:Oper):Oper:=if Uj o.op then{o with type:=sG}else o
def iK:Code->Code
 | .region e ops d=>.region e (ops.map df) d
 | .seq a b=>.seq (iK a) (iK b)
 |c=>c
def jy(S:Kn):Code->Bool
 | .region _ ops _=>ops.all λo=>opD S o.op
 | .seq a b=>jy S a&&jy S b
 |c=>codeOk S c
def Fv{S:Kn}{o}(h:Du S o=true):Uj o=false:=by
 cases o with
 |call c=>
  obtain⟨k,a,t⟩:=c;cases k with
  |builtin b=>cases b<;>first|rfl|(simp[Du,lQ,qS]at h;done)
  |_=>rfl
 |_=>rfl
theorem iL{S:Kn}:∀{c},codeOk S c=true->iK c=c/\jy S c=true
 | .region g ops d,h=>by
  simp only[codeOk]at h;rw[YC]at h;refine⟨?_,?_⟩
  .show Code.region g (ops.map df) d=_
   have e:ops.map df=ops:=by refine Y9 (by simp) λi q f=>?_;rw[Array.getElem_map];unfold df;rw[Wt];rw[Fv (h _ (Za f))];simp
   rw[e]
  .simp only[jy]
   rw[YC];exactλo j=>by unfold opD;rw[h o j];rfl
 | .seq a b,h=>by simp only[codeOk,WI]at h;obtain⟨k,m⟩:=iL h.1;obtain⟨n,p⟩:=iL h.2;exact⟨by simp only[iK,k,n],by simp only[jy,m,p,Bool.and_self]⟩
 | .skip,h| .exit _,h| .label _,h| .goto _,h| .ret,h| .refuse _,h| .cond ..,h| .rangeFunc ..,h| .block ..,h| .loop _,h| .scope _,h=>⟨rfl,h⟩
structure Fw(S:Kn)(π:Ren G)(l L:Loop):Prop where
 state:l.state=L.state
 pending:l.pending=L.pending
 VN:∀c,l.pending=some c->S.code c
 fn:l.fn=L.fn
 ent:S.ent l.fn=true
 tmps:VsR π l.tmps L.tmps
 params:l.params=L.params
 assign:l.assign=L.assign
 Uk:S.code l.assign
 body:l.body=L.body
 Ul:S.code l.body
 defers:π l.defers L.defers
def LI(n:Nat)(f F:Nat×Nat):Prop:=F=f\/(f.1=0/\n<f.2/\F.2<=f.2)
def grow(f:Nat×Nat)(off n:Nat):Nat×Nat:=if f.1==f.2 then(off,off+n)else(min f.1 off,max f.2 (off+n))
def Fle(f F:Nat×Nat):Prop:=F=f\/(F.1<F.2/\(f.1=f.2\/(F.1<=f.1/\f.2<=F.2)))
def Fle.refl(f):Fle f f:=.inl rfl
def Fle.trans{a b c}(h:Fle a b)(e:Fle b c):Fle a c:=by obtain rfl|⟨f,h2⟩:=h;exact e;obtain rfl|⟨g,d⟩:=e;exact .inr ⟨f,h2⟩;refine .inr ⟨g,?_⟩;obtain h2|h2:=h2;exact .inl h2;rcases d with d|d<;>omega
def Fle.back{a b}(h:Fle a b)(c:Fle b a):b=a:=by obtain h|⟨d,e⟩:=h;exact h;obtain c|⟨f,g⟩:=c;exact c.symm;(have:b.1=a.1/\b.2=a.2:=by omega);exact Prod.ext this.1 this.2
def On(f off n)(a:n≠0):Fle f (grow f off n):=by unfold grow;by_cases h:f.1=f.2;rw[Wu (by simpa using h)];exact .inr ⟨by simp;omega,.inl h⟩;rw[Wt (by simpa using h)];exact .inr ⟨by simp;omega,.inr (by simp;omega)⟩
inductive gL(S:Kn)(π:Ren G):Obj->Obj->Prop
 |cells {c C:WZ} (e:TypeId) {f F:Nat×Nat}:VsR π c C->LI c.size f F->gL S π (.cells c e f) (.cells C e F)
 |map {es ES:Array MapEntry} (n:Nat):bf (jw π) es ES->gL S π (.map es n) (.map ES n)
 |stringIter (s p):gL S π (.stringIter s p) (.stringIter s p)
 |gi (a b c):gL S π (.mapIter none a b c) (.mapIter none a b c)
 |mapIter {m M:Nat} (a b c):π m M->gL S π (.mapIter (some m) a b c) (.mapIter (some M) a b c)
 |loop {l L:Loop}:Fw S π l L->gL S π (.loop l) (.loop L)
 |deferred:gL S π (.deferred (some [])) (.deferred (some []))
 |fv:gL S π (.deferred none) (.deferred none)
 |number {a A:Addr} (l:Bool):aW π a A->gL S π (.number a l) (.number A l)
 |view {a A:Addr} (t:TypeId):aW π a A->gL S π (.view a t) (.view A t)
section mono
variable {S:Kn} {π π':Ren G} (l:Ren.le π π')
include l
def VsR.mono{c C:WZ}(h:VsR π c C):VsR π' c C:=bf.mono (λ_ _ x=>x.mono l) h
def jw.mono{e E:MapEntry}(h:jw π e E):jw π' e E:=⟨h.key.mono l,h.val.mono l,h.born⟩
def rG.mono{e E:Deferred}(h:rG π e E):rG π' e E:=by cases h with|mk a=>exact .mk (l _ _ a)
def Fw.mono{e E:Loop}(h:Fw S π e E):Fw S π' e E:={h with tmps:=VsR.mono l h.tmps,defers:=l _ _ h.defers}
def gL.mono{o O:Obj}(h:gL S π o O):gL S π' o O:=by cases h with|cells e h f=>exact .cells e (VsR.mono l h) f|map n h=>exact .map n (bf.mono (λ_ _ x=>x.mono l) h)|stringIter=>exact .stringIter _ _|gi=>exact .gi _ _ _|mapIter a b c h=>exact .mapIter a b c (l _ _ h)|loop h=>exact .loop (h.mono l)|deferred=>exact .deferred|fv=>exact .fv|number b h=>exact .number b (h.mono l)|view t h=>exact .view t (h.mono l)
end mono
structure bE(S:Kn)(Pr:Nat->Prop)(π:Ren G)(w W:xv):Prop where
 obj:∀r R,π r R->∃o O,w.heap[r]? =some o/\W.heap[R]? =some O/\gL S π o O
 xM:∀r R,π r R->Pr R->∃c e f,w.heap[r]? =some (.cells c e f)/\f.1=0/\c.size<f.2
 yy:∀R,Pr R->R<W.heap.size
 gw:G<=w.heap.size
 gW:G<=W.heap.size
 w0:∃c e f,w.heap[0]? =some (.cells c e f)
def aw(w:xv)(τ:Nat->Question->Nat)(d:Nat):xv:={w with tape:=τ,drawn:=d}
def Fits(τ:Nat->Question->Nat)(d:Nat)(l:List (Question->Nat)):Prop:=∀i g,l[i]? =some g->τ (d+i)=g
def Fits.head{τ d g l}(h:Fits τ d (g::l)):τ d=g:=h 0 g rfl
def Fits.tail{τ d g l}(h:Fits τ d (g::l)):Fits τ (d+1) l:=λi g' a=>by have:=h (i+1) g' (by simpa using a);rw[show d+1+i=d+(i+1) by omega];exact this
def mX(d:Nat)(l:List (Question->Nat)):Nat->Question->Nat:=λn=>(l[n-d]?).getD λ_=>0
def mF(d l):Fits (mX d l) d l:=λi g h=>by unfold mX;rw[show d+i-d=i by omega,h];rfl
structure Chg(Pr:Nat->Prop)(π:Ren G)(W W':xv)(π':Ren G):Prop where
 os:W'.os=W.os
 tape:W'.tape=W.tape
 output:W'.output=W.output
 size:W.heap.size<=W'.heap.size
 keep:∀b,b<W.heap.size->(¬∃r,π r b)->W'.heap[b]? =W.heap[b]?
 pD:∀b,Pr b->∀c e F,W.heap[b]? =some (Obj.cells c e F)->∃F',W'.heap[b]? =some (Obj.cells c e F')
 fz:∀(b:Nat) c e F,W.heap[b]? =some (Obj.cells c e F)->∃c' F',W'.heap[b]? =some (Obj.cells c' e F')/\Fle F F'
 old:∀r R,π' r R->π r R\/W.heap.size<=R
 new:∀R,W.heap.size<=R->R<W'.heap.size->∃r,π' r R
 le:Ren.le π π'
def Chg.refl(Pr)(π:Ren G)(W):Chg Pr π W W π:=⟨rfl,rfl,rfl,Wv _,λ_ _ _=>rfl,λ_ _ _ _ F h=>⟨F,h⟩,λ_ c _ F h=>⟨c,F,h,.refl _⟩,λ_ _ h=>.inl h,λ_ a b=>absurd b (XG.2 a),λ_ _ h=>h⟩
def Chg.trans{Pr}{π π' π'':Ren G}{W j g}(h:Chg Pr π W j π')(d:Chg Pr π' j g π''):Chg Pr π W g π'':=by refine⟨d.os.trans h.os,d.tape.trans h.tape,d.output.trans h.output,Ww h.size d.size,λb f q=>?_,λb f c e F k=>?_,λb c e F k=>?_,λr R i=>?_,λR a b=>?_,Ren.le_trans h.le d.le⟩;rw[d.keep b (Wy f h.size) ?_,h.keep b f q];(exactλ⟨r,i⟩=>(h.old r b i).elim (λx=>q ⟨r,x⟩) λx=>absurd f (XG.2 x));obtain⟨m,n⟩:=h.pD b f c e F k;exact d.pD b f c e m n;obtain⟨c',m,n,s⟩:=h.fz b c e F k;obtain⟨o,p,t,u⟩:=d.fz b c' e m n;exact⟨o,p,t,s.trans u⟩;obtain x|x:=d.old r R i;exact h.old r R x;exact .inr (Ww h.size x);obtain x|x:=Wx R j.heap.size;obtain⟨r,i⟩:=h.new R a x;exact⟨r,d.le _ _ i⟩;exact d.new R x b
def mE(Pr:Nat->Prop)(π:Ren G)(e:Event):Prop:=
 match e.loc with
 | .cell A=>e.sync=false/\(∃r,π r A.block)/\(e.write=true->¬Pr A.block)
 | .obj R=>e.sync=false/\(∃r,π r R)/\(e.write=true->¬Pr R)
 | .mark (.extern _)=>True
 | .mark .noRoom=>True
 |_=>False
def mE.mono{Pr}{π π':Ren G}(l:Ren.le π π'){e}(h:mE Pr π e):mE Pr π' e:=by unfold mE at*;split<;>simp_all;obtain⟨_,⟨r,a⟩,_⟩:=h;exact⟨r,l _ _ a⟩;obtain⟨_,⟨r,a⟩,_⟩:=h;exact⟨r,l _ _ a⟩
def iA:Halt->Prop
 | .panic _| .stuck _=>True
 | .unsupported (.initOrder _)=>False
 | .unsupported _=>True
 |_=>False
def pE(w w':xv):Prop:=∀(r:Nat) (o:Obj),w.heap[r]? =some o->w'.heap[r]? =some o
def pE.refl(w):pE w w:=λ_ _ h=>h
def pE.trans{a b c}(h:pE a b)(d:pE b c):pE a c:=λr o x=>d r o (h r o x)
def dg{c}(s:Sem c):Prop:=∀(P:Program) (w:xv) (es:Array Event),(∃a w' b,s.runT P w es=(.ok a w',b)/\pE w w')\/∃h w' b,s.runT P w es=(.halt h w',b)/\iA h/\pE w w'
def ey{b}(s:Sem b):Prop:=∀(P:Program) (w:xv) (es:Array Event),∃h w' a,s.runT P w es=(.halt h w',a)/\iA h/\pE w w'
def ey.halt{a:Type}(h:Halt)(b:iA h:=by exact True.intro):ey (Sem.halt h:Sem a):=λ_ w es=>⟨h,w,es,rfl,b,.refl _⟩
def runT_bind'{e g}(P)(f:e->Sem g)(s:Sem e):∀(w) (es),(∃a w' d,s.runT P w es=(.ok a w',d)/\(s.bind f).runT P w es=(f a).runT P w' d)\/(∃h w' d,s.runT P w es=(.halt h w',d)/\(s.bind f).runT P w es=(.halt h w',d)):=by
 induction s with
 |pure a=>exactλw es=>.inl ⟨a,w,es,rfl,rfl⟩
 |load m a k b=>intro w es;simp only[Sem.bind,Sem.runT];cases w.cell? a with|some v=>exact b v w _|none=>simp only[];cases w.farLoad P a (m== .atomic)with|ok r=>exact b r.1 w _|error h=>exact .inr ⟨h,w,es,rfl,rfl⟩
 |store m a v k b=>intro w es;cases v with|agg=>exact .inr ⟨_,w,es,rfl,rfl⟩|tuple=>exact .inr ⟨_,w,es,rfl,rfl⟩|_=>simp only[Sem.bind,Sem.runT];cases w.cell? a with|some v=>simp only[];split;exact .inr ⟨_,w,es,rfl,rfl⟩;exact b _ _|none=>simp only[];split;exact b _ _;exact .inr ⟨_,w,es,rfl,rfl⟩
 |new o k b=>exactλw es=>b _ _ _
 |shape r k b=>exactλw es=>b _ _ _
 |freeze a n k b=>exactλw es=>b _ _
 |frozen a k b=>exactλw es=>b _ _ _
 |getObj r k b=>intro w es;simp only[Sem.bind,Sem.runT];split;exact .inr ⟨_,w,es,rfl,rfl⟩;exact b _ _ _;exact .inr ⟨_,w,es,rfl,rfl⟩
 |setObj r o k b=>intro w es;simp only[Sem.bind,Sem.runT];split;exact .inr ⟨_,w,es,rfl,rfl⟩;exact b _ _;exact .inr ⟨_,w,es,rfl,rfl⟩
 |choose q k b=>intro w es;simp only[Sem.bind,Sem.runT];split;exact b _ _ _;exact b _ _ _
 |sys c k b=>exactλw es=>b _ _ _
 |program k b=>exactλw es=>b _ _ _
 |mark m k b=>exactλw es=>b _ _
 |halt h=>exactλw es=>.inr ⟨h,w,es,rfl,rfl⟩
def fw{p q}(s)(f:p->Sem q)(c:ey s\/(dg s/\∀a,ey (f a))):ey (s>>= f):=by show ey (s.bind f);intro P w es;obtain⟨a,w1,e,d,m⟩|⟨h,w1,e,d,m⟩:=runT_bind' P f s w es;rw[m];obtain c|⟨n,c⟩:=c;obtain⟨h,w2,b,g,_⟩:=c P w es;rw[d]at g;simp at g;obtain⟨h,w3,o,r,i,j⟩:=c a P w1 e;obtain⟨t,w2,b,g,k⟩|⟨h,w2,b,g,_⟩:=n P w es;rw[d]at g;cases g;exact⟨h,w3,o,r,i,k.trans j⟩;rw[d]at g;simp at g;rw[m];obtain c|⟨n,c⟩:=c;obtain⟨u,w2,b,g,i,j⟩:=c P w es;rw[d]at g;cases g;exact⟨_,_,_,rfl,i,j⟩;obtain⟨t,w2,b,g,k⟩|⟨u,w2,b,g,i,j⟩:=n P w es;rw[d]at g;simp at g;rw[d]at g;cases g;exact⟨_,_,_,rfl,i,j⟩
def ey.Um{a}{s:Sem a}(h:ey s):dg s:=λP w es=>.inr (h P w es)
def dg.bind{q r s}{f:q->Sem r}(h:dg s)(t:∀a,dg (f a)):dg (s>>= f):=by show dg (s.bind f);intro P w es;obtain⟨a,w1,e,i,m⟩|⟨v,w1,e,i,m⟩:=runT_bind' P f s w es;rw[m];obtain⟨u,w2,c,g,k⟩|⟨n,w2,c,g,_⟩:=h P w es;rw[i]at g;cases g;obtain⟨b,w3,d,o,j⟩|⟨n,w3,d,o,j,p⟩:=t a P w1 e;exact .inl ⟨b,w3,d,o,k.trans j⟩;exact .inr ⟨n,w3,d,o,j,k.trans p⟩;rw[i]at g;simp at g;rw[m];obtain⟨u,w2,c,g,k⟩|⟨n,w2,c,g,j,p⟩:=h P w es;rw[i]at g;simp at g;rw[i]at g;cases g;exact .inr ⟨_,_,_,rfl,j,p⟩
def dg.pure{b}(a):dg (Pure.pure a:Sem b):=λ_ w es=>.inl ⟨a,w,es,rfl,.refl _⟩
def dg.ite{a c}[Decidable c]{s t:Sem a}(h:dg s)(b:dg t):dg (if c then s else t):=by split<;>assumption
def dg.stuck{a}(m):dg (Go.stuck m:Sem a):=(ey.halt _).Um
def dg.unsupported{a:Type}(u:Unsupported)(h:iA (.unsupported u):=by exact True.intro):dg (Go.unsupported u:Sem a):=(ey.halt _ h).Um
def dg.program:dg Go.program:=λP w es=>.inl ⟨P,w,es,rfl,.refl _⟩
def dg.choose(q):dg (Go.choose q):=by intro P w es;by_cases h:q.forced=true;exact .inl ⟨0,w,es,by simp[Go.choose,Sem.runT,h],.refl _⟩;exact .inl ⟨_,{w with drawn:=w.drawn+1},es,by simp[Go.choose,Sem.runT,h];rfl,λ_ _ h=>h⟩
def dg.shape(r):dg (Go.shape r):=λ_ w es=>.inl ⟨_,w,es,rfl,.refl _⟩
def dg.frozen(a):dg (Go.frozen a):=λ_ w es=>.inl ⟨_,w,es,rfl,.refl _⟩
def dg.mark(m):dg (Go.mark m):=λ_ w _=>.inl ⟨_,w,_,rfl,.refl _⟩
def dg.newObj(o):dg (Go.newObj o):=λ_ w es=>.inl ⟨_,_,es,rfl,λr x h=>by have:=(WC.1 h).1;simp only[Xx];rw[Wt (by omega)];exact h⟩
def Oo{e}(a:Ask e):∀w:xv,(w.ask a).2.heap=w.heap:=by induction a with|done a=>exactλ_=>rfl|ask c b k d=>intro w;simp only[World.ask];split;exact d _ _;exact(d _ _).trans rfl
def Oq(w:xv)(c):(w.sys c).2.heap=w.heap:=by unfold World.sys;have:=Oo (Kernel.perform c w.os) w;split;rfl;rename_i h;rw[h]at this;exact this
def dg.sys(c):dg (Go.sys c):=λ_ w es=>.inl ⟨_,(w.sys c).2,_,rfl,λr x h=>by rw[Oq];exact h⟩
inductive SR(S:Kn)(PS P:Program){α β:Type}(Q:Ren G->α->β->Prop):Ren G->Sem α->Sem β->Prop
 |pure {π a b}:Q π a b->SR S PS P Q π (.pure a) (.pure b)
 |load {π a A k K}:aW π a A->(∀v V,aD π v V->SR S PS P Q π (k v) (K V))->SR S PS P Q π (.load .plain a k) (.load .plain A K)
 |store {π a A v V k K}:aW π a A->aD π v V->SR S PS P Q π k K->SR S PS P Q π (.store .plain a v k) (.store .plain A V K)
 |new {π o O k K}:gL S π o O->(∀π' r R,Ren.le π π'->π' r R->SR S PS P Q π' (k r) (K R))->SR S PS P Q π (.new o k) (.new O K)
 |shape {π r R k K}:π r R->(∀s,SR S PS P Q π (k s) (K s))->SR S PS P Q π (.shape r k) (.shape R K)
 |freeze {π a A n k K}:aW π a A->SR S PS P Q π k K->SR S PS P Q π (.freeze a n k) (.freeze A n K)
 |frozen {π a A k K}:aW π a A->(∀b B:Bool,(B=true->b=true)->SR S PS P Q π (k b) (K B))->SR S PS P Q π (.frozen a k) (.frozen A K)
 |getObj {π r R k K}:π r R->(∀o O,gL S π o O->SR S PS P Q π (k o) (K O))->SR S PS P Q π (.getObj r k) (.getObj R K)
 |setObj {π r R o O k K}:π r R->(∀c e f,o≠ .cells c e f)->gL S π o O->SR S PS P Q π k K->SR S PS P Q π (.setObj r o k) (.setObj R O K)
 |choose {π q k K}:S.free q->(∀n,SR S PS P Q π (k n) (K n))->SR S PS P Q π (.choose q k) (.choose q K)
 |program {π k K}:SR S PS P Q π (k PS) (K P)->SR S PS P Q π (.program k) (.program K)
 |lR {π k s'}:SR S PS P Q π (k PS) s'->SR S PS P Q π (.program k) s'
 |extern {π f k K}:SR S PS P Q π k K->SR S PS P Q π (.mark (.extern f) k) (.mark (.extern f) K)
 |noRoom {π k K}:SR S PS P Q π k K->SR S PS P Q π (.mark .noRoom k) (.mark .noRoom K)
 |ov {π q k s' n} (t:Nat):S.free q->(if q.forced then n=0 else q.cut t=n)->SR S PS P Q π (k n) s'->SR S PS P Q π (.choose q k) s'
 |uT {π s r K}:(∀x,SR S PS P Q π s (K x))->SR S PS P Q π s (.shape r K)
 |uU {π k s'}:(∀x,SR S PS P Q π (k (some x)) s')->SR S PS P Q π (.shape 0 k) s'
 |qT {π s a K}:(∀x,SR S PS P Q π s (K x))->SR S PS P Q π s (.frozen a K)
 |never {π s s'}:ey s->SR S PS P Q π s s'
def SR.bind{S i P k m p u R1 Q}{π:Ren G}{s s'}{f:k->Sem p}{F:m->Sem u} (h:SR S i P R1 π s s') (d:∀π',Ren.le π π'->∀a b,R1 π' a b->SR S i P Q π' (f a) (F b)):SR S i P Q π (s>>= f) (s'>>= F):=by show SR S i P Q π (s.bind f) (s'.bind F);induction h with|pure q=>exact d _ (Ren.le_refl _) _ _ q|load a _ c=>exact .load a λv V w=>c v V w d|store a v _ c=>exact .store a v (c d)|new o _ c=>exact .new o λπ' r R l x=>c π' r R l x λg y=>d g (Ren.le_trans l y)|shape r _ c=>exact .shape r λs=>c s d|freeze a _ c=>exact .freeze a (c d)|frozen a _ c=>exact .frozen a λb B x=>c b B x d|getObj r _ c=>exact .getObj r λo O x=>c o O x d|setObj r n o _ c=>exact .setObj r n o (c d)|choose j _ c=>exact .choose j λn=>c n d|program _ c=>exact .program (c d)|lR _ c=>exact .lR (c d)|extern _ c=>exact .extern (c d)|noRoom _ c=>exact .noRoom (c d)|ov t j e _ c=>exact .ov t j e (c d)|uT _ c=>exact .uT λx=>c x d|uU _ c=>exact .uU λx=>c x d|qT _ c=>exact .qT λx=>c x d|never n=>exact .never (fw _ _ (.inl n))
def SR.mono{S i P j k Q Q'}{π:Ren G}{s:Sem j}{s':Sem k} (h:SR S i P Q π s s') (d:∀π',Ren.le π π'->∀a b,Q π' a b->Q' π' a b):SR S i P Q' π s s':=by induction h with|pure q=>exact .pure (d _ (Ren.le_refl _) _ _ q)|load a _ c=>exact .load a λv V m=>c v V m d|store a v _ c=>exact .store a v (c d)|new o _ c=>exact .new o λπ' r R l x=>c π' r R l x λf p=>d f (Ren.le_trans l p)|shape r _ c=>exact .shape r λs=>c s d|freeze a _ c=>exact .freeze a (c d)|frozen a _ c=>exact .frozen a λb B x=>c b B x d|getObj r _ c=>exact .getObj r λo O x=>c o O x d|setObj r n o _ c=>exact .setObj r n o (c d)|choose g _ c=>exact .choose g λn=>c n d|program _ c=>exact .program (c d)|lR _ c=>exact .lR (c d)|extern _ c=>exact .extern (c d)|noRoom _ c=>exact .noRoom (c d)|ov t g e _ c=>exact .ov t g e (c d)|uT _ c=>exact .uT λx=>c x d|uU _ c=>exact .uU λx=>c x d|qT _ c=>exact .qT λx=>c x d|never n=>exact .never n
end Go.Tm
namespace Go.Tm
variable {G:Nat} {S:Kn} {Pr:Nat->Prop} {π:Ren G} {w W:xv}
def ai(P:Program)(fs:Array Func):Program:={P with funcs:=fs}
def LJ(P fs t):(ai P fs).info? t=P.info? t:=rfl
def kD(P fs t):(ai P fs).underlying t=P.underlying t:=rfl
def ir(P fs):∀(d) (t) (off),byteOfCell (ai P fs) d t off=byteOfCell P d t off:=by intro d;induction d with|zero=>exactλ_ _=>rfl|succ d a=>intro t off;unfold byteOfCell;simp only[a];rfl
def uV(P fs):∀(d) (t) (off),cellHolding (ai P fs) d t off=cellHolding P d t off:=by intro d;induction d with|zero=>exactλ_ _=>rfl|succ d a=>intro t off;unfold cellHolding;simp only[a];rfl
def yz(P fs):∀(d) (t) (off),plainCell (ai P fs) d t off=plainCell P d t off:=by intro d;induction d with|zero=>exactλ_ _=>rfl|succ d a=>intro t off;unfold plainCell;simp only[a];rfl
def I1(P fs):∀(d) (t),tight (ai P fs) d t=tight P d t:=by intro d;induction d with|zero=>exactλ_=>rfl|succ d a=>intro t;unfold tight;simp only[a];rfl
def aD.bytes{v V}(h:aD π v V){bs}(a:v.bytes?=some bs):V=v:=by cases h<;>first|rfl|(simp[Value.bytes?]at a)
def rH{v x bs}(h:v.ofBytes bs=some x):aD π x x/\∀V,aD π v V->V=v:=by (cases v<;>simp only[Value.ofBytes]at h;case bool=>refine⟨?_,λV a=>by cases a;rfl⟩;split at h<;>first|(cases h;constructor)|cases h);(case int=>refine⟨?_,λV a=>by cases a;rfl⟩;split at h<;>first|(cases h;constructor)|cases h);(case float=>refine⟨?_,λV a=>by cases a;rfl⟩;split at h<;>first|(cases h;constructor)|cases h);(case complex=>refine⟨?_,λV a=>by cases a;rfl⟩;split at h<;>first|(cases h;constructor)|cases h);all_goals cases h
def AJ(P fs){c C}(n:VsR π c C)(e):∀(f x stop) (l),seenCells (ai P fs) c e f x stop=.ok l->seenCells P C e f x stop=.ok l:=by intro f;induction f with|zero=>intro x stop l h;simp[seenCells]at h|succ f o=>intro x stop l h;unfold seenCells at h⊢;simp only[show(ai P fs).depth=P.depth from rfl,show ∀t,(ai P fs).cellsOf t=P.cellsOf t fromλ_=>rfl,show ∀t,(ai P fs).bytesOf t=P.bytesOf t fromλ_=>rfl,uV]at h;dsimp only at h⊢;split;rename_i d;rw[Wu d]at h;exact h;rename_i d;rw[Wt d]at h;split;rename_i g;rw[Wu g]at h;cases h;rename_i g;rw[Wt g]at h;split;rename_i j;rw[j]at h;cases h;rename_i i s j;rw[j]at h;simp only[]at h⊢;have k:=n.get i;revert k h;generalize c[i]? =u;generalize C[i]? =v;intro h k;cases k with|none=>cases h| @some v V r=>simp only[]at h⊢;cases a:v.bytes? with|none=>rw[a]at h;cases h|some bs=>rw[r.bytes a,a];rw[a]at h;cases bs with|nil=>cases h|cons b bs=>simp only[]at h⊢;cases m:seenCells (ai P fs) c e f (s+(b::bs).length) stop with|error _=>rw[m]at h;cases h|ok p=>rw[o _ _ _ m];rw[m]at h;exact h
def Fy{P fs}(i:∀r R,π r R->∃o O,w.heap[r]? =some o/\W.heap[R]? =some O/\gL S π o O) {a A k K} (D:aW π a A) (E:aW π k K) (u) {x} (h:w.seen (ai P fs) a u k false=.ok x):∃c e f b l cs C F,x=(c,e,f,b,l,cs)/\W.seen P A u K false=.ok (C,e,F,b,l,cs)/\w.heap[a.block]? =some (.cells c e f)/\W.heap[A.block]? =some (.cells C e F)/\VsR π c C/\LI c.size f F:=by
 cases D with
 | @mk r R o p H=>
 cases E with
 | @mk Q R' o' I J=>
 obtain⟨ob,T,m,L,M⟩:=i _ _ H;unfold World.seen at h⊢;simp only[m,yz,ir,show(ai P fs).depth=P.depth from rfl,show ∀t,(ai P fs).cellsOf t=P.cellsOf t fromλ_=>rfl,show ∀t,(ai P fs).bytesOf t=P.bytesOf t fromλ_=>rfl]at h;simp only[L];by_cases g:(I.isSome||p.isSome)=true;rw[Wu g]at h;cases h
 rw[Wt g]at h⊢;cases n:plainCell P P.depth u o' with
 |none=>rw[n]at h;cases h
 |some d=>
 rw[n]at h;simp only[]at h⊢;cases q:Option.map (λx:List UInt8=>x.length) d.bytes? with
 |none=>rw[q]at h;cases h
 |some size=>
 rw[q]at h;simp only[]at h⊢;cases s:byteOfCell P P.depth u o' with
 |none=>rw[s]at h;cases h
 |some v=>
 rw[s]at h;simp only[]at h⊢;cases M with
 | @cells c C e f F y N=>simp only[]at h⊢;by_cases z:P.cellsOf e=0;rw[Wu z]at h;cases h;rw[Wt z]at h⊢;cases j:byteOfCell P P.depth e (o%P.cellsOf e)with|none=>rw[j]at h;cases h|some B=>rw[j]at h;simp only[]at h⊢;cases g:seenCells (ai P fs) c e (size+1) (o/P.cellsOf e*P.bytesOf e+B+v) (o/P.cellsOf e*P.bytesOf e+B+v+size)with|error _=>rw[g]at h;cases h|ok cs=>rw[AJ P fs y e _ _ _ _ g];rw[g]at h;cases h;exact⟨c,e,f,_,d,cs,C,F,rfl,rfl,m,rfl,y,N⟩
 |_=>cases h
def Dv{P fs}(d:∀r R,π r R->∃o O,w.heap[r]? =some o/\W.heap[R]? =some O/\gL S π o O) {a A k K} (i:aW π a A) (j:aW π k K) (u) {v} {t} (h:w.viewLoad (ai P fs) a u k false=.ok (v,t)):∃T,W.viewLoad P A u K false=.ok (v,T)/\aD π v v/\∀X∈T,X.block=A.block:=by unfold World.viewLoad at h⊢;cases g:w.seen (ai P fs) a u k false with|error _=>rw[g]at h;cases h|ok x=>obtain⟨c,e,f,b,l,cs,C,F,rfl,m,_,_,_,_⟩:=Fy d i j u g;rw[g]at h;rw[m];dsimp only[bind,Except.bind]at h⊢;split at h;rename_i q n;cases h;exact⟨_,rfl,(rH n).1,λX p=>by obtain⟨x,_,rfl⟩:=XH.1 p;rfl⟩;cases h
def I2{i σ τ j:Type}{g:σ->i->Except j σ}{g':τ->i->Except j τ}{I:σ->τ->Prop}{H}(b:∀c C x c',I c C->g c x=.ok c'->∃a,g' C x=.ok a/\I c' a/\H):∀(cs) {c} {C} {c'},I c C->cs.foldlM g c=.ok c'->∃a,cs.foldlM g' C=.ok a/\I c' a/\(cs=[]->a=C)/\(cs≠[]->H):=by intro cs;induction cs with|nil=>intro c C c' d h;cases h;exact⟨C,rfl,d,λ_=>rfl,λh=>absurd rfl h⟩|cons x cs k=>intro c C c' d h;simp only[List.foldlM_cons]at h⊢;cases f:g c x with|error e=>rw[f]at h;cases h|ok p=>obtain⟨q,e1,l,m⟩:=b _ _ _ _ d f;rw[f]at h;obtain⟨a,n,o,_,_⟩:=k l h;exact⟨a,by rw[e1];exact n,o,by simp,λ_=>m⟩
def AK{P fs}(m:∀r R,π r R->∃o O,w.heap[r]? =some o/\W.heap[R]? =some O/\gL S π o O) {a A k K} (ha:aW π a A) (hk:aW π k K) (u) {v V} (hv:aD π v V) {w'} {t} (h:w.viewStore (ai P fs) a u k v false=.ok (w',t)):∃c e f C F c' d T,W.viewStore P A u K V false=.ok ({W with heap:=W.heap.setIfInBounds A.block (.cells d e F)},T)/\w'={w with heap:=w.heap.setIfInBounds a.block (.cells c' e f)}/\w.heap[a.block]? =some (.cells c e f)/\W.heap[A.block]? =some (.cells C e F)/\VsR π c C/\VsR π c' d/\c'.size=c.size/\LI c'.size f F/\(T≠[]->¬(f.1=0/\c.size<f.2))/\(T=[]->d=C)/\∀X∈T,X.block=A.block:=by unfold World.viewStore at h⊢;rw[I1]at h;simp only[show(ai P fs).depth=P.depth from rfl]at h;by_cases Q:(!tight P P.depth u)=true;rw[Wu Q]at h;cases h;rw[Wt Q]at h⊢;cases B:w.seen (ai P fs) a u k false with|error _=>rw[B]at h;cases h|ok x=>obtain⟨c,e,f,b,l,cs,C,F,rfl,g,j,D,U,Y⟩:=Fy m ha hk u B;rw[B]at h;rw[g];dsimp only[bind,Except.bind,pure,Except.pure]at h⊢;cases q:v.bytes? with|none=>rw[q]at h;cases h|some bytes=>rw[hv.bytes q,q];rw[q]at h;dsimp only at h⊢;by_cases Z:some bytes.length≠Option.map (λx=>x.length) l.bytes?;rw[Wu Z]at h;cases h;rw[Wt Z]at h⊢;split at h;cases h;rename_i c' E;generalize J:(List.foldlM _ C cs:Except String (WZ))=X;(suffices key:∃d,X=.ok d/\(VsR π c' d/\c'.size=c.size)/\(cs=[]->d=C)/\(cs≠[]->¬(f.1=0/\c.size<f.2)) by obtain⟨d,k1,⟨k2,k3⟩,k4,k5⟩:=key;cases h;refine⟨c,e,f,C,F,c',d,cs.map λx=>{block:=A.block,off:=x.1},by rw[k1],rfl,j,D,U,k2,k3,k3▸Y,λL=>k5 (λh0=>L (by rw[h0];rfl)),λL=>k4 (List.map_eq_nil_iff.1 L),λX J=>by obtain⟨x,_,rfl⟩:=XH.1 J;rfl⟩);rw[<-J];refine I2 (I:=λy M=>VsR π y M/\y.size=c.size) (H:=¬(f.1=0/\c.size<f.2)) ?_ cs ⟨U,rfl⟩ E;rintro y M ⟨i,s,bs⟩ c2 ⟨n,N⟩ h;dsimp only at h⊢;by_cases h1:(decide (s<b)||decide (s+bs.length>b+bytes.length))=true;rw[Wu h1]at h;cases h;rw[Wt h1]at h⊢;by_cases g:(decide (f.1<=i)&&decide (i<f.2))=true;rw[Wu g]at h;cases h;have p:=n.get i;cases j:y[i]? with|none=>rw[Wt g,j]at h;cases h|some old=>(rw[j]at p;have hi:=(WC.1 j).1;have D:¬(decide (F.1<=i)&&decide (i<F.2))=true:=by obtain rfl|⟨g1,g2,g3⟩:=Y;exact g;simp only[WI,WR]at g;omega);rw[Wt g,j]at h;rw[Wt D];cases hC:M[i]? with|none=>rw[hC]at p;cases p|some aa=>rw[hC]at p;cases p with|some hr=>dsimp only at h⊢;cases z:old.ofBytes ((bytes.drop (s-b)).take bs.length)with|none=>rw[z]at h;cases h|some new=>rw[z]at h;have⟨p1,p2⟩:=rH (π:=π) z;rw[p2 _ hr,z];dsimp only at h⊢;cases h;refine⟨_,rfl,⟨n.set i p1,by simpa using N⟩,?_⟩;simp only[WI,WR]at g;omega
def uW(P w τ d a k u v m):(aw w τ d).viewStore P a u k v m=(w.viewStore P a u k v m).map λx=>(aw x.1 τ d,x.2):=by unfold World.viewStore;rw[show(aw w τ d).seen P a u k m=w.seen P a u k m from rfl];by_cases g:(!tight P P.depth u)=true;rw[Wu g,Wu g];rfl;rw[Wt g,Wt g];cases w.seen P a u k m with|error _=>rfl|ok x=>obtain⟨c,e,f,b,l,cs⟩:=x;dsimp only[bind,Except.bind,pure,Except.pure];cases v.bytes? with|none=>rfl|some bytes=>dsimp only;by_cases h:some bytes.length≠Option.map (λx=>x.length) l.bytes?;rw[Wu h,Wu h];rfl;rw[Wt h,Wt h];generalize (List.foldlM _ c cs:Except String (WZ))=X;cases X<;>rfl
def iu(P w τ d a v m):(aw w τ d).farStore P a v m=(w.farStore P a v m).map λx=>(aw x.1 τ d,x.2):=by unfold World.farStore;rw[show(aw w τ d).heap=w.heap from rfl,show(aw w τ d).noCell a "store: no such cell" =w.noCell a "store: no such cell" from rfl];split;rw[uW];cases w.viewStore P _ _ a v m<;>rfl;rfl
def bE.fn(_h:bE S Pr π w W):∀r R R',π r R->π r R'->R=R':=π.fn
def bE.inj(_h:bE S Pr π w W):∀r r' R,π r R->π r' R->r=r':=π.inj
def bE.lt(h:bE S Pr π w W){r R}(x:π r R):r<w.heap.size/\R<W.heap.size:=by obtain⟨o,O,a,b,_⟩:=h.obj r R x;exact⟨(WC.1 a).1,(WC.1 b).1⟩
def bE.cell(h:bE S Pr π w W){a A}(x:aW π a A){v}(b:w.cell? a=some v):∃V,W.cell? A=some V/\aD π v V:=by
 cases x with
 | @mk r s o p x=>
  obtain⟨ob,l,g,i,j⟩:=h.obj _ _ x;simp only[World.cell?,g]at b;cases j with
  | @cells c C e f F k m=>simp only[World.cell?,i];cases p with|some p=>simp at b|none=>simp only[Option.isSome_none,WW,WU]at b⊢;have d:=k.get o;rw[b]at d;revert d;generalize C[o]? =X;intro d;cases d with|some r=>exact⟨_,rfl,r⟩
  |_=>simp at b
def bE.frozen(h:bE S Pr π w W){a A}(x:aW π a A):W.frozen? A=true->w.frozen? a=true:=by cases x with| @mk r s o p x=>obtain⟨ob,j,b,d,g⟩:=h.obj _ _ x;simp only[World.frozen?,b,d];cases g with| @cells c C e f F k i=>obtain rfl|⟨a1,l,m⟩:=i;exact id;simp only[WI,WR];omega|_=>exact id
def bE.shape(h:bE S Pr π w W){r R}(x:π r R):W.shape? R=w.shape? r:=by obtain⟨ob,f,a,b,c⟩:=h.obj _ _ x;simp only[World.shape?,a,b];cases c with|cells e d g=>simp[d.1]|_=>rfl
def fB{b:Type}(a:Array b)(i j f):(a.modify i f)[j]? =if i=j then a[j]?.map f else a[j]? :=XB
def eA(w:xv)(a v b)(c:b≠a.block):(w.setCell a v).heap[b]? =w.heap[b]? :=by simp only[World.setCell,fB];rw[Wt (λh=>c h.symm)]
def gP(w:xv)(a v):(w.setCell a v).heap.size=w.heap.size:=by simp[World.setCell]
def iQ{W:xv}{a v}{b:Nat}{c e F}(h:W.heap[b]? =some (.cells c e F)):∃c' F',(W.setCell a v).heap[b]? =some (.cells c' e F')/\Fle F F':=by simp only[World.setCell,fB];split;rw[h];exact⟨_,F,rfl,.refl _⟩;exact⟨c,F,h,.refl _⟩
def bE.setCell(h:bE S Pr π w W){a A}(x:aW π a A){v V}(u:aD π v V):bE S Pr π (w.setCell a v) (W.setCell A V):=by
 cases x with
 | @mk r s o p x=>
  refine⟨λg R' y=>?_,λg R' y z=>?_,λR z=>by rw[gP];exact h.yy R z,by rw[gP];exact h.gw,by rw[gP];exact h.gW,by obtain⟨c,e,f,B⟩:=h.w0;obtain⟨c',D,d,_⟩:=iQ (a:=⟨r,o,p⟩) (v:=v) B;exact⟨c',e,D,d⟩⟩;obtain⟨ob,E,d,i,k⟩:=h.obj g R' y;by_cases e:g=r;subst e
  have j:=h.fn _ _ _ y x;subst j;simp only[World.setCell,fB,WL,d,i,Xm];refine⟨_,_,rfl,rfl,?_⟩;cases k with
  | @cells c C e f F l m=>simp only[];cases p with|some p=>exact .cells e (by simpa using l) (by simpa using m)|none=>exact .cells e (by simpa using l.set o u) (by simpa using m)
  |map n h=>exact .map n h
  |stringIter=>exact .stringIter _ _
  |gi=>exact .gi _ _ _
  |mapIter a b c h=>exact .mapIter a b c h
  |loop h=>exact .loop h
  |deferred=>exact .deferred
  |fv=>exact .fv
  |number b h=>exact .number b h
  |view t h=>exact .view t h
  have j:R'≠s:=λj=>e (by subst j;exact h.inj _ _ _ y x);exact⟨ob,E,by rw[eA _ _ _ _ e];exact d,by rw[eA _ _ _ _ j];exact i,k⟩;obtain⟨c,e,f,d,i⟩:=h.xM g R' y z;by_cases q:g=r;subst q;refine⟨if p.isSome then c else c.setIfInBounds o v,e,f,?_,?_⟩;simp only[World.setCell,fB,WL,d,Xm];split<;>simpa using i;exact⟨c,e,f,by rw[eA _ _ _ _ q];exact d,i⟩
def iF(w:xv)(a n b)(c:b≠a.block):(w.freeze a n).heap[b]? =w.heap[b]? :=by simp only[World.freeze];split;rfl;simp only[fB];rw[Wt (λh=>c h.symm)]
def kh(w:xv)(a n):(w.freeze a n).heap.size=w.heap.size:=by simp only[World.freeze];split<;>simp
def nJ(w:xv)(a n)(b:n≠0){c e f}(h:w.heap[a.block]? =some (.cells c e f)):(w.freeze a n).heap[a.block]? =some (.cells c e (grow f a.off n)):=by simp only[World.freeze,Wt b,fB,WL,h,Xm];rfl
def bM(w:xv)(a n){o:Obj}(h:w.heap[a.block]? =some o)(b:∀c e f,o≠ .cells c e f):(w.freeze a n).heap[a.block]? =some o:=by simp only[World.freeze];split;exact h;simp only[fB,WL,h,Xm];cases o<;>first|rfl|exact absurd rfl (b _ _ _)
def BU{f m}(a:f.1=0)(b:m<f.2)(off n):(grow f off n).1=0/\m<(grow f off n).2/\f.2<=(grow f off n).2/\off+n<=(grow f off n).2:=by (unfold grow;have:(f.1==f.2)=false:=by simp;omega);rw[this];simp only[WW,WU];omega
def Rr{F k}(off n)(h:F.2<=k)(a:off+n<=k):(grow F off n).2<=k:=by unfold grow;split<;>simp only[]<;>omega
def yJ{W:xv}{a}{n b:Nat}{c e F}(h:W.heap[b]? =some (.cells c e F)):∃c' F',(W.freeze a n).heap[b]? =some (.cells c' e F')/\Fle F F':=by by_cases d:n=0;subst d;exact⟨c,F,by simpa[World.freeze]using h,.refl _⟩;by_cases f:b=a.block;subst f;exact⟨c,_,nJ W a n d h,On _ _ _ d⟩;exact⟨c,F,by rw[iF _ _ _ _ f];exact h,.refl _⟩
def bE.freeze(h:bE S Pr π w W){a A}(x:aW π a A)(n):bE S Pr π (w.freeze a n) (W.freeze A n):=by by_cases m:n=0;subst m;simpa[World.freeze]using h;cases x with| @mk r s o p x=>refine⟨λd R' y=>?_,λd R' y z=>?_,λR z=>by rw[kh];exact h.yy R z,by rw[kh];exact h.gw,by rw[kh];exact h.gW,by obtain⟨c,e,f,B⟩:=h.w0;obtain⟨c',D,g,_⟩:=yJ (a:=⟨r,o,p⟩) (n:=n) B;exact⟨c',e,D,g⟩⟩;obtain⟨ob,E,g,i,k⟩:=h.obj d R' y;by_cases e:d=r;subst e;(have l:=h.fn _ _ _ y x;subst l;cases k with| @cells c C e f F H I=>refine⟨_,_,nJ w ⟨d,o,p⟩ n m g,nJ W ⟨R',o,p⟩ n m i,.cells e H ?_⟩;obtain rfl|⟨a1,J,K⟩:=I;exact .inl rfl;obtain⟨q,u,L,M⟩:=BU a1 J o n;exact .inr ⟨q,u,Rr o n (Ww K L) M⟩|map N j=>exact⟨_,_,bM w ⟨d,o,p⟩ n g (by simp),bM W ⟨R',o,p⟩ n i (by simp),.map N j⟩|stringIter=>exact⟨_,_,bM w ⟨d,o,p⟩ n g (by simp),bM W ⟨R',o,p⟩ n i (by simp),.stringIter _ _⟩|gi=>exact⟨_,_,bM w ⟨d,o,p⟩ n g (by simp),bM W ⟨R',o,p⟩ n i (by simp),.gi _ _ _⟩|mapIter a b c j=>exact⟨_,_,bM w ⟨d,o,p⟩ n g (by simp),bM W ⟨R',o,p⟩ n i (by simp),.mapIter a b c j⟩|loop j=>exact⟨_,_,bM w ⟨d,o,p⟩ n g (by simp),bM W ⟨R',o,p⟩ n i (by simp),.loop j⟩|deferred=>exact⟨_,_,bM w ⟨d,o,p⟩ n g (by simp),bM W ⟨R',o,p⟩ n i (by simp),.deferred⟩|fv=>exact⟨_,_,bM w ⟨d,o,p⟩ n g (by simp),bM W ⟨R',o,p⟩ n i (by simp),.fv⟩|number b j=>exact⟨_,_,bM w ⟨d,o,p⟩ n g (by simp),bM W ⟨R',o,p⟩ n i (by simp),.number b j⟩|view t j=>exact⟨_,_,bM w ⟨d,o,p⟩ n g (by simp),bM W ⟨R',o,p⟩ n i (by simp),.view t j⟩);have l:R'≠s:=λl=>e (by subst l;exact h.inj _ _ _ y x);exact⟨ob,E,by rw[iF _ _ _ _ e];exact g,by rw[iF _ _ _ _ l];exact i,k⟩;obtain⟨c,e,f,g,i,k⟩:=h.xM d R' y z;by_cases v:d=r;subst v;obtain⟨q,u,_⟩:=BU i k o n;exact⟨c,e,_,nJ w ⟨d,o,p⟩ n m g,q,u⟩;exact⟨c,e,f,by rw[iF _ _ _ _ v];exact g,i,k⟩
def bE.ext(h:bE S Pr π w W):Ren G where
 rel:=λr R=>π r R\/(r=w.heap.size/\R=W.heap.size)
 fn:=by
  rintro r R R' (x|⟨e1,a⟩) (y|⟨b,c⟩)
  .exact h.fn _ _ _ x y
  .have:=(h.lt x).1;omega
  .have:=(h.lt y).1;omega
  .omega
 inj:=by
  rintro r d R (x|⟨e1,a⟩) (y|⟨b,c⟩)
  .exact h.inj _ _ _ x y
  .have:=(h.lt x).2;omega
  .have:=(h.lt y).2;omega
  .omega
 dU:=by
  rintro r R (x|⟨rfl,rfl⟩)
  .exact π.dU _ _ x
  .have:=h.gw;have:=h.gW;omega
def bE.new(h:bE S Pr π w W){o O}(i:gL S π o O):bE S Pr h.ext {w with heap:=w.heap.push o} {W with heap:=W.heap.push O}:=by have l:Ren.le π h.ext:=λ_ _ x=>.inl x;refine⟨?_,?_,λR z=>by simp;have:=h.yy R z;omega,by simp;have:=h.gw;omega,by simp;have:=h.gW;omega,by obtain⟨c,e,f,g⟩:=h.w0;have:=(WC.1 g).1;exact⟨c,e,f,by simp only[Xx];rw[Wt (by omega)];exact g⟩⟩;rintro r R (x|⟨rfl,rfl⟩);obtain⟨a,A,b,d,j⟩:=h.obj r R x;have:=h.lt x;exact⟨a,A,by simp only[Xx];rw[Wt (by omega)];exact b,by simp only[Xx];rw[Wt (by omega)];exact d,j.mono l⟩;exact⟨o,O,by simp,by simp,i.mono l⟩;rintro r R (x|⟨e1,k⟩) z;obtain⟨c,e,f,b,d⟩:=h.xM r R x z;have:=h.lt x;exact⟨c,e,f,by simp only[Xx];rw[Wt (by omega)];exact b,d⟩;have:=h.yy R z;omega
def bE.setObj(h:bE S Pr π w W){r R}(x:π r R){o O}(n:gL S π o O)(b:∀c e f,w.heap[r]? ≠some (.cells c e f)):bE S Pr π {w with heap:=w.heap.setIfInBounds r o} {W with heap:=W.heap.setIfInBounds R O}:=by have k:=h.lt x;refine⟨λd R' y=>?_,λd R' y z=>?_,λR z=>by simpa using h.yy R z,by simpa using h.gw,by simpa using h.gW,by obtain⟨p,e0,q,l⟩:=h.w0;refine⟨p,e0,q,?_⟩;rw[WK (λe=>by subst e;exact b _ _ _ l)];exact l⟩;by_cases e:d=r;subst e;have g:=h.fn _ _ _ y x;subst g;exact⟨o,O,by simp[k.1],by simp[k.2],n⟩;obtain⟨a,A,i,j,s⟩:=h.obj d R' y;have g:R'≠R:=λg=>e (by subst g;exact h.inj _ _ _ y x);exact⟨a,A,by rw[WK (WT e)];exact i,by rw[WK (WT g)];exact j,s⟩;obtain⟨c,e,f,i,j⟩:=h.xM d R' y z;by_cases m:d=r;subst m;exact absurd i (b _ _ _);exact⟨c,e,f,by rw[WK (WT m)];exact i,j⟩
def aD.Rs{v V}(h:aD π v V)(b:(∀c,v≠ .agg c)/\(∀c,v≠ .tuple c)):(∀c,V≠ .agg c)/\(∀c,V≠ .tuple c):=by cases h with|nE V a=>exact absurd rfl (b.2 _)|_=>simp_all
def bE.setCells(h:bE S Pr π w W){r R}(x:π r R){c c' C k e f F}(l:w.heap[r]? =some (.cells c e f))(n:W.heap[R]? =some (.cells C e F)) (p:VsR π c' k) (I:c'.size=c.size) (q:LI c'.size f F):bE S Pr π {w with heap:=w.heap.setIfInBounds r (.cells c' e f)} {W with heap:=W.heap.setIfInBounds R (.cells k e F)}:=by have j:=h.lt x;refine⟨λd R' y=>?_,λd R' y z=>?_,λR z=>by simpa using h.yy R z,by simpa using h.gw,by simpa using h.gW,by obtain⟨s,e0,t,u⟩:=h.w0;by_cases g:r=0;subst g;exact⟨c',e,f,by simp[j.1]⟩;exact⟨s,e0,t,by rw[WK g];exact u⟩⟩;by_cases b:d=r;subst b;have i:=h.fn _ _ _ y x;subst i;exact⟨.cells c' e f,.cells k e F,by simp[j.1],by simp[j.2],.cells e p q⟩;obtain⟨a,A,l,n,v⟩:=h.obj d R' y;have i:R'≠R:=λi=>b (by subst i;exact h.inj _ _ _ y x);exact⟨a,A,by rw[WK (WT b)];exact l,by rw[WK (WT i)];exact n,v⟩;obtain⟨B,D,E,m,o,H⟩:=h.xM d R' y z;by_cases b:d=r;subst b;rw[l]at m;cases m;exact⟨c',e,f,by simp[j.1],o,by omega⟩;exact⟨B,D,E,by rw[WK (WT b)];exact m,o,H⟩
def bE.farLoad{P fs}(h:bE S Pr π w W){a A}(x:aW π a A){v t}(b:w.farLoad (ai P fs) a false=.ok (v,t)):∃T,W.cell? A=none/\W.farLoad P A false=.ok (v,T)/\aD π v v/\∀X∈T,∃r,π r X.block:=by
 have g:=x;cases x with
 | @mk r s o p x=>
  obtain⟨ob,z,i,j,k⟩:=h.obj _ _ x;unfold World.farLoad World.cell? at*;simp only[i]at b;simp only[j];cases k with
  | @view c f u d=>simp only[]at b⊢;cases e:w.viewLoad (ai P fs) c u ⟨r,o,p⟩ false with|error _=>rw[e]at b;cases b|ok y=>obtain⟨B,C⟩:=y;rw[e]at b;cases b;obtain⟨T,l,m,n⟩:=Dv h.obj d g u e;rw[l];exact⟨T,trivial,rfl,m,λX q=>by cases d with|mk d=>exact⟨_,by rw[n X q];exact d⟩⟩
  |_=>cases b
def bE.farStore{P fs}(h:bE S Pr π w W){a A}(x:aW π a A){v V}(Z:aD π v V){w' t}(d:w.farStore (ai P fs) a v false=.ok (w',t)):∃D T,W.cell? A=none/\W.farStore P A V false=.ok (D,T)/\bE S Pr π w' D/\Chg Pr π W D π/\∀X∈T,(∃r,π r X.block)/\¬Pr X.block:=by
 have hx:=x;cases x with
 | @mk r s o p x=>
  obtain⟨ob,OB,h1,h2,h3⟩:=h.obj _ _ x;unfold World.farStore World.cell? at*;simp only[h1]at d;simp only[h2];cases h3 with
  | @view j N u O=>simp only[]at d⊢;cases E:w.viewStore (ai P fs) j u ⟨r,o,p⟩ v false with|error _=>rw[E]at d;cases d|ok y=>rw[E]at d;cases d;obtain⟨c,e,f,C,F,c',C',T,Q,rfl,H,n,q5,q6,q7,q8,q9,I,k⟩:=AK h.obj O hx u Z E;cases O with| @mk b B o' p' i=>(simp only[]at Q H n k⊢;rw[Q];have R:∀X∈T,¬Pr B:=λX z hp=>by obtain⟨cc,ee,ff,U,g2,g3⟩:=h.xM _ _ i hp;rw[H]at U;cases U;exact q9 (Z4 z) ⟨g2,g3⟩);refine⟨_,T,trivial,rfl,h.setCells i H n q6 q7 q8,⟨rfl,rfl,rfl,by simp,λb l hh=>WK ?_,λJ l Y e0 K g=>?_,λJ Y e0 K g=>?_,λ_ _ h=>.inl h,λ_ p q=>absurd q (by simp;omega),λ_ _ h=>h⟩,λX z=>by rw[k X z];exact⟨⟨_,i⟩,R X z⟩⟩;rintro rfl;exact hh ⟨_,i⟩;by_cases m:J=B;subst m;(have L:T=[]:=by cases M:T with|nil=>rfl|cons X T'=>exact absurd l (R X (by rw[M];exact .head _)));rw[I L];rw[n]at g;cases g;exact⟨F,by simp[(h.lt i).2]⟩;exact⟨K,by rw[WK (WT m)];exact g⟩;by_cases m:J=B;subst m;rw[n]at g;cases g;exact⟨C',F,by simp[(h.lt i).2],.refl _⟩;exact⟨Y,K,by rw[WK (WT m)];exact g,.refl _⟩
  |_=>cases d
def rI(w τ d a n):(aw w τ d).freeze a n=aw (w.freeze a n) τ d:=by unfold World.freeze aw;split<;>rfl
def Dp(π:Ren G)(w:xv):Prop:=∀(r R:Nat) (o:Option (List Deferred)),π r R->w.heap[r]? =some (Obj.deferred o)->o=none\/o=some []
def bE.dp(h:bE S Pr π w W){w'}(k:pE w w'):Dp π w':=by intro r R o a b;obtain⟨x,X,c,_,d⟩:=h.obj r R a;have:=k _ _ c;rw[b]at this;cases this;cases d;exact .inr rfl;exact .inl rfl
def Dp.mono{a}(l:Ren.le π a){w}(h:Dp a w):Dp π w:=λr R o b c=>h r R o (l _ _ b) c
def eh(S:Kn)(Pr:Nat->Prop)(P:Program)(fs:Array Func){j k}(Q:Ren G->j->k->Prop)(π:Ren G)(s:Sem j)(s':Sem k)(w W:xv)(es l:Array Event)(d:Nat):Prop:=
 ∃L:List (Question->Nat),(∀g∈L,S.ie g)/\((∀τ,Fits τ d L->∃h w' f,s.runT (ai P fs) (aw w τ d) es=(.halt h w',f)/\iA h/\Dp π w')\/
  ∃a w' f b i ev c,(∀τ,Fits τ d L->s.runT (ai P fs) (aw w τ d) es=(.ok a (aw w' τ (d+L.length)),f))/\s'.runT P W l=(.ok b i,l++ev)/\Q c a b/\bE S Pr c w' i/\Chg Pr π W i c/\∀e∈ev,mE Pr c e)
def iR{τ d l m}(h:Fits τ d (l++m)):Fits τ d l/\Fits τ (d+l.length) m:=by refine⟨λi g a=>h i g ?_,λi g a=>?_⟩;have:=(Xk.1 a).1;rw[Yh this];exact a;have:=h (l.length+i) g (by rw[Zg (by omega)];simpa using a);rw[show d+l.length+i=d+(l.length+i) by omega];exact this
def iS{a L:List (Question->Nat)}(b:∀g∈a,S.ie g)(c:∀g∈L,S.ie g):∀g∈a++L,S.ie g:=λg d=>(XT.1 d).elim (b g) (c g)
def eh.lift{P:Program}{fs:Array Func}{u v:Type}{Q:Ren G->u->v->Prop}{π f:Ren G}{s k:Sem u}{s' K:Sem v}{w j W Z1:xv}{es i n ev0:Array Event}{d:Nat}(c:List (Question->Nat)) (h:eh S Pr P fs Q f k K j Z1 i (n++ev0) (d+c.length)) (y:∀τ,Fits τ d c->s.runT (ai P fs) (aw w τ d) es=k.runT (ai P fs) (aw j τ (d+c.length)) i) (D:s'.runT P W n=K.runT P Z1 (n++ev0)) (z:Chg Pr π W Z1 f) (E:∀e∈ev0,mE Pr f e) (A:∀g∈c,S.ie g:=by simp):eh S Pr P fs Q π s s' w W es n d:=by obtain⟨L,B,h|⟨a,w',l,b,F,ev,o,p,q,r,H,C,I⟩⟩:=h;refine⟨c++L,iS A B,.inl λτ m=>?_⟩;have:=iR m;rw[y τ this.1];obtain⟨x,w',l,p,q,r⟩:=h τ this.2;exact⟨x,w',l,p,q,r.mono z.le⟩;refine⟨c++L,iS A B,.inr ⟨a,w',l,b,F,ev0++ev,o,λτ m=>?_,?_,r,H,z.trans C,λe t=>?_⟩⟩;have:=iR m;rw[y τ this.1,p τ this.2,WS,Ys];rw[D,q,XM];obtain x|x:=XD.1 t;exact(E e x).mono C.le;exact I e x
def eh.none{P fs b c Q}{π:Ren G}{s:Sem b}{s':Sem c}{w W es e d} (f:bE S Pr π w W) (h:∀τ,∃x w' a,s.runT (ai P fs) (aw w τ d) es=(.halt x w',a)/\iA x/\pE w w'):eh S Pr P fs Q π s s' w W es e d:=⟨[],by simp,.inl λτ _=>by obtain⟨x,w',a,g,i,j⟩:=h τ;exact⟨x,w',a,g,i,f.dp j⟩⟩
def bE.FO{P fs}(h:bE S Pr π w W){a A}(x:aW π a A){e m}(b:w.farLoad (ai P fs) a m=.error e):iA e:=by cases x with| @mk r s o p x=>obtain⟨ob,f,c,g,d⟩:=h.obj _ _ x;unfold World.farLoad World.noCell at b;simp only[c]at b;cases d with|view=>simp only[]at b;split at b;cases b;cases b;exact True.intro|_=>cases b;exact True.intro
def bE.DM{P fs}(h:bE S Pr π w W){a A}(x:aW π a A){v e m}(b:w.farStore (ai P fs) a v m=.error e):iA e:=by cases x with| @mk r s o p x=>obtain⟨ob,f,c,g,d⟩:=h.obj _ _ x;unfold World.farStore World.noCell at b;simp only[c]at b;cases d with|view=>simp only[]at b;split at b;cases b;cases b;exact True.intro|_=>cases b;exact True.intro
def Chg.heap{Z1}(h:Z1.heap=W.heap)(e:Z1.os=W.os)(f:Z1.tape=W.tape)(g:Z1.output=W.output):Chg Pr π W Z1 π:=by refine⟨e,f,g,by rw[h];exact Wv _,λ_ _ _=>by rw[h],λ_ _ _ _ F d=>⟨F,by rw[h];exact d⟩,λ_ c _ F d=>⟨c,F,by rw[h];exact d,.refl _⟩,λ_ _ h=>.inl h,λ_ a b=>absurd b (by rw[h];omega),λ_ _ h=>h⟩
def bE.heap{a Z1}(h:bE S Pr π w W)(e:a.heap=w.heap)(E:Z1.heap=W.heap):bE S Pr π a Z1:=⟨by rw[e,E];exact h.obj,by rw[e];exact h.xM,by rw[E];exact h.yy,by rw[e];exact h.gw,by rw[E];exact h.gW,by rw[e];exact h.w0⟩
def jC(P:Program){d:Type}(a:Addr)(v:x6)(k:Sem d)(w:xv)(es:Array Event)(e:∀c,v≠ .agg c)(f:∀c,v≠ .tuple c):(Sem.store .plain a v k).runT P w es=match w.cell? a with
  |some _=>if w.frozen? a then(.halt (.unsupported (.unsafePointer "a write to bytes that a string shares")) w,es)else k.runT P (w.setCell a v) (es.push ⟨.cell a,true,false⟩)
  |none=>match w.farStore P a v false with
   | .ok (w,b)=>k.runT P w (es++b.toArray.map (⟨.cell ·,true,false⟩))
   | .error h=>(.halt h w,es):=by
 cases v<;>first|rfl|exact absurd rfl (e _)|exact absurd rfl (f _)
def SR.run{fs P α β Q}{s:Sem α}{s':Sem β}(h:SR S (ai P fs) P Q π s s'):∀(w W) (es j) (d),bE S Pr π w W->eh S Pr P fs Q π s s' w W es j d:=by
 induction h with
 | @pure π a b q=>intro w W es j d g;exact⟨[],by simp,.inr ⟨a,w,es,b,W,#[],π,λτ _=>rfl,by simp[Sem.runT],q,g,Chg.refl _ _ _,by simp⟩⟩
 | @load π a A k K x _ i=>
  intro w W es j d g;cases Z:w.cell? a with
  |none=>
   cases D:w.farLoad (ai P fs) a false with
   |error e=>(refine .none g λτ=>⟨e,aw w τ d,es,?_,g.FO x D,.refl _⟩);simp only[Sem.runT];rw[show(aw w τ d).cell? a=none from Z,show(aw w τ d).farLoad (ai P fs) a (Mode.plain==Mode.atomic)=.error e from D]
   |ok y=>obtain⟨v,t⟩:=y;obtain⟨T,E,J,I,g4⟩:=g.farLoad x D;refine eh.lift [] (i v v I w W (es++t.toArray.map (⟨.cell ·,false,false⟩)) (j++T.toArray.map (⟨.cell ·,false,false⟩)) d g) ?_ ?_ (Chg.refl _ _ _) ?_;intro τ _;simp only[Sem.runT];rw[show(aw w τ d).cell? a=none from Z,show(aw w τ d).farLoad (ai P fs) a (Mode.plain==Mode.atomic)=.ok (v,t)from D];rfl;simp only[Sem.runT,E];rw[show(Mode.plain==Mode.atomic)=false from rfl,J];intro e z;obtain⟨X,hX,rfl⟩:=ZE.1 z;obtain⟨r,hr⟩:=g4 X (by simpa using hX);exact⟨rfl,⟨r,hr⟩,by simp⟩
  |some v=>obtain⟨V,hV,ak⟩:=g.cell x Z;refine eh.lift (ev0:=#[⟨.cell A,false,false⟩]) [] (i v V ak w W (es.push ⟨.cell a,false,Mode.plain==Mode.atomic⟩) _ d g) ?_ ?_ (Chg.refl _ _ _) ?_;intro τ _;simp only[Sem.runT];rw[show(aw w τ d).cell? a=some v from Z];rfl;simp only[Sem.runT,hV];rw[show(Mode.plain==Mode.atomic)=false from rfl,YV];intro e z;simp at z;subst z;cases x with| @mk r s o p x=>exact⟨rfl,⟨r,x⟩,by simp⟩
 | @store π a A v V k K x Z _ i=>
  intro w W es j d g;by_cases l:(∀c,v≠ .agg c)/\(∀c,v≠ .tuple c);case neg=>(refine .none g λτ=>⟨.stuck "store: not the value of one cell",aw w τ d,es,?_,True.intro,.refl _⟩);cases v<;>first|rfl|exact absurd ⟨by simp,by simp⟩ l
  have L:=Z.Rs l;cases hc:w.cell? a with
  |none=>
   cases D:w.farStore (ai P fs) a v false with
   |error e=>(refine .none g λτ=>⟨e,aw w τ d,es,?_,g.DM x D,.refl _⟩);rw[jC _ _ _ _ _ _ l.1 l.2,show(aw w τ d).cell? a=none from hc,iu,D];rfl
   |ok y=>obtain⟨w1,t⟩:=y;obtain⟨W1,T,E,J,I,g4,g5⟩:=g.farStore x Z D;refine eh.lift [] (i w1 W1 (es++t.toArray.map (⟨.cell ·,true,false⟩)) (j++T.toArray.map (⟨.cell ·,true,false⟩)) d I) ?_ ?_ g4 ?_;intro τ _;rw[jC _ _ _ _ _ _ l.1 l.2,show(aw w τ d).cell? a=none from hc,iu,D];rfl;rw[jC _ _ _ _ _ _ L.1 L.2,E,J];intro e z;obtain⟨X,hX,rfl⟩:=ZE.1 z;obtain⟨⟨r,hr⟩,hp⟩:=g5 X (by simpa using hX);exact⟨rfl,⟨r,hr⟩,λ_=>hp⟩
  |some aa=>obtain⟨ao,af,_⟩:=g.cell x hc;by_cases M:w.frozen? a=true;(refine .none g λτ=>⟨.unsupported (.unsafePointer "a write to bytes that a string shares"),aw w τ d,es,?_,True.intro,.refl _⟩);rw[jC _ _ _ _ _ _ l.1 l.2,show(aw w τ d).cell? a=some aa from hc];simp only[];rw[Wu (show(aw w τ d).frozen? a=true from M)];have al:¬W.frozen? A=true:=λh=>M (g.frozen x h);(have N:¬Pr A.block:=by intro hp;cases x with| @mk r s o p x=>obtain⟨c,e,f,E,J,I⟩:=g.xM _ _ x hp;apply M;have g4:=hc;simp only[World.cell?,World.frozen?,E]at g4⊢;cases p with|some p=>simp at g4|none=>simp only[Option.isSome_none,WW,WU]at g4;have:=(WC.1 g4).1;simp only[WI,WR];omega);refine eh.lift (ev0:=#[⟨.cell A,true,false⟩]) [] (i (w.setCell a v) (W.setCell A V) (es.push ⟨.cell a,true,false⟩) _ d (g.setCell x Z)) ?_ ?_ ?_ ?_;intro τ _;rw[jC _ _ _ _ _ _ l.1 l.2,show(aw w τ d).cell? a=some aa from hc];simp only[];rw[Wt (show ¬(aw w τ d).frozen? a=true from M)];rfl;rw[jC _ _ _ _ _ _ L.1 L.2,af];simp only[];rw[Wt al,YV];refine⟨rfl,rfl,rfl,by rw[gP];exact Wv _,λb U hh=>eA _ _ _ _ ?_,λb U c e F B=>⟨F,?_⟩,λb c e F B=>iQ B,λ_ _ h=>.inl h,λ_ p q=>absurd q (by rw[gP];omega),λ_ _ h=>h⟩;rintro rfl;(cases x with| @mk r s o p x=>exact hh ⟨r,x⟩);rw[eA _ _ _ _ (by rintro rfl;exact N U)];exact B;intro e z;simp at z;subst z;cases x with| @mk r s o p x=>exact⟨rfl,⟨r,x⟩,λ_=>N⟩
 | @new π o O k K ho _ i=>(intro w W es j d g;refine eh.lift (ev0:=#[]) [] (i g.ext w.heap.size W.heap.size (λ_ _ x=>.inl x) (.inr ⟨rfl,rfl⟩) {w with heap:=w.heap.push o} {W with heap:=W.heap.push O} es _ d (g.new ho)) (λ_ _=>rfl) (by simp[Sem.runT]) ?_ (by simp);have ab:∀(b:Nat) o,W.heap[b]? =some o->(W.heap.push O)[b]? =some o:=λb o h=>by have:=(WC.1 h).1;rw[Xx];rw[Wt (by omega)];exact h);refine⟨rfl,rfl,rfl,by simp,λb U _=>by simp only[Xx];rw[Wt (by omega)],λb U c e F B=>⟨F,ab _ _ B⟩,λb c e F B=>⟨c,F,ab _ _ B,.refl _⟩,?_,?_,λ_ _ h=>.inl h⟩;rintro r R (x|⟨_,rfl⟩);exact .inl x;exact .inr (Wv _);intro R p q;simp at q;exact⟨w.heap.size,.inr ⟨rfl,by omega⟩⟩
 | @shape π r R k K x _ i=>intro w W es j d g;refine eh.lift (ev0:=#[]) [] (i (w.shape? r) w W es _ d g) (λ_ _=>rfl) ?_ (Chg.refl _ _ _) (by simp);simp only[Sem.runT];rw[g.shape x,ZF]
 | @freeze π a A n k K x _ i=>intro w W es j d g;refine eh.lift (ev0:=#[]) [] (i _ _ es _ d (g.freeze x n)) ?_ (by simp[Sem.runT]) ?_ (by simp);intro τ _;simp only[Sem.runT];rw[rI];rfl;(have D:∀(w:xv) a,(w.freeze a n).os=w.os/\(w.freeze a n).tape=w.tape/\(w.freeze a n).output=w.output:=by intro w a;unfold World.freeze;split<;>exact⟨rfl,rfl,rfl⟩);refine⟨(D W A).1,(D W A).2.1,(D W A).2.2,by rw[kh];exact Wv _,λb U hh=>iF _ _ _ _ ?_,λb _ c e F B=>?_,λb c e F B=>yJ B,λ_ _ h=>.inl h,λ_ p q=>absurd q (by rw[kh];omega),λ_ _ h=>h⟩;rintro rfl;(cases x with| @mk r s o p x=>exact hh ⟨r,x⟩);by_cases hn:n=0;subst hn;exact⟨F,by simpa[World.freeze]using B⟩;by_cases U:b=A.block;subst U;exact⟨_,nJ W A n hn B⟩;exact⟨F,by rw[iF _ _ _ _ U];exact B⟩
 | @frozen π a A k K x _ i=>intro w W es j d g;exact eh.lift (ev0:=#[]) [] (i _ _ (g.frozen x) w W es _ d g) (λ_ _=>rfl) (by simp[Sem.runT]) (Chg.refl _ _ _) (by simp)
 | @getObj π r R k K x _ i=>intro w W es j d g;obtain⟨o,O,E,J,I⟩:=g.obj _ _ x;by_cases u:∃c e f,o=.cells c e f;obtain⟨c,e,f,rfl⟩:=u;(refine .none g λτ=>⟨.stuck "getObj: a row of cells",aw w τ d,es,?_,True.intro,.refl _⟩);simp only[Sem.runT,show(aw w τ d).heap[r]? =some (.cells c e f)from E];(have ag:∀c e f,o≠ .cells c e f:=λc e f h=>u ⟨c,e,f,h⟩;have hch:O.isChan=false:=by cases I<;>rfl);(have an:∀c e f,O≠ .cells c e f:=by rintro c e f rfl;cases I;exact ag _ _ _ rfl);refine eh.lift (ev0:=#[⟨.obj R,false,false⟩]) [] (i o O I w W (es.push ⟨.obj r,false,o.isChan⟩) _ d g) ?_ ?_ (Chg.refl _ _ _) ?_;intro τ _;(cases o<;>simp only[Sem.runT,show(aw w τ d).heap[r]? =_ from E]<;>first|rfl|exact absurd rfl (ag _ _ _));(have:(Sem.getObj R K).runT P W j=(K O).runT P W (j.push ⟨.obj R,false,O.isChan⟩):=by cases O<;>simp only[Sem.runT,J]<;>exact absurd rfl (an _ _ _));rw[this,hch,YV];intro e z;simp at z;subst z;exact⟨rfl,⟨r,x⟩,by simp⟩
 | @setObj π r R o O k K x ag ho _ i=>
  intro w W es j d g;obtain⟨H,ad,E,J,I⟩:=g.obj _ _ x;by_cases u:∃c e f,H=.cells c e f;obtain⟨c,e,f,rfl⟩:=u;refine .none g λτ=>⟨.stuck "setObj: a row of cells",aw w τ d,es,?_,True.intro,.refl _⟩
  simp only[Sem.runT,show(aw w τ d).heap[r]? =some (.cells c e f)from E];have m:∀c e f,H≠ .cells c e f:=λc e f h=>u ⟨c,e,f,h⟩;have hch:O.isChan=false:=by cases ho<;>rfl
  have C:∀c e f,ad≠ .cells c e f:=by rintro c e f rfl;cases I;exact m _ _ _ rfl
  have N:¬Pr R:=λhp=>by obtain⟨c,e,f,q1,_⟩:=g.xM _ _ x hp;rw[E]at q1;exact m _ _ _ (WV q1)
  refine eh.lift (ev0:=#[⟨.obj R,true,false⟩]) [] (i {w with heap:=w.heap.setIfInBounds r o} {W with heap:=W.heap.setIfInBounds R O} (es.push ⟨.obj r,true,o.isChan⟩) _ d
   (g.setObj x ho (λc e f h=>m c e f (WV (E.symm.trans h))))) ?_ ?_ ?_ ?_
  intro τ _;cases H<;>simp only[Sem.runT,show(aw w τ d).heap[r]? =_ from E]<;>first|rfl|exact absurd rfl (m _ _ _)
  have:(Sem.setObj R O K).runT P W j=K.runT P {W with heap:=W.heap.setIfInBounds R O} (j.push ⟨.obj R,true,O.isChan⟩):=by cases ad<;>simp only[Sem.runT,J]<;>exact absurd rfl (C _ _ _)
  rw[this,hch,YV];have l:∀(b:Nat) c e F,W.heap[b]? =some (Obj.cells c e F)->(W.heap.setIfInBounds R O)[b]? =some (Obj.cells c e F):=λb c e F B=>by rw[WK];exact B;rintro rfl;rw[J]at B;exact C _ _ _ (WV B)
  refine⟨rfl,rfl,rfl,by simp,λb U hh=>WK ?_,λb _ c e F B=>⟨F,l _ _ _ _ B⟩,λb c e F B=>⟨c,F,l _ _ _ _ B,.refl _⟩,λ_ _ h=>.inl h,λ_ p q=>absurd q (by simp;omega),λ_ _ h=>h⟩;rintro rfl;exact hh ⟨r,x⟩;intro e z;simp at z;subst z;exact⟨rfl,⟨r,x⟩,λ_=>N⟩
 | @choose π q k K fq _ i=>intro w W es j d g;by_cases Y:q.forced=true;refine eh.lift (ev0:=#[]) [] (i 0 w W es _ d g) ?_ ?_ (Chg.refl _ _ _) (by simp);intro τ _;simp only[Sem.runT];rw[Wu Y];rfl;simp only[Sem.runT];rw[Wu Y,ZF];refine eh.lift (ev0:=#[]) [only q (W.tape W.drawn q)] (i (q.cut (W.tape W.drawn q)) w {W with drawn:=W.drawn+1} es _ (d+1) (g.heap rfl rfl)) ?_ ?_ (Chg.heap rfl rfl rfl rfl) (by simp) (by simpa using BI fq _);intro τ ah;simp only[Sem.runT];rw[Wt Y,show(aw w τ d).tape (aw w τ d).drawn q=W.tape W.drawn q from(congrFun ah.head q).trans (uS _ _)];rfl;simp only[Sem.runT];rw[Wt Y,ZF]
 | @program π k K _ i=>intro w W es j d g;exact eh.lift (ev0:=#[]) [] (i w W es _ d g) (λ_ _=>rfl) (by simp[Sem.runT]) (Chg.refl _ _ _) (by simp)
 | @lR π k s' _ i=>intro w W es j d g;exact eh.lift (ev0:=#[]) [] (i w W es _ d g) (λ_ _=>rfl) (by simp) (Chg.refl _ _ _) (by simp)
 | @extern π f k K _ i=>intro w W es j d g;refine eh.lift (ev0:=#[⟨.mark (.extern f),false,true⟩]) [] (i w W (es.push ⟨.mark (.extern f),false,true⟩) _ d g) (λ_ _=>rfl) (by simp[Sem.runT,YV]) (Chg.refl _ _ _) ?_;intro e z;simp at z;subst z;trivial
 | @noRoom π k K _ i=>intro w W es j d g;refine eh.lift (ev0:=#[⟨.mark .noRoom,false,true⟩]) [] (i w W (es.push ⟨.mark .noRoom,false,true⟩) _ d g) (λ_ _=>rfl) (by simp[Sem.runT,YV]) (Chg.refl _ _ _) ?_;intro e z;simp at z;subst z;trivial
 | @ov π q k s' n t fq e _ i=>intro w W es j d g;by_cases Y:q.forced=true;rw[Wu Y]at e;subst e;refine eh.lift (ev0:=#[]) [] (i w W es _ d g) ?_ (by simp) (Chg.refl _ _ _) (by simp);intro τ _;simp only[Sem.runT];rw[Wu Y];rfl;rw[Wt Y]at e;subst e;refine eh.lift (ev0:=#[]) [only q t] (i w W es _ (d+1) g) ?_ (by simp) (Chg.refl _ _ _) (by simp) (by simpa using BI fq _);intro τ ah;simp only[Sem.runT];rw[Wt Y,show(aw w τ d).tape (aw w τ d).drawn q=t from(congrFun ah.head q).trans (uS _ _)];rfl
 | @uT π s r K _ i=>intro w W es j d g;exact i (W.shape? r) w W es j d g
 | @uU π k s' _ i=>intro w W es j d g;obtain⟨c,e,f,h0⟩:=g.w0;refine eh.lift (ev0:=#[]) [] (i (e,c.size) w W es _ d g) (λτ _=>?_) (by simp) (Chg.refl _ _ _) (by simp);simp only[Sem.runT];rw[show(aw w τ d).shape? 0=some (e,c.size) by simp only[World.shape?,aw,h0]];rfl
 | @qT π s a K _ i=>intro w W es j d g;exact i (W.frozen? a) w W es j d g
 |never n=>intro w W es j d g;exact .none g λτ=>n _ _ _
end Go.Tm

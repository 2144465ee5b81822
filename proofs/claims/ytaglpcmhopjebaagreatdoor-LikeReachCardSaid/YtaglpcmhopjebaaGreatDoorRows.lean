/-
  NARROWER THAN 'FOR EVERY INPUT', by the rows' own cells (each row's printed sentence says how): LikeWords: laid · LikeLevels: laid · LikeSame: laid · LikeScripts: laid · LikeTurns: laid · LikeMoved: laid · LikeReach: laid · LikeNear: laid · LikeSearches: laid · LikeBars: laid · LikeEdits: laid · LikeFewest: laid · LikeThird: laid.
  DERIVED. THE GIVEN ROWS OF THIS SEAT. 13 by the template 'for every input the law returns true; each argument reads behind the call as it read before'; 0 by the template 'total and deterministic' (their statements: YtaglpcmhopjebaaGreatDoorTotals.lean).
  GIVEN WITH THE SEED: the statements are not yours to turn. If you find one false, say at which input.
  Laid BY PROGRAM, IN A SANDBOX (cutbox-rows.mjs): the forced cells as the released guide's own fill.sh prints them over the translation c32cb7c8d1900dc3… (all of the seat's roots in one cut). By AI agents, Wed Nov 11 2026. No macro, syntax, notation, axiom, sorry.
-/
import Derived.Test.YtaglpcmhopjebaaGreatDoorChecked
import GoSem.PinnedTables
import GoSem.Claim
import GoSem.ClaimJoined
import GoSem.ClaimMapViews
import Derived.JoinedTies
import Derived.KernelRfl
namespace Go.Proofs.YtaglpcmhopjebaaGreatDoor
/- THE CELL 'sum', in the pinned program and in every row, IS THE sha256 OF THE DUMP (.gsa) THAT YtaglpcmhopjebaaGreatDoorProg.lean LOADS. Nothing in Lean hashes anything: it is a label: what it is worth is what the hold of that sum in a sandbox is worth. -/
noncomputable def Tryz.pinned : Pinned := { name := "ytaglpcmhopjebaagreatdoor", sum := "c32cb7c8d1900dc38a86d3ae42d5eca03394409ce7c6b71018f39d8fb7c780a6", checked := Tryz.checked }
namespace Rows
def none {H : Type} : Left H := { results := [], args := [] }

/- WHAT THE LISTED PACKAGE-LEVEL VARIABLES READ AS WHEN THE CALL BEGINS. Each datum BY PROGRAM (the guide's laid-datum.mjs) off the statement by which the dump's own 'gosem.cut.vars' lays the variable. In a bare row this is a premise. The card (YtaglpcmhopjebaaGreatDoorCards.lean) ties it to the program's text. -/
def laid_unicode_utf8_acceptRanges {H : Type} : DataW H := .agg [.agg [.lit (.int .u8 128), .lit (.int .u8 191)], .agg [.lit (.int .u8 160), .lit (.int .u8 191)], .agg [.lit (.int .u8 128), .lit (.int .u8 159)], .agg [.lit (.int .u8 144), .lit (.int .u8 191)], .agg [.lit (.int .u8 128), .lit (.int .u8 143)], .agg [.lit (.int .u8 0), .lit (.int .u8 0)], .agg [.lit (.int .u8 0), .lit (.int .u8 0)], .agg [.lit (.int .u8 0), .lit (.int .u8 0)], .agg [.lit (.int .u8 0), .lit (.int .u8 0)], .agg [.lit (.int .u8 0), .lit (.int .u8 0)], .agg [.lit (.int .u8 0), .lit (.int .u8 0)], .agg [.lit (.int .u8 0), .lit (.int .u8 0)], .agg [.lit (.int .u8 0), .lit (.int .u8 0)], .agg [.lit (.int .u8 0), .lit (.int .u8 0)], .agg [.lit (.int .u8 0), .lit (.int .u8 0)], .agg [.lit (.int .u8 0), .lit (.int .u8 0)]]
def laid_touchmark_like_kinds {H : Type} : DataW H := .iface "func table" (.agg [.agg [.lit (.string [108, 101, 116, 116, 101, 114, 115]), .iface "func" (.lit (.string [116, 111, 117, 99, 104, 109, 97, 114, 107, 47, 108, 105, 107, 101, 46, 107, 105, 110, 100, 115, 36, 49]))], .agg [.lit (.string [115, 111, 117, 110, 100, 115]), .iface "func" (.lit (.string [116, 111, 117, 99, 104, 109, 97, 114, 107, 47, 108, 105, 107, 101, 46, 107, 105, 110, 100, 115, 36, 50]))], .agg [.lit (.string [109, 101, 97, 110, 115]), .iface "func" (.lit (.string [116, 111, 117, 99, 104, 109, 97, 114, 107, 47, 108, 105, 107, 101, 46, 107, 105, 110, 100, 115, 36, 51]))], .agg [.lit (.string [116, 117, 114, 110, 101, 100]), .iface "func" (.lit (.string [116, 111, 117, 99, 104, 109, 97, 114, 107, 47, 108, 105, 107, 101, 46, 107, 105, 110, 100, 115, 36, 52]))], .agg [.lit (.string [99, 117, 116]), .iface "func" (.lit (.string [116, 111, 117, 99, 104, 109, 97, 114, 107, 47, 108, 105, 107, 101, 46, 107, 105, 110, 100, 115, 36, 53]))], .agg [.lit (.string [102, 105, 103, 117, 114, 101, 115]), .iface "func" (.lit (.string [116, 111, 117, 99, 104, 109, 97, 114, 107, 47, 108, 105, 107, 101, 46, 107, 105, 110, 100, 115, 36, 54]))]])
/-- One of Go's own tables, pinned by name: the form's constant. -/
def laid_unicode_utf8_first : DataW Unit := Go.Pinned.utf8First
def laid_touchmark_like_doing {H : Type} : DataW H := .map [(.int .i64 0, .lit (.int .i64 1)), (.int .i64 1, .lit (.int .i64 2)), (.int .i64 2, .lit (.int .i64 3))]

/-- 'touchmarklaw02.LikeWords': WHATEVER THE INPUT: true; the input reads as it did. -/
def likeWordsSpec : ChangeSpec := { name := "likeWords", fn := fun _ => fun
  | [d1, d2, d3] => { results := [.lit (.bool true)], args := [d1, d2, d3] }
  | _ => none }
def likeWordsRow : OpenClaim := { program := "ytaglpcmhopjebaagreatdoor", sum := "c32cb7c8d1900dc38a86d3ae42d5eca03394409ce7c6b71018f39d8fb7c780a6", func := "touchmark/touchmarklaw02.LikeWords", spec := "likeWords", inPlace := ["internal/bytealg.IndexByteString", "internal/bytealg.IndexString", "internal/abi.NoEscape", "internal/bytealg.CountString", "internal/bytealg.MakeNoZero", "(*sync.WaitGroup).Add", "internal/race.ReleaseMerge", "internal/race.Disable", "internal/race.Enable", "internal/synctest.IsInBubble", "internal/synctest.Associate[sync.WaitGroup]", "sync.fatal", "sync/atomic.OrUint64", "sync/atomic.AddUint64", "internal/race.Read", "sync/atomic.LoadUint64", "sync/atomic.StoreUint64", "internal/synctest.Disassociate[sync.WaitGroup]", "sync.runtime_Semrelease", "(*sync.WaitGroup).Done", "(*sync.WaitGroup).Wait", "internal/race.Acquire", "internal/synctest.IsAssociated[sync.WaitGroup]", "sync/atomic.CompareAndSwapUint64", "internal/race.Write", "sync.runtime_SemacquireWaitGroup"], unfollowed := true, recurses := true, named := ["internal/bytealg.MaxLen", "unicode/utf8.first", "unicode/utf8.acceptRanges", "touchmark/like.kinds"], plainKeys := false, leaving := true, apart := false, laid := [("unicode/utf8.acceptRanges", laid_unicode_utf8_acceptRanges), ("touchmark/like.kinds", laid_touchmark_like_kinds), ("unicode/utf8.first", laid_unicode_utf8_first)] }
def LikeWordsSaid : Prop := likeWordsRow.holds Tryz.pinned (OpenSpec.ofChange likeWordsSpec)

/-- ITS FALSE NEIGHBOUR: 'it returns false'. Refute it at one input. -/
def likeWordsWrong : ChangeSpec := { name := "likeWords", fn := fun _ => fun
  | [d1, d2, d3] => { results := [.lit (.bool false)], args := [d1, d2, d3] }
  | _ => none }
def LikeWordsWrongFalsely : Prop := likeWordsRow.holds Tryz.pinned (OpenSpec.ofChange likeWordsWrong)

/-- 'touchmarklaw02.LikeLevels': WHATEVER THE INPUT: true; the input reads as it did. -/
def likeLevelsSpec : ChangeSpec := { name := "likeLevels", fn := fun _ => fun
  | [d1, d2, d3, d4] => { results := [.lit (.bool true)], args := [d1, d2, d3, d4] }
  | _ => none }
def likeLevelsRow : OpenClaim := { program := "ytaglpcmhopjebaagreatdoor", sum := "c32cb7c8d1900dc38a86d3ae42d5eca03394409ce7c6b71018f39d8fb7c780a6", func := "touchmark/touchmarklaw02.LikeLevels", spec := "likeLevels", inPlace := ["internal/bytealg.IndexByteString", "internal/bytealg.IndexString", "internal/abi.NoEscape", "internal/bytealg.CountString", "internal/bytealg.MakeNoZero", "(*sync.WaitGroup).Add", "internal/race.ReleaseMerge", "internal/race.Disable", "internal/race.Enable", "internal/synctest.IsInBubble", "internal/synctest.Associate[sync.WaitGroup]", "sync.fatal", "sync/atomic.OrUint64", "sync/atomic.AddUint64", "internal/race.Read", "sync/atomic.LoadUint64", "sync/atomic.StoreUint64", "internal/synctest.Disassociate[sync.WaitGroup]", "sync.runtime_Semrelease", "(*sync.WaitGroup).Done", "(*sync.WaitGroup).Wait", "internal/race.Acquire", "internal/synctest.IsAssociated[sync.WaitGroup]", "sync/atomic.CompareAndSwapUint64", "internal/race.Write", "sync.runtime_SemacquireWaitGroup"], unfollowed := true, recurses := true, named := ["internal/bytealg.MaxLen", "unicode/utf8.first", "unicode/utf8.acceptRanges", "touchmark/like.kinds"], plainKeys := false, leaving := true, apart := false, laid := [("unicode/utf8.acceptRanges", laid_unicode_utf8_acceptRanges), ("touchmark/like.kinds", laid_touchmark_like_kinds), ("unicode/utf8.first", laid_unicode_utf8_first)] }
def LikeLevelsSaid : Prop := likeLevelsRow.holds Tryz.pinned (OpenSpec.ofChange likeLevelsSpec)

/-- ITS FALSE NEIGHBOUR: 'it returns false'. Refute it at one input. -/
def likeLevelsWrong : ChangeSpec := { name := "likeLevels", fn := fun _ => fun
  | [d1, d2, d3, d4] => { results := [.lit (.bool false)], args := [d1, d2, d3, d4] }
  | _ => none }
def LikeLevelsWrongFalsely : Prop := likeLevelsRow.holds Tryz.pinned (OpenSpec.ofChange likeLevelsWrong)

/-- 'touchmarklaw02.LikeSame': WHATEVER THE INPUT: true; the input reads as it did. -/
def likeSameSpec : ChangeSpec := { name := "likeSame", fn := fun _ => fun
  | [d1, d2, d3, d4] => { results := [.lit (.bool true)], args := [d1, d2, d3, d4] }
  | _ => none }
def likeSameRow : OpenClaim := { program := "ytaglpcmhopjebaagreatdoor", sum := "c32cb7c8d1900dc38a86d3ae42d5eca03394409ce7c6b71018f39d8fb7c780a6", func := "touchmark/touchmarklaw02.LikeSame", spec := "likeSame", inPlace := ["internal/bytealg.IndexByteString", "internal/bytealg.IndexString", "internal/abi.NoEscape", "internal/bytealg.CountString", "internal/bytealg.MakeNoZero", "(*sync.WaitGroup).Add", "internal/race.ReleaseMerge", "internal/race.Disable", "internal/race.Enable", "internal/synctest.IsInBubble", "internal/synctest.Associate[sync.WaitGroup]", "sync.fatal", "sync/atomic.OrUint64", "sync/atomic.AddUint64", "internal/race.Read", "sync/atomic.LoadUint64", "sync/atomic.StoreUint64", "internal/synctest.Disassociate[sync.WaitGroup]", "sync.runtime_Semrelease", "(*sync.WaitGroup).Done", "(*sync.WaitGroup).Wait", "internal/race.Acquire", "internal/synctest.IsAssociated[sync.WaitGroup]", "sync/atomic.CompareAndSwapUint64", "internal/race.Write", "sync.runtime_SemacquireWaitGroup"], unfollowed := true, recurses := true, named := ["internal/bytealg.MaxLen", "unicode/utf8.first", "unicode/utf8.acceptRanges", "touchmark/like.kinds"], plainKeys := false, leaving := true, apart := false, laid := [("unicode/utf8.acceptRanges", laid_unicode_utf8_acceptRanges), ("touchmark/like.kinds", laid_touchmark_like_kinds), ("unicode/utf8.first", laid_unicode_utf8_first)] }
def LikeSameSaid : Prop := likeSameRow.holds Tryz.pinned (OpenSpec.ofChange likeSameSpec)

/-- ITS FALSE NEIGHBOUR: 'it returns false'. Refute it at one input. -/
def likeSameWrong : ChangeSpec := { name := "likeSame", fn := fun _ => fun
  | [d1, d2, d3, d4] => { results := [.lit (.bool false)], args := [d1, d2, d3, d4] }
  | _ => none }
def LikeSameWrongFalsely : Prop := likeSameRow.holds Tryz.pinned (OpenSpec.ofChange likeSameWrong)

/-- 'touchmarklaw02.LikeScripts': WHATEVER THE INPUT: true; the input reads as it did. -/
def likeScriptsSpec : ChangeSpec := { name := "likeScripts", fn := fun _ => fun
  | [d1, d2, d3, d4] => { results := [.lit (.bool true)], args := [d1, d2, d3, d4] }
  | _ => none }
def likeScriptsRow : OpenClaim := { program := "ytaglpcmhopjebaagreatdoor", sum := "c32cb7c8d1900dc38a86d3ae42d5eca03394409ce7c6b71018f39d8fb7c780a6", func := "touchmark/touchmarklaw02.LikeScripts", spec := "likeScripts", inPlace := ["internal/bytealg.IndexByteString", "internal/bytealg.IndexString", "internal/abi.NoEscape", "internal/bytealg.CountString", "internal/bytealg.MakeNoZero", "(*sync.WaitGroup).Add", "internal/race.ReleaseMerge", "internal/race.Disable", "internal/race.Enable", "internal/synctest.IsInBubble", "internal/synctest.Associate[sync.WaitGroup]", "sync.fatal", "sync/atomic.OrUint64", "sync/atomic.AddUint64", "internal/race.Read", "sync/atomic.LoadUint64", "sync/atomic.StoreUint64", "internal/synctest.Disassociate[sync.WaitGroup]", "sync.runtime_Semrelease", "(*sync.WaitGroup).Done", "(*sync.WaitGroup).Wait", "internal/race.Acquire", "internal/synctest.IsAssociated[sync.WaitGroup]", "sync/atomic.CompareAndSwapUint64", "internal/race.Write", "sync.runtime_SemacquireWaitGroup"], unfollowed := true, recurses := true, named := ["internal/bytealg.MaxLen", "unicode/utf8.first", "unicode/utf8.acceptRanges", "touchmark/like.kinds"], plainKeys := false, leaving := true, apart := false, laid := [("unicode/utf8.acceptRanges", laid_unicode_utf8_acceptRanges), ("touchmark/like.kinds", laid_touchmark_like_kinds), ("unicode/utf8.first", laid_unicode_utf8_first)] }
def LikeScriptsSaid : Prop := likeScriptsRow.holds Tryz.pinned (OpenSpec.ofChange likeScriptsSpec)

/-- ITS FALSE NEIGHBOUR: 'it returns false'. Refute it at one input. -/
def likeScriptsWrong : ChangeSpec := { name := "likeScripts", fn := fun _ => fun
  | [d1, d2, d3, d4] => { results := [.lit (.bool false)], args := [d1, d2, d3, d4] }
  | _ => none }
def LikeScriptsWrongFalsely : Prop := likeScriptsRow.holds Tryz.pinned (OpenSpec.ofChange likeScriptsWrong)

/-- 'touchmarklaw02.LikeTurns': WHATEVER THE INPUT: true; the input reads as it did. -/
def likeTurnsSpec : ChangeSpec := { name := "likeTurns", fn := fun _ => fun
  | [d1, d2] => { results := [.lit (.bool true)], args := [d1, d2] }
  | _ => none }
def likeTurnsRow : OpenClaim := { program := "ytaglpcmhopjebaagreatdoor", sum := "c32cb7c8d1900dc38a86d3ae42d5eca03394409ce7c6b71018f39d8fb7c780a6", func := "touchmark/touchmarklaw02.LikeTurns", spec := "likeTurns", inPlace := ["internal/bytealg.IndexByteString", "internal/bytealg.IndexString", "internal/abi.NoEscape", "internal/bytealg.CountString", "internal/bytealg.MakeNoZero", "(*sync.WaitGroup).Add", "internal/race.ReleaseMerge", "internal/race.Disable", "internal/race.Enable", "internal/synctest.IsInBubble", "internal/synctest.Associate[sync.WaitGroup]", "sync.fatal", "sync/atomic.OrUint64", "sync/atomic.AddUint64", "internal/race.Read", "sync/atomic.LoadUint64", "sync/atomic.StoreUint64", "internal/synctest.Disassociate[sync.WaitGroup]", "sync.runtime_Semrelease", "(*sync.WaitGroup).Done", "(*sync.WaitGroup).Wait", "internal/race.Acquire", "internal/synctest.IsAssociated[sync.WaitGroup]", "sync/atomic.CompareAndSwapUint64", "internal/race.Write", "sync.runtime_SemacquireWaitGroup"], unfollowed := true, recurses := true, named := ["internal/bytealg.MaxLen", "unicode/utf8.first", "unicode/utf8.acceptRanges", "touchmark/like.kinds"], plainKeys := false, leaving := true, apart := false, laid := [("unicode/utf8.acceptRanges", laid_unicode_utf8_acceptRanges), ("touchmark/like.kinds", laid_touchmark_like_kinds), ("unicode/utf8.first", laid_unicode_utf8_first)] }
def LikeTurnsSaid : Prop := likeTurnsRow.holds Tryz.pinned (OpenSpec.ofChange likeTurnsSpec)

/-- ITS FALSE NEIGHBOUR: 'it returns false'. Refute it at one input. -/
def likeTurnsWrong : ChangeSpec := { name := "likeTurns", fn := fun _ => fun
  | [d1, d2] => { results := [.lit (.bool false)], args := [d1, d2] }
  | _ => none }
def LikeTurnsWrongFalsely : Prop := likeTurnsRow.holds Tryz.pinned (OpenSpec.ofChange likeTurnsWrong)

/-- 'touchmarklaw02.LikeMoved': WHATEVER THE INPUT: true; the input reads as it did. -/
def likeMovedSpec : ChangeSpec := { name := "likeMoved", fn := fun _ => fun
  | [d1, d2] => { results := [.lit (.bool true)], args := [d1, d2] }
  | _ => none }
def likeMovedRow : OpenClaim := { program := "ytaglpcmhopjebaagreatdoor", sum := "c32cb7c8d1900dc38a86d3ae42d5eca03394409ce7c6b71018f39d8fb7c780a6", func := "touchmark/touchmarklaw02.LikeMoved", spec := "likeMoved", inPlace := ["internal/bytealg.IndexByteString", "internal/bytealg.IndexString", "internal/abi.NoEscape", "internal/bytealg.CountString", "internal/bytealg.MakeNoZero", "(*sync.WaitGroup).Add", "internal/race.ReleaseMerge", "internal/race.Disable", "internal/race.Enable", "internal/synctest.IsInBubble", "internal/synctest.Associate[sync.WaitGroup]", "sync.fatal", "sync/atomic.OrUint64", "sync/atomic.AddUint64", "internal/race.Read", "sync/atomic.LoadUint64", "sync/atomic.StoreUint64", "internal/synctest.Disassociate[sync.WaitGroup]", "sync.runtime_Semrelease", "(*sync.WaitGroup).Done", "(*sync.WaitGroup).Wait", "internal/race.Acquire", "internal/synctest.IsAssociated[sync.WaitGroup]", "sync/atomic.CompareAndSwapUint64", "internal/race.Write", "sync.runtime_SemacquireWaitGroup"], unfollowed := true, recurses := true, named := ["internal/bytealg.MaxLen", "unicode/utf8.first", "unicode/utf8.acceptRanges", "touchmark/like.kinds"], plainKeys := false, leaving := true, apart := false, laid := [("unicode/utf8.acceptRanges", laid_unicode_utf8_acceptRanges), ("touchmark/like.kinds", laid_touchmark_like_kinds), ("unicode/utf8.first", laid_unicode_utf8_first)] }
def LikeMovedSaid : Prop := likeMovedRow.holds Tryz.pinned (OpenSpec.ofChange likeMovedSpec)

/-- ITS FALSE NEIGHBOUR: 'it returns false'. Refute it at one input. -/
def likeMovedWrong : ChangeSpec := { name := "likeMoved", fn := fun _ => fun
  | [d1, d2] => { results := [.lit (.bool false)], args := [d1, d2] }
  | _ => none }
def LikeMovedWrongFalsely : Prop := likeMovedRow.holds Tryz.pinned (OpenSpec.ofChange likeMovedWrong)

/-- 'touchmarklaw02.LikeReach': WHATEVER THE INPUT: true; the input reads as it did. -/
def likeReachSpec : ChangeSpec := { name := "likeReach", fn := fun _ => fun
  | [d1, d2, d3, d4, d5] => { results := [.lit (.bool true)], args := [d1, d2, d3, d4, d5] }
  | _ => none }
def likeReachRow : OpenClaim := { program := "ytaglpcmhopjebaagreatdoor", sum := "c32cb7c8d1900dc38a86d3ae42d5eca03394409ce7c6b71018f39d8fb7c780a6", func := "touchmark/touchmarklaw02.LikeReach", spec := "likeReach", inPlace := ["internal/bytealg.IndexByteString", "internal/bytealg.IndexString", "internal/abi.NoEscape", "internal/bytealg.CountString", "internal/bytealg.MakeNoZero", "(*sync.WaitGroup).Add", "internal/race.ReleaseMerge", "internal/race.Disable", "internal/race.Enable", "internal/synctest.IsInBubble", "internal/synctest.Associate[sync.WaitGroup]", "sync.fatal", "sync/atomic.OrUint64", "sync/atomic.AddUint64", "internal/race.Read", "sync/atomic.LoadUint64", "sync/atomic.StoreUint64", "internal/synctest.Disassociate[sync.WaitGroup]", "sync.runtime_Semrelease", "(*sync.WaitGroup).Done", "(*sync.WaitGroup).Wait", "internal/race.Acquire", "internal/synctest.IsAssociated[sync.WaitGroup]", "sync/atomic.CompareAndSwapUint64", "internal/race.Write", "sync.runtime_SemacquireWaitGroup"], unfollowed := true, recurses := true, named := ["internal/bytealg.MaxLen", "unicode/utf8.first", "unicode/utf8.acceptRanges", "touchmark/like.kinds"], plainKeys := false, leaving := true, apart := false, laid := [("unicode/utf8.acceptRanges", laid_unicode_utf8_acceptRanges), ("touchmark/like.kinds", laid_touchmark_like_kinds), ("unicode/utf8.first", laid_unicode_utf8_first)] }
def LikeReachSaid : Prop := likeReachRow.holds Tryz.pinned (OpenSpec.ofChange likeReachSpec)

/-- ITS FALSE NEIGHBOUR: 'it returns false'. Refute it at one input. -/
def likeReachWrong : ChangeSpec := { name := "likeReach", fn := fun _ => fun
  | [d1, d2, d3, d4, d5] => { results := [.lit (.bool false)], args := [d1, d2, d3, d4, d5] }
  | _ => none }
def LikeReachWrongFalsely : Prop := likeReachRow.holds Tryz.pinned (OpenSpec.ofChange likeReachWrong)

/-- 'touchmarklaw02.LikeNear': WHATEVER THE INPUT: true; the input reads as it did. -/
def likeNearSpec : ChangeSpec := { name := "likeNear", fn := fun _ => fun
  | [d1, d2, d3] => { results := [.lit (.bool true)], args := [d1, d2, d3] }
  | _ => none }
def likeNearRow : OpenClaim := { program := "ytaglpcmhopjebaagreatdoor", sum := "c32cb7c8d1900dc38a86d3ae42d5eca03394409ce7c6b71018f39d8fb7c780a6", func := "touchmark/touchmarklaw02.LikeNear", spec := "likeNear", inPlace := ["internal/bytealg.IndexByteString", "internal/bytealg.IndexString", "internal/abi.NoEscape", "internal/bytealg.CountString", "internal/bytealg.MakeNoZero", "(*sync.WaitGroup).Add", "internal/race.ReleaseMerge", "internal/race.Disable", "internal/race.Enable", "internal/synctest.IsInBubble", "internal/synctest.Associate[sync.WaitGroup]", "sync.fatal", "sync/atomic.OrUint64", "sync/atomic.AddUint64", "internal/race.Read", "sync/atomic.LoadUint64", "sync/atomic.StoreUint64", "internal/synctest.Disassociate[sync.WaitGroup]", "sync.runtime_Semrelease", "(*sync.WaitGroup).Done", "(*sync.WaitGroup).Wait", "internal/race.Acquire", "internal/synctest.IsAssociated[sync.WaitGroup]", "sync/atomic.CompareAndSwapUint64", "internal/race.Write", "sync.runtime_SemacquireWaitGroup"], unfollowed := true, recurses := true, named := ["internal/bytealg.MaxLen", "unicode/utf8.first", "unicode/utf8.acceptRanges", "touchmark/like.kinds"], plainKeys := false, leaving := true, apart := false, laid := [("unicode/utf8.acceptRanges", laid_unicode_utf8_acceptRanges), ("touchmark/like.kinds", laid_touchmark_like_kinds), ("unicode/utf8.first", laid_unicode_utf8_first)] }
def LikeNearSaid : Prop := likeNearRow.holds Tryz.pinned (OpenSpec.ofChange likeNearSpec)

/-- ITS FALSE NEIGHBOUR: 'it returns false'. Refute it at one input. -/
def likeNearWrong : ChangeSpec := { name := "likeNear", fn := fun _ => fun
  | [d1, d2, d3] => { results := [.lit (.bool false)], args := [d1, d2, d3] }
  | _ => none }
def LikeNearWrongFalsely : Prop := likeNearRow.holds Tryz.pinned (OpenSpec.ofChange likeNearWrong)

/-- 'touchmarklaw02.LikeSearches': WHATEVER THE INPUT: true; the input reads as it did. -/
def likeSearchesSpec : ChangeSpec := { name := "likeSearches", fn := fun _ => fun
  | [d1, d2, d3] => { results := [.lit (.bool true)], args := [d1, d2, d3] }
  | _ => none }
def likeSearchesRow : OpenClaim := { program := "ytaglpcmhopjebaagreatdoor", sum := "c32cb7c8d1900dc38a86d3ae42d5eca03394409ce7c6b71018f39d8fb7c780a6", func := "touchmark/touchmarklaw02.LikeSearches", spec := "likeSearches", inPlace := ["internal/bytealg.IndexByteString", "internal/bytealg.IndexString", "internal/abi.NoEscape", "internal/bytealg.CountString", "internal/bytealg.MakeNoZero", "(*sync.WaitGroup).Add", "internal/race.ReleaseMerge", "internal/race.Disable", "internal/race.Enable", "internal/synctest.IsInBubble", "internal/synctest.Associate[sync.WaitGroup]", "sync.fatal", "sync/atomic.OrUint64", "sync/atomic.AddUint64", "internal/race.Read", "sync/atomic.LoadUint64", "sync/atomic.StoreUint64", "internal/synctest.Disassociate[sync.WaitGroup]", "sync.runtime_Semrelease", "(*sync.WaitGroup).Done", "(*sync.WaitGroup).Wait", "internal/race.Acquire", "internal/synctest.IsAssociated[sync.WaitGroup]", "sync/atomic.CompareAndSwapUint64", "internal/race.Write", "sync.runtime_SemacquireWaitGroup"], unfollowed := true, recurses := true, named := ["internal/bytealg.MaxLen", "unicode/utf8.first", "unicode/utf8.acceptRanges", "touchmark/like.kinds"], plainKeys := false, leaving := true, apart := false, laid := [("unicode/utf8.acceptRanges", laid_unicode_utf8_acceptRanges), ("touchmark/like.kinds", laid_touchmark_like_kinds), ("unicode/utf8.first", laid_unicode_utf8_first)] }
def LikeSearchesSaid : Prop := likeSearchesRow.holds Tryz.pinned (OpenSpec.ofChange likeSearchesSpec)

/-- ITS FALSE NEIGHBOUR: 'it returns false'. Refute it at one input. -/
def likeSearchesWrong : ChangeSpec := { name := "likeSearches", fn := fun _ => fun
  | [d1, d2, d3] => { results := [.lit (.bool false)], args := [d1, d2, d3] }
  | _ => none }
def LikeSearchesWrongFalsely : Prop := likeSearchesRow.holds Tryz.pinned (OpenSpec.ofChange likeSearchesWrong)

/-- 'touchmarklaw02.LikeBars': WHATEVER THE INPUT: true; the input reads as it did. -/
def likeBarsSpec : ChangeSpec := { name := "likeBars", fn := fun _ => fun
  | [d1, d2] => { results := [.lit (.bool true)], args := [d1, d2] }
  | _ => none }
def likeBarsRow : OpenClaim := { program := "ytaglpcmhopjebaagreatdoor", sum := "c32cb7c8d1900dc38a86d3ae42d5eca03394409ce7c6b71018f39d8fb7c780a6", func := "touchmark/touchmarklaw02.LikeBars", spec := "likeBars", inPlace := ["internal/bytealg.IndexByteString", "internal/bytealg.IndexString", "internal/abi.NoEscape", "internal/bytealg.CountString", "internal/bytealg.MakeNoZero", "(*sync.WaitGroup).Add", "internal/race.ReleaseMerge", "internal/race.Disable", "internal/race.Enable", "internal/synctest.IsInBubble", "internal/synctest.Associate[sync.WaitGroup]", "sync.fatal", "sync/atomic.OrUint64", "sync/atomic.AddUint64", "internal/race.Read", "sync/atomic.LoadUint64", "sync/atomic.StoreUint64", "internal/synctest.Disassociate[sync.WaitGroup]", "sync.runtime_Semrelease", "(*sync.WaitGroup).Done", "(*sync.WaitGroup).Wait", "internal/race.Acquire", "internal/synctest.IsAssociated[sync.WaitGroup]", "sync/atomic.CompareAndSwapUint64", "internal/race.Write", "sync.runtime_SemacquireWaitGroup"], unfollowed := true, recurses := true, named := ["internal/bytealg.MaxLen", "unicode/utf8.first", "unicode/utf8.acceptRanges", "touchmark/like.kinds"], plainKeys := false, leaving := true, apart := false, laid := [("unicode/utf8.acceptRanges", laid_unicode_utf8_acceptRanges), ("touchmark/like.kinds", laid_touchmark_like_kinds), ("unicode/utf8.first", laid_unicode_utf8_first)] }
def LikeBarsSaid : Prop := likeBarsRow.holds Tryz.pinned (OpenSpec.ofChange likeBarsSpec)

/-- ITS FALSE NEIGHBOUR: 'it returns false'. Refute it at one input. -/
def likeBarsWrong : ChangeSpec := { name := "likeBars", fn := fun _ => fun
  | [d1, d2] => { results := [.lit (.bool false)], args := [d1, d2] }
  | _ => none }
def LikeBarsWrongFalsely : Prop := likeBarsRow.holds Tryz.pinned (OpenSpec.ofChange likeBarsWrong)

/-- 'touchmarklaw02.LikeEdits': WHATEVER THE INPUT: true; the input reads as it did. -/
def likeEditsSpec : ChangeSpec := { name := "likeEdits", fn := fun _ => fun
  | [d1, d2, d3] => { results := [.lit (.bool true)], args := [d1, d2, d3] }
  | _ => none }
def likeEditsRow : OpenClaim := { program := "ytaglpcmhopjebaagreatdoor", sum := "c32cb7c8d1900dc38a86d3ae42d5eca03394409ce7c6b71018f39d8fb7c780a6", func := "touchmark/touchmarklaw02.LikeEdits", spec := "likeEdits", inPlace := ["internal/bytealg.IndexByteString", "internal/bytealg.IndexString", "internal/abi.NoEscape", "internal/bytealg.CountString", "internal/bytealg.MakeNoZero", "(*sync.WaitGroup).Add", "internal/race.ReleaseMerge", "internal/race.Disable", "internal/race.Enable", "internal/synctest.IsInBubble", "internal/synctest.Associate[sync.WaitGroup]", "sync.fatal", "sync/atomic.OrUint64", "sync/atomic.AddUint64", "internal/race.Read", "sync/atomic.LoadUint64", "sync/atomic.StoreUint64", "internal/synctest.Disassociate[sync.WaitGroup]", "sync.runtime_Semrelease", "(*sync.WaitGroup).Done", "(*sync.WaitGroup).Wait", "internal/race.Acquire", "internal/synctest.IsAssociated[sync.WaitGroup]", "sync/atomic.CompareAndSwapUint64", "internal/race.Write", "sync.runtime_SemacquireWaitGroup"], unfollowed := true, recurses := true, named := ["internal/bytealg.MaxLen", "unicode/utf8.first", "unicode/utf8.acceptRanges", "touchmark/like.kinds", "touchmark/like.doing"], plainKeys := false, leaving := true, apart := false, laid := [("unicode/utf8.acceptRanges", laid_unicode_utf8_acceptRanges), ("touchmark/like.doing", laid_touchmark_like_doing), ("touchmark/like.kinds", laid_touchmark_like_kinds), ("unicode/utf8.first", laid_unicode_utf8_first)] }
def LikeEditsSaid : Prop := likeEditsRow.holds Tryz.pinned (OpenSpec.ofChange likeEditsSpec)

/-- ITS FALSE NEIGHBOUR: 'it returns false'. Refute it at one input. -/
def likeEditsWrong : ChangeSpec := { name := "likeEdits", fn := fun _ => fun
  | [d1, d2, d3] => { results := [.lit (.bool false)], args := [d1, d2, d3] }
  | _ => none }
def LikeEditsWrongFalsely : Prop := likeEditsRow.holds Tryz.pinned (OpenSpec.ofChange likeEditsWrong)

/-- 'touchmarklaw02.LikeFewest': WHATEVER THE INPUT: true; the input reads as it did. -/
def likeFewestSpec : ChangeSpec := { name := "likeFewest", fn := fun _ => fun
  | [d1, d2, d3] => { results := [.lit (.bool true)], args := [d1, d2, d3] }
  | _ => none }
def likeFewestRow : OpenClaim := { program := "ytaglpcmhopjebaagreatdoor", sum := "c32cb7c8d1900dc38a86d3ae42d5eca03394409ce7c6b71018f39d8fb7c780a6", func := "touchmark/touchmarklaw02.LikeFewest", spec := "likeFewest", inPlace := ["internal/bytealg.IndexByteString", "internal/bytealg.IndexString", "internal/abi.NoEscape", "internal/bytealg.CountString", "internal/bytealg.MakeNoZero", "(*sync.WaitGroup).Add", "internal/race.ReleaseMerge", "internal/race.Disable", "internal/race.Enable", "internal/synctest.IsInBubble", "internal/synctest.Associate[sync.WaitGroup]", "sync.fatal", "sync/atomic.OrUint64", "sync/atomic.AddUint64", "internal/race.Read", "sync/atomic.LoadUint64", "sync/atomic.StoreUint64", "internal/synctest.Disassociate[sync.WaitGroup]", "sync.runtime_Semrelease", "(*sync.WaitGroup).Done", "(*sync.WaitGroup).Wait", "internal/race.Acquire", "internal/synctest.IsAssociated[sync.WaitGroup]", "sync/atomic.CompareAndSwapUint64", "internal/race.Write", "sync.runtime_SemacquireWaitGroup"], unfollowed := true, recurses := true, named := ["internal/bytealg.MaxLen", "unicode/utf8.first", "unicode/utf8.acceptRanges", "touchmark/like.kinds", "touchmark/like.doing"], plainKeys := false, leaving := true, apart := false, laid := [("unicode/utf8.acceptRanges", laid_unicode_utf8_acceptRanges), ("touchmark/like.doing", laid_touchmark_like_doing), ("touchmark/like.kinds", laid_touchmark_like_kinds), ("unicode/utf8.first", laid_unicode_utf8_first)] }
def LikeFewestSaid : Prop := likeFewestRow.holds Tryz.pinned (OpenSpec.ofChange likeFewestSpec)

/-- ITS FALSE NEIGHBOUR: 'it returns false'. Refute it at one input. -/
def likeFewestWrong : ChangeSpec := { name := "likeFewest", fn := fun _ => fun
  | [d1, d2, d3] => { results := [.lit (.bool false)], args := [d1, d2, d3] }
  | _ => none }
def LikeFewestWrongFalsely : Prop := likeFewestRow.holds Tryz.pinned (OpenSpec.ofChange likeFewestWrong)

/-- 'touchmarklaw02.LikeThird': WHATEVER THE INPUT: true; the input reads as it did. -/
def likeThirdSpec : ChangeSpec := { name := "likeThird", fn := fun _ => fun
  | [d1, d2] => { results := [.lit (.bool true)], args := [d1, d2] }
  | _ => none }
def likeThirdRow : OpenClaim := { program := "ytaglpcmhopjebaagreatdoor", sum := "c32cb7c8d1900dc38a86d3ae42d5eca03394409ce7c6b71018f39d8fb7c780a6", func := "touchmark/touchmarklaw02.LikeThird", spec := "likeThird", inPlace := ["internal/bytealg.IndexByteString", "internal/bytealg.IndexString", "internal/abi.NoEscape", "internal/bytealg.CountString", "internal/bytealg.MakeNoZero", "(*sync.WaitGroup).Add", "internal/race.ReleaseMerge", "internal/race.Disable", "internal/race.Enable", "internal/synctest.IsInBubble", "internal/synctest.Associate[sync.WaitGroup]", "sync.fatal", "sync/atomic.OrUint64", "sync/atomic.AddUint64", "internal/race.Read", "sync/atomic.LoadUint64", "sync/atomic.StoreUint64", "internal/synctest.Disassociate[sync.WaitGroup]", "sync.runtime_Semrelease", "(*sync.WaitGroup).Done", "(*sync.WaitGroup).Wait", "internal/race.Acquire", "internal/synctest.IsAssociated[sync.WaitGroup]", "sync/atomic.CompareAndSwapUint64", "internal/race.Write", "sync.runtime_SemacquireWaitGroup"], unfollowed := true, recurses := true, named := ["internal/bytealg.MaxLen", "unicode/utf8.first", "unicode/utf8.acceptRanges", "touchmark/like.kinds", "touchmark/like.doing"], plainKeys := false, leaving := true, apart := false, laid := [("unicode/utf8.acceptRanges", laid_unicode_utf8_acceptRanges), ("touchmark/like.doing", laid_touchmark_like_doing), ("touchmark/like.kinds", laid_touchmark_like_kinds), ("unicode/utf8.first", laid_unicode_utf8_first)] }
def LikeThirdSaid : Prop := likeThirdRow.holds Tryz.pinned (OpenSpec.ofChange likeThirdSpec)

/-- ITS FALSE NEIGHBOUR: 'it returns false'. Refute it at one input. -/
def likeThirdWrong : ChangeSpec := { name := "likeThird", fn := fun _ => fun
  | [d1, d2] => { results := [.lit (.bool false)], args := [d1, d2] }
  | _ => none }
def LikeThirdWrongFalsely : Prop := likeThirdRow.holds Tryz.pinned (OpenSpec.ofChange likeThirdWrong)

/- THE SECOND FORM. 'bulk': how many values and letters a reading holds, each counted each time it is reached (what is shared counts as often as it is met; a slice's spare places count too). A statement '..UptoSaid' is the law's where the arguments, and the package variables that the reading takes, are together of bulk at most 1048576: NARROWER than '..Said'. Prove '..Said' where nothing that the law and all that it calls make is longer than what came in: it says more and counts as full. Else prove '..UptoSaid'. A law counts once. -/
mutual
def uptoBulk {H : Type} : DataW H → Nat
  | .lit (.string bytes) => bytes.length + 1
  | .lit _ => 1
  | .nil => 1
  | .ptr d => uptoBulk d + 1
  | .slice elems spare => uptoBulkAll elems + uptoBulkAll spare + 1
  | .agg parts => uptoBulkAll parts + 1
  | .iface _ d => uptoBulk d + 1
  | .map entries => uptoBulkEntries entries + 1
  | .held _ => 1
def uptoBulkAll {H : Type} : List (DataW H) → Nat
  | [] => 0
  | d :: r => uptoBulk d + uptoBulkAll r
def uptoBulkEntries {H : Type} : List (Lit × DataW H) → Nat
  | [] => 0
  | x :: r => uptoBulkEntry x + uptoBulkEntries r
def uptoBulkEntry {H : Type} : Lit × DataW H → Nat
  | (.string bytes, d) => bytes.length + uptoBulk d + 1
  | (_, d) => uptoBulk d + 1
 end
def uptoSmall : (H : Type) → List (DataW H) → Bool := fun _ ds => decide (uptoBulkAll ds ≤ 1048576)
def OpenSpec.upto (s : _root_.Go.ChangeSpec) : _root_.Go.OpenSpec := { _root_.Go.OpenSpec.ofChange s with cond := some uptoSmall }

/-- 'touchmarklaw02.LikeWords', WHERE WHAT IT READS IS OF BULK AT MOST 1048576: true; the input reads as it did. -/
def likeWordsUptoRow : OpenClaim := { program := "ytaglpcmhopjebaagreatdoor", sum := "c32cb7c8d1900dc38a86d3ae42d5eca03394409ce7c6b71018f39d8fb7c780a6", func := "touchmark/touchmarklaw02.LikeWords", spec := "likeWords", inPlace := ["internal/bytealg.IndexByteString", "internal/bytealg.IndexString", "internal/abi.NoEscape", "internal/bytealg.CountString", "internal/bytealg.MakeNoZero", "(*sync.WaitGroup).Add", "internal/race.ReleaseMerge", "internal/race.Disable", "internal/race.Enable", "internal/synctest.IsInBubble", "internal/synctest.Associate[sync.WaitGroup]", "sync.fatal", "sync/atomic.OrUint64", "sync/atomic.AddUint64", "internal/race.Read", "sync/atomic.LoadUint64", "sync/atomic.StoreUint64", "internal/synctest.Disassociate[sync.WaitGroup]", "sync.runtime_Semrelease", "(*sync.WaitGroup).Done", "(*sync.WaitGroup).Wait", "internal/race.Acquire", "internal/synctest.IsAssociated[sync.WaitGroup]", "sync/atomic.CompareAndSwapUint64", "internal/race.Write", "sync.runtime_SemacquireWaitGroup"], unfollowed := true, recurses := true, named := ["internal/bytealg.MaxLen", "unicode/utf8.first", "unicode/utf8.acceptRanges", "touchmark/like.kinds"], plainKeys := false, leaving := true, apart := false, laid := [("unicode/utf8.acceptRanges", laid_unicode_utf8_acceptRanges), ("touchmark/like.kinds", laid_touchmark_like_kinds), ("unicode/utf8.first", laid_unicode_utf8_first)], narrowed := true }
def LikeWordsUptoSaid : Prop := likeWordsUptoRow.holds Tryz.pinned (OpenSpec.upto likeWordsSpec)

/-- 'touchmarklaw02.LikeLevels', WHERE WHAT IT READS IS OF BULK AT MOST 1048576: true; the input reads as it did. -/
def likeLevelsUptoRow : OpenClaim := { program := "ytaglpcmhopjebaagreatdoor", sum := "c32cb7c8d1900dc38a86d3ae42d5eca03394409ce7c6b71018f39d8fb7c780a6", func := "touchmark/touchmarklaw02.LikeLevels", spec := "likeLevels", inPlace := ["internal/bytealg.IndexByteString", "internal/bytealg.IndexString", "internal/abi.NoEscape", "internal/bytealg.CountString", "internal/bytealg.MakeNoZero", "(*sync.WaitGroup).Add", "internal/race.ReleaseMerge", "internal/race.Disable", "internal/race.Enable", "internal/synctest.IsInBubble", "internal/synctest.Associate[sync.WaitGroup]", "sync.fatal", "sync/atomic.OrUint64", "sync/atomic.AddUint64", "internal/race.Read", "sync/atomic.LoadUint64", "sync/atomic.StoreUint64", "internal/synctest.Disassociate[sync.WaitGroup]", "sync.runtime_Semrelease", "(*sync.WaitGroup).Done", "(*sync.WaitGroup).Wait", "internal/race.Acquire", "internal/synctest.IsAssociated[sync.WaitGroup]", "sync/atomic.CompareAndSwapUint64", "internal/race.Write", "sync.runtime_SemacquireWaitGroup"], unfollowed := true, recurses := true, named := ["internal/bytealg.MaxLen", "unicode/utf8.first", "unicode/utf8.acceptRanges", "touchmark/like.kinds"], plainKeys := false, leaving := true, apart := false, laid := [("unicode/utf8.acceptRanges", laid_unicode_utf8_acceptRanges), ("touchmark/like.kinds", laid_touchmark_like_kinds), ("unicode/utf8.first", laid_unicode_utf8_first)], narrowed := true }
def LikeLevelsUptoSaid : Prop := likeLevelsUptoRow.holds Tryz.pinned (OpenSpec.upto likeLevelsSpec)

/-- 'touchmarklaw02.LikeSame', WHERE WHAT IT READS IS OF BULK AT MOST 1048576: true; the input reads as it did. -/
def likeSameUptoRow : OpenClaim := { program := "ytaglpcmhopjebaagreatdoor", sum := "c32cb7c8d1900dc38a86d3ae42d5eca03394409ce7c6b71018f39d8fb7c780a6", func := "touchmark/touchmarklaw02.LikeSame", spec := "likeSame", inPlace := ["internal/bytealg.IndexByteString", "internal/bytealg.IndexString", "internal/abi.NoEscape", "internal/bytealg.CountString", "internal/bytealg.MakeNoZero", "(*sync.WaitGroup).Add", "internal/race.ReleaseMerge", "internal/race.Disable", "internal/race.Enable", "internal/synctest.IsInBubble", "internal/synctest.Associate[sync.WaitGroup]", "sync.fatal", "sync/atomic.OrUint64", "sync/atomic.AddUint64", "internal/race.Read", "sync/atomic.LoadUint64", "sync/atomic.StoreUint64", "internal/synctest.Disassociate[sync.WaitGroup]", "sync.runtime_Semrelease", "(*sync.WaitGroup).Done", "(*sync.WaitGroup).Wait", "internal/race.Acquire", "internal/synctest.IsAssociated[sync.WaitGroup]", "sync/atomic.CompareAndSwapUint64", "internal/race.Write", "sync.runtime_SemacquireWaitGroup"], unfollowed := true, recurses := true, named := ["internal/bytealg.MaxLen", "unicode/utf8.first", "unicode/utf8.acceptRanges", "touchmark/like.kinds"], plainKeys := false, leaving := true, apart := false, laid := [("unicode/utf8.acceptRanges", laid_unicode_utf8_acceptRanges), ("touchmark/like.kinds", laid_touchmark_like_kinds), ("unicode/utf8.first", laid_unicode_utf8_first)], narrowed := true }
def LikeSameUptoSaid : Prop := likeSameUptoRow.holds Tryz.pinned (OpenSpec.upto likeSameSpec)

/-- 'touchmarklaw02.LikeScripts', WHERE WHAT IT READS IS OF BULK AT MOST 1048576: true; the input reads as it did. -/
def likeScriptsUptoRow : OpenClaim := { program := "ytaglpcmhopjebaagreatdoor", sum := "c32cb7c8d1900dc38a86d3ae42d5eca03394409ce7c6b71018f39d8fb7c780a6", func := "touchmark/touchmarklaw02.LikeScripts", spec := "likeScripts", inPlace := ["internal/bytealg.IndexByteString", "internal/bytealg.IndexString", "internal/abi.NoEscape", "internal/bytealg.CountString", "internal/bytealg.MakeNoZero", "(*sync.WaitGroup).Add", "internal/race.ReleaseMerge", "internal/race.Disable", "internal/race.Enable", "internal/synctest.IsInBubble", "internal/synctest.Associate[sync.WaitGroup]", "sync.fatal", "sync/atomic.OrUint64", "sync/atomic.AddUint64", "internal/race.Read", "sync/atomic.LoadUint64", "sync/atomic.StoreUint64", "internal/synctest.Disassociate[sync.WaitGroup]", "sync.runtime_Semrelease", "(*sync.WaitGroup).Done", "(*sync.WaitGroup).Wait", "internal/race.Acquire", "internal/synctest.IsAssociated[sync.WaitGroup]", "sync/atomic.CompareAndSwapUint64", "internal/race.Write", "sync.runtime_SemacquireWaitGroup"], unfollowed := true, recurses := true, named := ["internal/bytealg.MaxLen", "unicode/utf8.first", "unicode/utf8.acceptRanges", "touchmark/like.kinds"], plainKeys := false, leaving := true, apart := false, laid := [("unicode/utf8.acceptRanges", laid_unicode_utf8_acceptRanges), ("touchmark/like.kinds", laid_touchmark_like_kinds), ("unicode/utf8.first", laid_unicode_utf8_first)], narrowed := true }
def LikeScriptsUptoSaid : Prop := likeScriptsUptoRow.holds Tryz.pinned (OpenSpec.upto likeScriptsSpec)

/-- 'touchmarklaw02.LikeTurns', WHERE WHAT IT READS IS OF BULK AT MOST 1048576: true; the input reads as it did. -/
def likeTurnsUptoRow : OpenClaim := { program := "ytaglpcmhopjebaagreatdoor", sum := "c32cb7c8d1900dc38a86d3ae42d5eca03394409ce7c6b71018f39d8fb7c780a6", func := "touchmark/touchmarklaw02.LikeTurns", spec := "likeTurns", inPlace := ["internal/bytealg.IndexByteString", "internal/bytealg.IndexString", "internal/abi.NoEscape", "internal/bytealg.CountString", "internal/bytealg.MakeNoZero", "(*sync.WaitGroup).Add", "internal/race.ReleaseMerge", "internal/race.Disable", "internal/race.Enable", "internal/synctest.IsInBubble", "internal/synctest.Associate[sync.WaitGroup]", "sync.fatal", "sync/atomic.OrUint64", "sync/atomic.AddUint64", "internal/race.Read", "sync/atomic.LoadUint64", "sync/atomic.StoreUint64", "internal/synctest.Disassociate[sync.WaitGroup]", "sync.runtime_Semrelease", "(*sync.WaitGroup).Done", "(*sync.WaitGroup).Wait", "internal/race.Acquire", "internal/synctest.IsAssociated[sync.WaitGroup]", "sync/atomic.CompareAndSwapUint64", "internal/race.Write", "sync.runtime_SemacquireWaitGroup"], unfollowed := true, recurses := true, named := ["internal/bytealg.MaxLen", "unicode/utf8.first", "unicode/utf8.acceptRanges", "touchmark/like.kinds"], plainKeys := false, leaving := true, apart := false, laid := [("unicode/utf8.acceptRanges", laid_unicode_utf8_acceptRanges), ("touchmark/like.kinds", laid_touchmark_like_kinds), ("unicode/utf8.first", laid_unicode_utf8_first)], narrowed := true }
def LikeTurnsUptoSaid : Prop := likeTurnsUptoRow.holds Tryz.pinned (OpenSpec.upto likeTurnsSpec)

/-- 'touchmarklaw02.LikeMoved', WHERE WHAT IT READS IS OF BULK AT MOST 1048576: true; the input reads as it did. -/
def likeMovedUptoRow : OpenClaim := { program := "ytaglpcmhopjebaagreatdoor", sum := "c32cb7c8d1900dc38a86d3ae42d5eca03394409ce7c6b71018f39d8fb7c780a6", func := "touchmark/touchmarklaw02.LikeMoved", spec := "likeMoved", inPlace := ["internal/bytealg.IndexByteString", "internal/bytealg.IndexString", "internal/abi.NoEscape", "internal/bytealg.CountString", "internal/bytealg.MakeNoZero", "(*sync.WaitGroup).Add", "internal/race.ReleaseMerge", "internal/race.Disable", "internal/race.Enable", "internal/synctest.IsInBubble", "internal/synctest.Associate[sync.WaitGroup]", "sync.fatal", "sync/atomic.OrUint64", "sync/atomic.AddUint64", "internal/race.Read", "sync/atomic.LoadUint64", "sync/atomic.StoreUint64", "internal/synctest.Disassociate[sync.WaitGroup]", "sync.runtime_Semrelease", "(*sync.WaitGroup).Done", "(*sync.WaitGroup).Wait", "internal/race.Acquire", "internal/synctest.IsAssociated[sync.WaitGroup]", "sync/atomic.CompareAndSwapUint64", "internal/race.Write", "sync.runtime_SemacquireWaitGroup"], unfollowed := true, recurses := true, named := ["internal/bytealg.MaxLen", "unicode/utf8.first", "unicode/utf8.acceptRanges", "touchmark/like.kinds"], plainKeys := false, leaving := true, apart := false, laid := [("unicode/utf8.acceptRanges", laid_unicode_utf8_acceptRanges), ("touchmark/like.kinds", laid_touchmark_like_kinds), ("unicode/utf8.first", laid_unicode_utf8_first)], narrowed := true }
def LikeMovedUptoSaid : Prop := likeMovedUptoRow.holds Tryz.pinned (OpenSpec.upto likeMovedSpec)

/-- 'touchmarklaw02.LikeReach', WHERE WHAT IT READS IS OF BULK AT MOST 1048576: true; the input reads as it did. -/
def likeReachUptoRow : OpenClaim := { program := "ytaglpcmhopjebaagreatdoor", sum := "c32cb7c8d1900dc38a86d3ae42d5eca03394409ce7c6b71018f39d8fb7c780a6", func := "touchmark/touchmarklaw02.LikeReach", spec := "likeReach", inPlace := ["internal/bytealg.IndexByteString", "internal/bytealg.IndexString", "internal/abi.NoEscape", "internal/bytealg.CountString", "internal/bytealg.MakeNoZero", "(*sync.WaitGroup).Add", "internal/race.ReleaseMerge", "internal/race.Disable", "internal/race.Enable", "internal/synctest.IsInBubble", "internal/synctest.Associate[sync.WaitGroup]", "sync.fatal", "sync/atomic.OrUint64", "sync/atomic.AddUint64", "internal/race.Read", "sync/atomic.LoadUint64", "sync/atomic.StoreUint64", "internal/synctest.Disassociate[sync.WaitGroup]", "sync.runtime_Semrelease", "(*sync.WaitGroup).Done", "(*sync.WaitGroup).Wait", "internal/race.Acquire", "internal/synctest.IsAssociated[sync.WaitGroup]", "sync/atomic.CompareAndSwapUint64", "internal/race.Write", "sync.runtime_SemacquireWaitGroup"], unfollowed := true, recurses := true, named := ["internal/bytealg.MaxLen", "unicode/utf8.first", "unicode/utf8.acceptRanges", "touchmark/like.kinds"], plainKeys := false, leaving := true, apart := false, laid := [("unicode/utf8.acceptRanges", laid_unicode_utf8_acceptRanges), ("touchmark/like.kinds", laid_touchmark_like_kinds), ("unicode/utf8.first", laid_unicode_utf8_first)], narrowed := true }
def LikeReachUptoSaid : Prop := likeReachUptoRow.holds Tryz.pinned (OpenSpec.upto likeReachSpec)

/-- 'touchmarklaw02.LikeNear', WHERE WHAT IT READS IS OF BULK AT MOST 1048576: true; the input reads as it did. -/
def likeNearUptoRow : OpenClaim := { program := "ytaglpcmhopjebaagreatdoor", sum := "c32cb7c8d1900dc38a86d3ae42d5eca03394409ce7c6b71018f39d8fb7c780a6", func := "touchmark/touchmarklaw02.LikeNear", spec := "likeNear", inPlace := ["internal/bytealg.IndexByteString", "internal/bytealg.IndexString", "internal/abi.NoEscape", "internal/bytealg.CountString", "internal/bytealg.MakeNoZero", "(*sync.WaitGroup).Add", "internal/race.ReleaseMerge", "internal/race.Disable", "internal/race.Enable", "internal/synctest.IsInBubble", "internal/synctest.Associate[sync.WaitGroup]", "sync.fatal", "sync/atomic.OrUint64", "sync/atomic.AddUint64", "internal/race.Read", "sync/atomic.LoadUint64", "sync/atomic.StoreUint64", "internal/synctest.Disassociate[sync.WaitGroup]", "sync.runtime_Semrelease", "(*sync.WaitGroup).Done", "(*sync.WaitGroup).Wait", "internal/race.Acquire", "internal/synctest.IsAssociated[sync.WaitGroup]", "sync/atomic.CompareAndSwapUint64", "internal/race.Write", "sync.runtime_SemacquireWaitGroup"], unfollowed := true, recurses := true, named := ["internal/bytealg.MaxLen", "unicode/utf8.first", "unicode/utf8.acceptRanges", "touchmark/like.kinds"], plainKeys := false, leaving := true, apart := false, laid := [("unicode/utf8.acceptRanges", laid_unicode_utf8_acceptRanges), ("touchmark/like.kinds", laid_touchmark_like_kinds), ("unicode/utf8.first", laid_unicode_utf8_first)], narrowed := true }
def LikeNearUptoSaid : Prop := likeNearUptoRow.holds Tryz.pinned (OpenSpec.upto likeNearSpec)

/-- 'touchmarklaw02.LikeSearches', WHERE WHAT IT READS IS OF BULK AT MOST 1048576: true; the input reads as it did. -/
def likeSearchesUptoRow : OpenClaim := { program := "ytaglpcmhopjebaagreatdoor", sum := "c32cb7c8d1900dc38a86d3ae42d5eca03394409ce7c6b71018f39d8fb7c780a6", func := "touchmark/touchmarklaw02.LikeSearches", spec := "likeSearches", inPlace := ["internal/bytealg.IndexByteString", "internal/bytealg.IndexString", "internal/abi.NoEscape", "internal/bytealg.CountString", "internal/bytealg.MakeNoZero", "(*sync.WaitGroup).Add", "internal/race.ReleaseMerge", "internal/race.Disable", "internal/race.Enable", "internal/synctest.IsInBubble", "internal/synctest.Associate[sync.WaitGroup]", "sync.fatal", "sync/atomic.OrUint64", "sync/atomic.AddUint64", "internal/race.Read", "sync/atomic.LoadUint64", "sync/atomic.StoreUint64", "internal/synctest.Disassociate[sync.WaitGroup]", "sync.runtime_Semrelease", "(*sync.WaitGroup).Done", "(*sync.WaitGroup).Wait", "internal/race.Acquire", "internal/synctest.IsAssociated[sync.WaitGroup]", "sync/atomic.CompareAndSwapUint64", "internal/race.Write", "sync.runtime_SemacquireWaitGroup"], unfollowed := true, recurses := true, named := ["internal/bytealg.MaxLen", "unicode/utf8.first", "unicode/utf8.acceptRanges", "touchmark/like.kinds"], plainKeys := false, leaving := true, apart := false, laid := [("unicode/utf8.acceptRanges", laid_unicode_utf8_acceptRanges), ("touchmark/like.kinds", laid_touchmark_like_kinds), ("unicode/utf8.first", laid_unicode_utf8_first)], narrowed := true }
def LikeSearchesUptoSaid : Prop := likeSearchesUptoRow.holds Tryz.pinned (OpenSpec.upto likeSearchesSpec)

/-- 'touchmarklaw02.LikeBars', WHERE WHAT IT READS IS OF BULK AT MOST 1048576: true; the input reads as it did. -/
def likeBarsUptoRow : OpenClaim := { program := "ytaglpcmhopjebaagreatdoor", sum := "c32cb7c8d1900dc38a86d3ae42d5eca03394409ce7c6b71018f39d8fb7c780a6", func := "touchmark/touchmarklaw02.LikeBars", spec := "likeBars", inPlace := ["internal/bytealg.IndexByteString", "internal/bytealg.IndexString", "internal/abi.NoEscape", "internal/bytealg.CountString", "internal/bytealg.MakeNoZero", "(*sync.WaitGroup).Add", "internal/race.ReleaseMerge", "internal/race.Disable", "internal/race.Enable", "internal/synctest.IsInBubble", "internal/synctest.Associate[sync.WaitGroup]", "sync.fatal", "sync/atomic.OrUint64", "sync/atomic.AddUint64", "internal/race.Read", "sync/atomic.LoadUint64", "sync/atomic.StoreUint64", "internal/synctest.Disassociate[sync.WaitGroup]", "sync.runtime_Semrelease", "(*sync.WaitGroup).Done", "(*sync.WaitGroup).Wait", "internal/race.Acquire", "internal/synctest.IsAssociated[sync.WaitGroup]", "sync/atomic.CompareAndSwapUint64", "internal/race.Write", "sync.runtime_SemacquireWaitGroup"], unfollowed := true, recurses := true, named := ["internal/bytealg.MaxLen", "unicode/utf8.first", "unicode/utf8.acceptRanges", "touchmark/like.kinds"], plainKeys := false, leaving := true, apart := false, laid := [("unicode/utf8.acceptRanges", laid_unicode_utf8_acceptRanges), ("touchmark/like.kinds", laid_touchmark_like_kinds), ("unicode/utf8.first", laid_unicode_utf8_first)], narrowed := true }
def LikeBarsUptoSaid : Prop := likeBarsUptoRow.holds Tryz.pinned (OpenSpec.upto likeBarsSpec)

/-- 'touchmarklaw02.LikeEdits', WHERE WHAT IT READS IS OF BULK AT MOST 1048576: true; the input reads as it did. -/
def likeEditsUptoRow : OpenClaim := { program := "ytaglpcmhopjebaagreatdoor", sum := "c32cb7c8d1900dc38a86d3ae42d5eca03394409ce7c6b71018f39d8fb7c780a6", func := "touchmark/touchmarklaw02.LikeEdits", spec := "likeEdits", inPlace := ["internal/bytealg.IndexByteString", "internal/bytealg.IndexString", "internal/abi.NoEscape", "internal/bytealg.CountString", "internal/bytealg.MakeNoZero", "(*sync.WaitGroup).Add", "internal/race.ReleaseMerge", "internal/race.Disable", "internal/race.Enable", "internal/synctest.IsInBubble", "internal/synctest.Associate[sync.WaitGroup]", "sync.fatal", "sync/atomic.OrUint64", "sync/atomic.AddUint64", "internal/race.Read", "sync/atomic.LoadUint64", "sync/atomic.StoreUint64", "internal/synctest.Disassociate[sync.WaitGroup]", "sync.runtime_Semrelease", "(*sync.WaitGroup).Done", "(*sync.WaitGroup).Wait", "internal/race.Acquire", "internal/synctest.IsAssociated[sync.WaitGroup]", "sync/atomic.CompareAndSwapUint64", "internal/race.Write", "sync.runtime_SemacquireWaitGroup"], unfollowed := true, recurses := true, named := ["internal/bytealg.MaxLen", "unicode/utf8.first", "unicode/utf8.acceptRanges", "touchmark/like.kinds", "touchmark/like.doing"], plainKeys := false, leaving := true, apart := false, laid := [("unicode/utf8.acceptRanges", laid_unicode_utf8_acceptRanges), ("touchmark/like.doing", laid_touchmark_like_doing), ("touchmark/like.kinds", laid_touchmark_like_kinds), ("unicode/utf8.first", laid_unicode_utf8_first)], narrowed := true }
def LikeEditsUptoSaid : Prop := likeEditsUptoRow.holds Tryz.pinned (OpenSpec.upto likeEditsSpec)

/-- 'touchmarklaw02.LikeFewest', WHERE WHAT IT READS IS OF BULK AT MOST 1048576: true; the input reads as it did. -/
def likeFewestUptoRow : OpenClaim := { program := "ytaglpcmhopjebaagreatdoor", sum := "c32cb7c8d1900dc38a86d3ae42d5eca03394409ce7c6b71018f39d8fb7c780a6", func := "touchmark/touchmarklaw02.LikeFewest", spec := "likeFewest", inPlace := ["internal/bytealg.IndexByteString", "internal/bytealg.IndexString", "internal/abi.NoEscape", "internal/bytealg.CountString", "internal/bytealg.MakeNoZero", "(*sync.WaitGroup).Add", "internal/race.ReleaseMerge", "internal/race.Disable", "internal/race.Enable", "internal/synctest.IsInBubble", "internal/synctest.Associate[sync.WaitGroup]", "sync.fatal", "sync/atomic.OrUint64", "sync/atomic.AddUint64", "internal/race.Read", "sync/atomic.LoadUint64", "sync/atomic.StoreUint64", "internal/synctest.Disassociate[sync.WaitGroup]", "sync.runtime_Semrelease", "(*sync.WaitGroup).Done", "(*sync.WaitGroup).Wait", "internal/race.Acquire", "internal/synctest.IsAssociated[sync.WaitGroup]", "sync/atomic.CompareAndSwapUint64", "internal/race.Write", "sync.runtime_SemacquireWaitGroup"], unfollowed := true, recurses := true, named := ["internal/bytealg.MaxLen", "unicode/utf8.first", "unicode/utf8.acceptRanges", "touchmark/like.kinds", "touchmark/like.doing"], plainKeys := false, leaving := true, apart := false, laid := [("unicode/utf8.acceptRanges", laid_unicode_utf8_acceptRanges), ("touchmark/like.doing", laid_touchmark_like_doing), ("touchmark/like.kinds", laid_touchmark_like_kinds), ("unicode/utf8.first", laid_unicode_utf8_first)], narrowed := true }
def LikeFewestUptoSaid : Prop := likeFewestUptoRow.holds Tryz.pinned (OpenSpec.upto likeFewestSpec)

/-- 'touchmarklaw02.LikeThird', WHERE WHAT IT READS IS OF BULK AT MOST 1048576: true; the input reads as it did. -/
def likeThirdUptoRow : OpenClaim := { program := "ytaglpcmhopjebaagreatdoor", sum := "c32cb7c8d1900dc38a86d3ae42d5eca03394409ce7c6b71018f39d8fb7c780a6", func := "touchmark/touchmarklaw02.LikeThird", spec := "likeThird", inPlace := ["internal/bytealg.IndexByteString", "internal/bytealg.IndexString", "internal/abi.NoEscape", "internal/bytealg.CountString", "internal/bytealg.MakeNoZero", "(*sync.WaitGroup).Add", "internal/race.ReleaseMerge", "internal/race.Disable", "internal/race.Enable", "internal/synctest.IsInBubble", "internal/synctest.Associate[sync.WaitGroup]", "sync.fatal", "sync/atomic.OrUint64", "sync/atomic.AddUint64", "internal/race.Read", "sync/atomic.LoadUint64", "sync/atomic.StoreUint64", "internal/synctest.Disassociate[sync.WaitGroup]", "sync.runtime_Semrelease", "(*sync.WaitGroup).Done", "(*sync.WaitGroup).Wait", "internal/race.Acquire", "internal/synctest.IsAssociated[sync.WaitGroup]", "sync/atomic.CompareAndSwapUint64", "internal/race.Write", "sync.runtime_SemacquireWaitGroup"], unfollowed := true, recurses := true, named := ["internal/bytealg.MaxLen", "unicode/utf8.first", "unicode/utf8.acceptRanges", "touchmark/like.kinds", "touchmark/like.doing"], plainKeys := false, leaving := true, apart := false, laid := [("unicode/utf8.acceptRanges", laid_unicode_utf8_acceptRanges), ("touchmark/like.doing", laid_touchmark_like_doing), ("touchmark/like.kinds", laid_touchmark_like_kinds), ("unicode/utf8.first", laid_unicode_utf8_first)], narrowed := true }
def LikeThirdUptoSaid : Prop := likeThirdUptoRow.holds Tryz.pinned (OpenSpec.upto likeThirdSpec)

end Rows
end Go.Proofs.YtaglpcmhopjebaaGreatDoor

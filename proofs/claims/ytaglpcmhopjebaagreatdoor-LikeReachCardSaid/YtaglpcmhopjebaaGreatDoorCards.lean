/-
  DERIVED. GIVEN WITH THE SEED: THE CARDS: each row of YtaglpcmhopjebaaGreatDoorRows.lean that lists a variable, with what it lists TIED to the program's text (the seventh form; the later family's looks); each row that meets fmt, with fmt's text TOLD by the authors' own Lean function (tested against real Go, not proved from fmt's source: count such statements apart). THE CARD IS WHAT COUNTS. Prove the row's statement (the work); the ties are given (YtaglpcmhopjebaaGreatDoorTie.lean); close each card by the builder's one call (the guide's Derived/Test/ToyasCard.lean, 'card_holds'). Laid BY PROGRAM, IN A SANDBOX (cutbox-door.mjs). By AI agents, Wed Nov 11 2026. No macro, syntax, notation, axiom, sorry.
-/
import Derived.Test.YtaglpcmhopjebaaGreatDoorRows
import GoSem.ClaimSeven
namespace Go.Proofs.YtaglpcmhopjebaaGreatDoor
namespace Rows

/-- THE TIED CARD OF 'touchmarklaw02.LikeWords'. -/
def likeWordsCard : Claim7 := { stood := { row := likeWordsRow, standIns := [], harness := (true, "e2464fcece2eef13e397ee2a7d1ae907f3e87b9b7325f55b82139ea06d39884f"), looks := false }, kinds := [], alts := [], goes := true, laidByText := true, laidKinds := [.data, .funcsDeep, .pinned], laidTests := true, laidLooks := .later }
def LikeWordsCardSaid : Prop := Claim7.holds Tryz.pinned (.plain (OpenSpec.ofChange likeWordsSpec)) likeWordsCard

/-- THE TIED CARD OF 'touchmarklaw02.LikeLevels'. -/
def likeLevelsCard : Claim7 := { stood := { row := likeLevelsRow, standIns := [], harness := (true, "e2464fcece2eef13e397ee2a7d1ae907f3e87b9b7325f55b82139ea06d39884f"), looks := false }, kinds := [], alts := [], goes := true, laidByText := true, laidKinds := [.data, .funcsDeep, .pinned], laidTests := true, laidLooks := .later }
def LikeLevelsCardSaid : Prop := Claim7.holds Tryz.pinned (.plain (OpenSpec.ofChange likeLevelsSpec)) likeLevelsCard

/-- THE TIED CARD OF 'touchmarklaw02.LikeSame'. -/
def likeSameCard : Claim7 := { stood := { row := likeSameRow, standIns := [], harness := (true, "e2464fcece2eef13e397ee2a7d1ae907f3e87b9b7325f55b82139ea06d39884f"), looks := false }, kinds := [], alts := [], goes := true, laidByText := true, laidKinds := [.data, .funcsDeep, .pinned], laidTests := true, laidLooks := .later }
def LikeSameCardSaid : Prop := Claim7.holds Tryz.pinned (.plain (OpenSpec.ofChange likeSameSpec)) likeSameCard

/-- THE TIED CARD OF 'touchmarklaw02.LikeScripts'. -/
def likeScriptsCard : Claim7 := { stood := { row := likeScriptsRow, standIns := [], harness := (true, "e2464fcece2eef13e397ee2a7d1ae907f3e87b9b7325f55b82139ea06d39884f"), looks := false }, kinds := [], alts := [], goes := true, laidByText := true, laidKinds := [.data, .funcsDeep, .pinned], laidTests := true, laidLooks := .later }
def LikeScriptsCardSaid : Prop := Claim7.holds Tryz.pinned (.plain (OpenSpec.ofChange likeScriptsSpec)) likeScriptsCard

/-- THE TIED CARD OF 'touchmarklaw02.LikeTurns'. -/
def likeTurnsCard : Claim7 := { stood := { row := likeTurnsRow, standIns := [], harness := (true, "e2464fcece2eef13e397ee2a7d1ae907f3e87b9b7325f55b82139ea06d39884f"), looks := false }, kinds := [], alts := [], goes := true, laidByText := true, laidKinds := [.data, .funcsDeep, .pinned], laidTests := true, laidLooks := .later }
def LikeTurnsCardSaid : Prop := Claim7.holds Tryz.pinned (.plain (OpenSpec.ofChange likeTurnsSpec)) likeTurnsCard

/-- THE TIED CARD OF 'touchmarklaw02.LikeMoved'. -/
def likeMovedCard : Claim7 := { stood := { row := likeMovedRow, standIns := [], harness := (true, "e2464fcece2eef13e397ee2a7d1ae907f3e87b9b7325f55b82139ea06d39884f"), looks := false }, kinds := [], alts := [], goes := true, laidByText := true, laidKinds := [.data, .funcsDeep, .pinned], laidTests := true, laidLooks := .later }
def LikeMovedCardSaid : Prop := Claim7.holds Tryz.pinned (.plain (OpenSpec.ofChange likeMovedSpec)) likeMovedCard

/-- THE TIED CARD OF 'touchmarklaw02.LikeReach'. -/
def likeReachCard : Claim7 := { stood := { row := likeReachRow, standIns := [], harness := (true, "e2464fcece2eef13e397ee2a7d1ae907f3e87b9b7325f55b82139ea06d39884f"), looks := false }, kinds := [], alts := [], goes := true, laidByText := true, laidKinds := [.data, .funcsDeep, .pinned], laidTests := true, laidLooks := .later }
def LikeReachCardSaid : Prop := Claim7.holds Tryz.pinned (.plain (OpenSpec.ofChange likeReachSpec)) likeReachCard

/-- THE TIED CARD OF 'touchmarklaw02.LikeNear'. -/
def likeNearCard : Claim7 := { stood := { row := likeNearRow, standIns := [], harness := (true, "e2464fcece2eef13e397ee2a7d1ae907f3e87b9b7325f55b82139ea06d39884f"), looks := false }, kinds := [], alts := [], goes := true, laidByText := true, laidKinds := [.data, .funcsDeep, .pinned], laidTests := true, laidLooks := .later }
def LikeNearCardSaid : Prop := Claim7.holds Tryz.pinned (.plain (OpenSpec.ofChange likeNearSpec)) likeNearCard

/-- THE TIED CARD OF 'touchmarklaw02.LikeSearches'. -/
def likeSearchesCard : Claim7 := { stood := { row := likeSearchesRow, standIns := [], harness := (true, "e2464fcece2eef13e397ee2a7d1ae907f3e87b9b7325f55b82139ea06d39884f"), looks := false }, kinds := [], alts := [], goes := true, laidByText := true, laidKinds := [.data, .funcsDeep, .pinned], laidTests := true, laidLooks := .later }
def LikeSearchesCardSaid : Prop := Claim7.holds Tryz.pinned (.plain (OpenSpec.ofChange likeSearchesSpec)) likeSearchesCard

/-- THE TIED CARD OF 'touchmarklaw02.LikeBars'. -/
def likeBarsCard : Claim7 := { stood := { row := likeBarsRow, standIns := [], harness := (true, "e2464fcece2eef13e397ee2a7d1ae907f3e87b9b7325f55b82139ea06d39884f"), looks := false }, kinds := [], alts := [], goes := true, laidByText := true, laidKinds := [.data, .funcsDeep, .pinned], laidTests := true, laidLooks := .later }
def LikeBarsCardSaid : Prop := Claim7.holds Tryz.pinned (.plain (OpenSpec.ofChange likeBarsSpec)) likeBarsCard

/-- THE TIED CARD OF 'touchmarklaw02.LikeEdits'. -/
def likeEditsCard : Claim7 := { stood := { row := likeEditsRow, standIns := [], harness := (true, "e2464fcece2eef13e397ee2a7d1ae907f3e87b9b7325f55b82139ea06d39884f"), looks := false }, kinds := [], alts := [], goes := true, laidByText := true, laidKinds := [.data, .mapped, .funcsDeep, .pinned], laidTests := true, laidLooks := .later }
def LikeEditsCardSaid : Prop := Claim7.holds Tryz.pinned (.plain (OpenSpec.ofChange likeEditsSpec)) likeEditsCard

/-- THE TIED CARD OF 'touchmarklaw02.LikeFewest'. -/
def likeFewestCard : Claim7 := { stood := { row := likeFewestRow, standIns := [], harness := (true, "e2464fcece2eef13e397ee2a7d1ae907f3e87b9b7325f55b82139ea06d39884f"), looks := false }, kinds := [], alts := [], goes := true, laidByText := true, laidKinds := [.data, .mapped, .funcsDeep, .pinned], laidTests := true, laidLooks := .later }
def LikeFewestCardSaid : Prop := Claim7.holds Tryz.pinned (.plain (OpenSpec.ofChange likeFewestSpec)) likeFewestCard

/-- THE TIED CARD OF 'touchmarklaw02.LikeThird'. -/
def likeThirdCard : Claim7 := { stood := { row := likeThirdRow, standIns := [], harness := (true, "e2464fcece2eef13e397ee2a7d1ae907f3e87b9b7325f55b82139ea06d39884f"), looks := false }, kinds := [], alts := [], goes := true, laidByText := true, laidKinds := [.data, .mapped, .funcsDeep, .pinned], laidTests := true, laidLooks := .later }
def LikeThirdCardSaid : Prop := Claim7.holds Tryz.pinned (.plain (OpenSpec.ofChange likeThirdSpec)) likeThirdCard

/-- THE SECOND FORM's CARD OF 'touchmarklaw02.LikeWords'. -/
def likeWordsUptoCard : Claim7 := { stood := { row := likeWordsUptoRow, standIns := [], harness := (true, "e2464fcece2eef13e397ee2a7d1ae907f3e87b9b7325f55b82139ea06d39884f"), looks := false }, kinds := [], alts := [], goes := true, laidByText := true, laidKinds := [.data, .funcsDeep, .pinned], laidTests := true, laidLooks := .later }
def LikeWordsUptoCardSaid : Prop := Claim7.holds Tryz.pinned (.plain (OpenSpec.upto likeWordsSpec)) likeWordsUptoCard

/-- THE SECOND FORM's CARD OF 'touchmarklaw02.LikeLevels'. -/
def likeLevelsUptoCard : Claim7 := { stood := { row := likeLevelsUptoRow, standIns := [], harness := (true, "e2464fcece2eef13e397ee2a7d1ae907f3e87b9b7325f55b82139ea06d39884f"), looks := false }, kinds := [], alts := [], goes := true, laidByText := true, laidKinds := [.data, .funcsDeep, .pinned], laidTests := true, laidLooks := .later }
def LikeLevelsUptoCardSaid : Prop := Claim7.holds Tryz.pinned (.plain (OpenSpec.upto likeLevelsSpec)) likeLevelsUptoCard

/-- THE SECOND FORM's CARD OF 'touchmarklaw02.LikeSame'. -/
def likeSameUptoCard : Claim7 := { stood := { row := likeSameUptoRow, standIns := [], harness := (true, "e2464fcece2eef13e397ee2a7d1ae907f3e87b9b7325f55b82139ea06d39884f"), looks := false }, kinds := [], alts := [], goes := true, laidByText := true, laidKinds := [.data, .funcsDeep, .pinned], laidTests := true, laidLooks := .later }
def LikeSameUptoCardSaid : Prop := Claim7.holds Tryz.pinned (.plain (OpenSpec.upto likeSameSpec)) likeSameUptoCard

/-- THE SECOND FORM's CARD OF 'touchmarklaw02.LikeScripts'. -/
def likeScriptsUptoCard : Claim7 := { stood := { row := likeScriptsUptoRow, standIns := [], harness := (true, "e2464fcece2eef13e397ee2a7d1ae907f3e87b9b7325f55b82139ea06d39884f"), looks := false }, kinds := [], alts := [], goes := true, laidByText := true, laidKinds := [.data, .funcsDeep, .pinned], laidTests := true, laidLooks := .later }
def LikeScriptsUptoCardSaid : Prop := Claim7.holds Tryz.pinned (.plain (OpenSpec.upto likeScriptsSpec)) likeScriptsUptoCard

/-- THE SECOND FORM's CARD OF 'touchmarklaw02.LikeTurns'. -/
def likeTurnsUptoCard : Claim7 := { stood := { row := likeTurnsUptoRow, standIns := [], harness := (true, "e2464fcece2eef13e397ee2a7d1ae907f3e87b9b7325f55b82139ea06d39884f"), looks := false }, kinds := [], alts := [], goes := true, laidByText := true, laidKinds := [.data, .funcsDeep, .pinned], laidTests := true, laidLooks := .later }
def LikeTurnsUptoCardSaid : Prop := Claim7.holds Tryz.pinned (.plain (OpenSpec.upto likeTurnsSpec)) likeTurnsUptoCard

/-- THE SECOND FORM's CARD OF 'touchmarklaw02.LikeMoved'. -/
def likeMovedUptoCard : Claim7 := { stood := { row := likeMovedUptoRow, standIns := [], harness := (true, "e2464fcece2eef13e397ee2a7d1ae907f3e87b9b7325f55b82139ea06d39884f"), looks := false }, kinds := [], alts := [], goes := true, laidByText := true, laidKinds := [.data, .funcsDeep, .pinned], laidTests := true, laidLooks := .later }
def LikeMovedUptoCardSaid : Prop := Claim7.holds Tryz.pinned (.plain (OpenSpec.upto likeMovedSpec)) likeMovedUptoCard

/-- THE SECOND FORM's CARD OF 'touchmarklaw02.LikeReach'. -/
def likeReachUptoCard : Claim7 := { stood := { row := likeReachUptoRow, standIns := [], harness := (true, "e2464fcece2eef13e397ee2a7d1ae907f3e87b9b7325f55b82139ea06d39884f"), looks := false }, kinds := [], alts := [], goes := true, laidByText := true, laidKinds := [.data, .funcsDeep, .pinned], laidTests := true, laidLooks := .later }
def LikeReachUptoCardSaid : Prop := Claim7.holds Tryz.pinned (.plain (OpenSpec.upto likeReachSpec)) likeReachUptoCard

/-- THE SECOND FORM's CARD OF 'touchmarklaw02.LikeNear'. -/
def likeNearUptoCard : Claim7 := { stood := { row := likeNearUptoRow, standIns := [], harness := (true, "e2464fcece2eef13e397ee2a7d1ae907f3e87b9b7325f55b82139ea06d39884f"), looks := false }, kinds := [], alts := [], goes := true, laidByText := true, laidKinds := [.data, .funcsDeep, .pinned], laidTests := true, laidLooks := .later }
def LikeNearUptoCardSaid : Prop := Claim7.holds Tryz.pinned (.plain (OpenSpec.upto likeNearSpec)) likeNearUptoCard

/-- THE SECOND FORM's CARD OF 'touchmarklaw02.LikeSearches'. -/
def likeSearchesUptoCard : Claim7 := { stood := { row := likeSearchesUptoRow, standIns := [], harness := (true, "e2464fcece2eef13e397ee2a7d1ae907f3e87b9b7325f55b82139ea06d39884f"), looks := false }, kinds := [], alts := [], goes := true, laidByText := true, laidKinds := [.data, .funcsDeep, .pinned], laidTests := true, laidLooks := .later }
def LikeSearchesUptoCardSaid : Prop := Claim7.holds Tryz.pinned (.plain (OpenSpec.upto likeSearchesSpec)) likeSearchesUptoCard

/-- THE SECOND FORM's CARD OF 'touchmarklaw02.LikeBars'. -/
def likeBarsUptoCard : Claim7 := { stood := { row := likeBarsUptoRow, standIns := [], harness := (true, "e2464fcece2eef13e397ee2a7d1ae907f3e87b9b7325f55b82139ea06d39884f"), looks := false }, kinds := [], alts := [], goes := true, laidByText := true, laidKinds := [.data, .funcsDeep, .pinned], laidTests := true, laidLooks := .later }
def LikeBarsUptoCardSaid : Prop := Claim7.holds Tryz.pinned (.plain (OpenSpec.upto likeBarsSpec)) likeBarsUptoCard

/-- THE SECOND FORM's CARD OF 'touchmarklaw02.LikeEdits'. -/
def likeEditsUptoCard : Claim7 := { stood := { row := likeEditsUptoRow, standIns := [], harness := (true, "e2464fcece2eef13e397ee2a7d1ae907f3e87b9b7325f55b82139ea06d39884f"), looks := false }, kinds := [], alts := [], goes := true, laidByText := true, laidKinds := [.data, .mapped, .funcsDeep, .pinned], laidTests := true, laidLooks := .later }
def LikeEditsUptoCardSaid : Prop := Claim7.holds Tryz.pinned (.plain (OpenSpec.upto likeEditsSpec)) likeEditsUptoCard

/-- THE SECOND FORM's CARD OF 'touchmarklaw02.LikeFewest'. -/
def likeFewestUptoCard : Claim7 := { stood := { row := likeFewestUptoRow, standIns := [], harness := (true, "e2464fcece2eef13e397ee2a7d1ae907f3e87b9b7325f55b82139ea06d39884f"), looks := false }, kinds := [], alts := [], goes := true, laidByText := true, laidKinds := [.data, .mapped, .funcsDeep, .pinned], laidTests := true, laidLooks := .later }
def LikeFewestUptoCardSaid : Prop := Claim7.holds Tryz.pinned (.plain (OpenSpec.upto likeFewestSpec)) likeFewestUptoCard

/-- THE SECOND FORM's CARD OF 'touchmarklaw02.LikeThird'. -/
def likeThirdUptoCard : Claim7 := { stood := { row := likeThirdUptoRow, standIns := [], harness := (true, "e2464fcece2eef13e397ee2a7d1ae907f3e87b9b7325f55b82139ea06d39884f"), looks := false }, kinds := [], alts := [], goes := true, laidByText := true, laidKinds := [.data, .mapped, .funcsDeep, .pinned], laidTests := true, laidLooks := .later }
def LikeThirdUptoCardSaid : Prop := Claim7.holds Tryz.pinned (.plain (OpenSpec.upto likeThirdSpec)) likeThirdUptoCard
end Rows
end Go.Proofs.YtaglpcmhopjebaaGreatDoor

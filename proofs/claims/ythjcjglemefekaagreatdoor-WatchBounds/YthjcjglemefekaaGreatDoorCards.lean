/-
  DERIVED. GIVEN WITH THE SEED: THE CARDS: each row of YthjcjglemefekaaGreatDoorRows.lean that lists a variable, with what it lists TIED to the program's text (the seventh form; the later family's looks); each row that meets fmt, with fmt's text TOLD by the authors' own Lean function (tested against real Go, not proved from fmt's source: count such statements apart). THE CARD IS WHAT COUNTS. Prove the row's statement (the work); the ties are given (YthjcjglemefekaaGreatDoorTie.lean); close each card by the builder's one call (the guide's Derived/Test/ToyasCard.lean, 'card_holds'). Laid BY PROGRAM, IN A SANDBOX (cutbox-door.mjs). By AI agents, Wed Nov 11 2026. No macro, syntax, notation, axiom, sorry.
-/
import Derived.Test.YthjcjglemefekaaGreatDoorRows
import GoSem.ClaimSeven
namespace Go.Proofs.YthjcjglemefekaaGreatDoor
namespace Rows

/-- THE TIED CARD OF 'pinfoldlaw33.WatchTexts'. -/
def watchTextsCard : Claim7 := { stood := { row := watchTextsRow, standIns := [], harness := (true, "27f9fd8d4088cc492f5042b5f4a25992130eba9ab5007193f24173a9b895dff8"), looks := true }, kinds := [], alts := [], laidByText := true, laidKinds := [.data, .data, .data, .data, .pinned], laidTests := true, laidLooks := .later }
def WatchTextsCardSaid : Prop := Claim7.holds Tryz.pinned (.plain (OpenSpec.ofChange watchTextsSpec)) watchTextsCard

/-- THE TIED CARD OF 'pinfoldlaw33.WatchBounds'. -/
def watchBoundsCard : Claim7 := { stood := { row := watchBoundsRow, standIns := [], harness := (true, "27f9fd8d4088cc492f5042b5f4a25992130eba9ab5007193f24173a9b895dff8"), looks := true }, kinds := [], alts := [], laidByText := true, laidKinds := [.data, .data, .data, .data, .pinned], laidTests := true, laidLooks := .later }
def WatchBoundsCardSaid : Prop := Claim7.holds Tryz.pinned (.plain (OpenSpec.ofChange watchBoundsSpec)) watchBoundsCard

/-- THE TIED CARD OF 'pinfoldlaw33.WatchCounts'. -/
def watchCountsCard : Claim7 := { stood := { row := watchCountsRow, standIns := [], harness := (true, "27f9fd8d4088cc492f5042b5f4a25992130eba9ab5007193f24173a9b895dff8"), looks := true }, kinds := [], alts := [], laidByText := true, laidKinds := [.data, .data, .data, .data, .pinned], laidTests := true, laidLooks := .later }
def WatchCountsCardSaid : Prop := Claim7.holds Tryz.pinned (.plain (OpenSpec.ofChange watchCountsSpec)) watchCountsCard

/-- THE SECOND FORM's CARD OF 'pinfoldlaw33.WatchTexts'. -/
def watchTextsUptoCard : Claim7 := { stood := { row := watchTextsUptoRow, standIns := [], harness := (true, "27f9fd8d4088cc492f5042b5f4a25992130eba9ab5007193f24173a9b895dff8"), looks := true }, kinds := [], alts := [], laidByText := true, laidKinds := [.data, .data, .data, .data, .pinned], laidTests := true, laidLooks := .later }
def WatchTextsUptoCardSaid : Prop := Claim7.holds Tryz.pinned (.plain (OpenSpec.upto watchTextsSpec)) watchTextsUptoCard

/-- THE SECOND FORM's CARD OF 'pinfoldlaw33.WatchBounds'. -/
def watchBoundsUptoCard : Claim7 := { stood := { row := watchBoundsUptoRow, standIns := [], harness := (true, "27f9fd8d4088cc492f5042b5f4a25992130eba9ab5007193f24173a9b895dff8"), looks := true }, kinds := [], alts := [], laidByText := true, laidKinds := [.data, .data, .data, .data, .pinned], laidTests := true, laidLooks := .later }
def WatchBoundsUptoCardSaid : Prop := Claim7.holds Tryz.pinned (.plain (OpenSpec.upto watchBoundsSpec)) watchBoundsUptoCard

/-- THE SECOND FORM's CARD OF 'pinfoldlaw33.WatchCounts'. -/
def watchCountsUptoCard : Claim7 := { stood := { row := watchCountsUptoRow, standIns := [], harness := (true, "27f9fd8d4088cc492f5042b5f4a25992130eba9ab5007193f24173a9b895dff8"), looks := true }, kinds := [], alts := [], laidByText := true, laidKinds := [.data, .data, .data, .data, .pinned], laidTests := true, laidLooks := .later }
def WatchCountsUptoCardSaid : Prop := Claim7.holds Tryz.pinned (.plain (OpenSpec.upto watchCountsSpec)) watchCountsUptoCard
end Rows
end Go.Proofs.YthjcjglemefekaaGreatDoor

/-
  DERIVED. GIVEN WITH THE SEED: THE CARDS: each row of YtbejjoogefleeaaGreatDoorRows.lean that lists a variable, with what it lists TIED to the program's text (the seventh form; the later family's looks); each row that meets fmt, with fmt's text TOLD by the authors' own Lean function (tested against real Go, not proved from fmt's source: count such statements apart). THE CARD IS WHAT COUNTS. Prove the row's statement (the work); the ties are given (YtbejjoogefleeaaGreatDoorTie.lean); close each card by the builder's one call (the guide's Derived/Test/ToyasCard.lean, 'card_holds'). Laid BY PROGRAM, IN A SANDBOX (cutbox-door.mjs). By AI agents, Wed Nov 11 2026. No macro, syntax, notation, axiom, sorry.
-/
import Derived.Test.YtbejjoogefleeaaGreatDoorRows
import GoSem.ClaimSeven
namespace Go.Proofs.YtbejjoogefleeaaGreatDoor
namespace Rows

/-- THE TIED CARD OF 'spigotlaw28.ParentStrange'. -/
def parentStrangeCard : Claim7 := { stood := { row := parentStrangeRow, standIns := [], harness := (true, "f6abdd46c890347215b101b6df727bbdd5bb0eb600f8339dc239b2bc8e04cf5b"), looks := true }, kinds := [], alts := [], laidByText := true, laidKinds := [.data, .data, .data], laidTests := true, laidLooks := .later }
def ParentStrangeCardSaid : Prop := Claim7.holds Tryz.pinned (.plain (OpenSpec.ofChange parentStrangeSpec)) parentStrangeCard

/-- THE TIED CARD OF 'spigotlaw28.ParentPlays'. -/
def parentPlaysCard : Claim7 := { stood := { row := parentPlaysRow, standIns := [], harness := (true, "f6abdd46c890347215b101b6df727bbdd5bb0eb600f8339dc239b2bc8e04cf5b"), looks := true }, kinds := [], alts := [], laidByText := true, laidKinds := [.data, .data, .data], laidTests := true, laidLooks := .later }
def ParentPlaysCardSaid : Prop := Claim7.holds Tryz.pinned (.plain (OpenSpec.ofChange parentPlaysSpec)) parentPlaysCard

/-- THE TIED CARD OF 'spigotlaw28.ParentNone'. -/
def parentNoneCard : Claim7 := { stood := { row := parentNoneRow, standIns := [], harness := (true, "f6abdd46c890347215b101b6df727bbdd5bb0eb600f8339dc239b2bc8e04cf5b"), looks := true }, kinds := [], alts := [], laidByText := true, laidKinds := [.data, .data, .data], laidTests := true, laidLooks := .later }
def ParentNoneCardSaid : Prop := Claim7.holds Tryz.pinned (.plain (OpenSpec.ofChange parentNoneSpec)) parentNoneCard

/-- THE TIED CARD OF 'spigotlaw28.ParentBounds'. -/
def parentBoundsCard : Claim7 := { stood := { row := parentBoundsRow, standIns := [], harness := (true, "f6abdd46c890347215b101b6df727bbdd5bb0eb600f8339dc239b2bc8e04cf5b"), looks := true }, kinds := [], alts := [], laidByText := true, laidKinds := [.data, .data, .data], laidTests := true, laidLooks := .later }
def ParentBoundsCardSaid : Prop := Claim7.holds Tryz.pinned (.plain (OpenSpec.ofChange parentBoundsSpec)) parentBoundsCard

/-- THE TIED CARD OF 'spigotlaw28.ParentMoves'. -/
def parentMovesCard : Claim7 := { stood := { row := parentMovesRow, standIns := [], harness := (true, "f6abdd46c890347215b101b6df727bbdd5bb0eb600f8339dc239b2bc8e04cf5b"), looks := true }, kinds := [], alts := [], laidByText := true, laidKinds := [.data, .data, .data], laidTests := true, laidLooks := .later }
def ParentMovesCardSaid : Prop := Claim7.holds Tryz.pinned (.plain (OpenSpec.ofChange parentMovesSpec)) parentMovesCard

/-- THE SECOND FORM's CARD OF 'spigotlaw28.ParentStrange'. -/
def parentStrangeUptoCard : Claim7 := { stood := { row := parentStrangeUptoRow, standIns := [], harness := (true, "f6abdd46c890347215b101b6df727bbdd5bb0eb600f8339dc239b2bc8e04cf5b"), looks := true }, kinds := [], alts := [], laidByText := true, laidKinds := [.data, .data, .data], laidTests := true, laidLooks := .later }
def ParentStrangeUptoCardSaid : Prop := Claim7.holds Tryz.pinned (.plain (OpenSpec.upto parentStrangeSpec)) parentStrangeUptoCard

/-- THE SECOND FORM's CARD OF 'spigotlaw28.ParentPlays'. -/
def parentPlaysUptoCard : Claim7 := { stood := { row := parentPlaysUptoRow, standIns := [], harness := (true, "f6abdd46c890347215b101b6df727bbdd5bb0eb600f8339dc239b2bc8e04cf5b"), looks := true }, kinds := [], alts := [], laidByText := true, laidKinds := [.data, .data, .data], laidTests := true, laidLooks := .later }
def ParentPlaysUptoCardSaid : Prop := Claim7.holds Tryz.pinned (.plain (OpenSpec.upto parentPlaysSpec)) parentPlaysUptoCard

/-- THE SECOND FORM's CARD OF 'spigotlaw28.ParentNone'. -/
def parentNoneUptoCard : Claim7 := { stood := { row := parentNoneUptoRow, standIns := [], harness := (true, "f6abdd46c890347215b101b6df727bbdd5bb0eb600f8339dc239b2bc8e04cf5b"), looks := true }, kinds := [], alts := [], laidByText := true, laidKinds := [.data, .data, .data], laidTests := true, laidLooks := .later }
def ParentNoneUptoCardSaid : Prop := Claim7.holds Tryz.pinned (.plain (OpenSpec.upto parentNoneSpec)) parentNoneUptoCard

/-- THE SECOND FORM's CARD OF 'spigotlaw28.ParentBounds'. -/
def parentBoundsUptoCard : Claim7 := { stood := { row := parentBoundsUptoRow, standIns := [], harness := (true, "f6abdd46c890347215b101b6df727bbdd5bb0eb600f8339dc239b2bc8e04cf5b"), looks := true }, kinds := [], alts := [], laidByText := true, laidKinds := [.data, .data, .data], laidTests := true, laidLooks := .later }
def ParentBoundsUptoCardSaid : Prop := Claim7.holds Tryz.pinned (.plain (OpenSpec.upto parentBoundsSpec)) parentBoundsUptoCard

/-- THE SECOND FORM's CARD OF 'spigotlaw28.ParentMoves'. -/
def parentMovesUptoCard : Claim7 := { stood := { row := parentMovesUptoRow, standIns := [], harness := (true, "f6abdd46c890347215b101b6df727bbdd5bb0eb600f8339dc239b2bc8e04cf5b"), looks := true }, kinds := [], alts := [], laidByText := true, laidKinds := [.data, .data, .data], laidTests := true, laidLooks := .later }
def ParentMovesUptoCardSaid : Prop := Claim7.holds Tryz.pinned (.plain (OpenSpec.upto parentMovesSpec)) parentMovesUptoCard
end Rows
end Go.Proofs.YtbejjoogefleeaaGreatDoor

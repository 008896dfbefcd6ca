/-
  DERIVED. GIVEN WITH THE SEED: THE CARDS: each row of YtlodkmfedpglkaaGreatDoorRows.lean that lists a variable, with what it lists TIED to the program's text (the seventh form; the later family's looks); each row that meets fmt, with fmt's text TOLD by the authors' own Lean function (tested against real Go, not proved from fmt's source: count such statements apart). THE CARD IS WHAT COUNTS. Prove the row's statement (the work); the ties are given (YtlodkmfedpglkaaGreatDoorTie.lean); close each card by the builder's one call (the guide's Derived/Test/ToyasCard.lean, 'card_holds'). Laid BY PROGRAM, IN A SANDBOX (cutbox-door.mjs). By AI agents, Wed Nov 11 2026. No macro, syntax, notation, axiom, sorry.
-/
import Derived.Test.YtlodkmfedpglkaaGreatDoorRows
import GoSem.ClaimSeven
namespace Go.Proofs.YtlodkmfedpglkaaGreatDoor
namespace Rows

/-- THE TIED CARD OF 'spigotlaw33.SimPlays'. -/
def simPlaysCard : Claim7 := { stood := { row := simPlaysRow, standIns := [], harness := (true, "1a24070fe9175161f5ba17c7084390c90d75d65d6f05c3d1ca87ed0f54d610e3"), looks := true }, kinds := [], alts := [], laidByText := true, laidKinds := [.data, .data, .data], laidTests := true, laidLooks := .later }
def SimPlaysCardSaid : Prop := Claim7.holds Tryz.pinned (.plain (OpenSpec.ofChange simPlaysSpec)) simPlaysCard

/-- THE TIED CARD OF 'spigotlaw33.SimNone'. -/
def simNoneCard : Claim7 := { stood := { row := simNoneRow, standIns := [], harness := (true, "1a24070fe9175161f5ba17c7084390c90d75d65d6f05c3d1ca87ed0f54d610e3"), looks := true }, kinds := [], alts := [], laidByText := true, laidKinds := [.data, .data, .data], laidTests := true, laidLooks := .later }
def SimNoneCardSaid : Prop := Claim7.holds Tryz.pinned (.plain (OpenSpec.ofChange simNoneSpec)) simNoneCard

/-- THE TIED CARD OF 'spigotlaw33.SimTells'. -/
def simTellsCard : Claim7 := { stood := { row := simTellsRow, standIns := [], harness := (true, "1a24070fe9175161f5ba17c7084390c90d75d65d6f05c3d1ca87ed0f54d610e3"), looks := true }, kinds := [], alts := [], laidByText := true, laidKinds := [.data, .data, .data], laidTests := true, laidLooks := .later }
def SimTellsCardSaid : Prop := Claim7.holds Tryz.pinned (.plain (OpenSpec.ofChange simTellsSpec)) simTellsCard

/-- THE SECOND FORM's CARD OF 'spigotlaw33.SimPlays'. -/
def simPlaysUptoCard : Claim7 := { stood := { row := simPlaysUptoRow, standIns := [], harness := (true, "1a24070fe9175161f5ba17c7084390c90d75d65d6f05c3d1ca87ed0f54d610e3"), looks := true }, kinds := [], alts := [], laidByText := true, laidKinds := [.data, .data, .data], laidTests := true, laidLooks := .later }
def SimPlaysUptoCardSaid : Prop := Claim7.holds Tryz.pinned (.plain (OpenSpec.upto simPlaysSpec)) simPlaysUptoCard

/-- THE SECOND FORM's CARD OF 'spigotlaw33.SimNone'. -/
def simNoneUptoCard : Claim7 := { stood := { row := simNoneUptoRow, standIns := [], harness := (true, "1a24070fe9175161f5ba17c7084390c90d75d65d6f05c3d1ca87ed0f54d610e3"), looks := true }, kinds := [], alts := [], laidByText := true, laidKinds := [.data, .data, .data], laidTests := true, laidLooks := .later }
def SimNoneUptoCardSaid : Prop := Claim7.holds Tryz.pinned (.plain (OpenSpec.upto simNoneSpec)) simNoneUptoCard

/-- THE SECOND FORM's CARD OF 'spigotlaw33.SimTells'. -/
def simTellsUptoCard : Claim7 := { stood := { row := simTellsUptoRow, standIns := [], harness := (true, "1a24070fe9175161f5ba17c7084390c90d75d65d6f05c3d1ca87ed0f54d610e3"), looks := true }, kinds := [], alts := [], laidByText := true, laidKinds := [.data, .data, .data], laidTests := true, laidLooks := .later }
def SimTellsUptoCardSaid : Prop := Claim7.holds Tryz.pinned (.plain (OpenSpec.upto simTellsSpec)) simTellsUptoCard
end Rows
end Go.Proofs.YtlodkmfedpglkaaGreatDoor

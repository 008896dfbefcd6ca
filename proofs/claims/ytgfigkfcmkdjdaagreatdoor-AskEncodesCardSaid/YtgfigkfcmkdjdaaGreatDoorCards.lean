/-
  DERIVED. GIVEN WITH THE SEED: THE CARDS: each row of YtgfigkfcmkdjdaaGreatDoorRows.lean that lists a variable, with what it lists TIED to the program's text (the seventh form; the later family's looks); each row that meets fmt, with fmt's text TOLD by the authors' own Lean function (tested against real Go, not proved from fmt's source: count such statements apart). THE CARD IS WHAT COUNTS. Prove the row's statement (the work); the ties are given (YtgfigkfcmkdjdaaGreatDoorTie.lean); close each card by the builder's one call (the guide's Derived/Test/ToyasCard.lean, 'card_holds'). Laid BY PROGRAM, IN A SANDBOX (cutbox-door.mjs). By AI agents, Wed Nov 11 2026. No macro, syntax, notation, axiom, sorry.
-/
import Derived.Test.YtgfigkfcmkdjdaaGreatDoorRows
import GoSem.ClaimSeven
namespace Go.Proofs.YtgfigkfcmkdjdaaGreatDoor
namespace Rows

/-- THE TIED CARD OF 'spigotlaw12.AskEncodes'. -/
def askEncodesCard : Claim7 := { stood := { row := askEncodesRow, standIns := [], harness := (true, "303745f1421758bb51cff2e83539bd57c16f82fa425f9177a6c154d14db7109a"), looks := true }, kinds := [], alts := [], laidByText := true, laidKinds := [.data, .data, .data, .data, .pinned], laidTests := true, laidLooks := .later }
def AskEncodesCardSaid : Prop := Claim7.holds Tryz.pinned (.plain (OpenSpec.ofChange askEncodesSpec)) askEncodesCard

/-- THE TIED CARD OF 'spigotlaw12.AskDecodes'. -/
def askDecodesCard : Claim7 := { stood := { row := askDecodesRow, standIns := [], harness := (true, "303745f1421758bb51cff2e83539bd57c16f82fa425f9177a6c154d14db7109a"), looks := true }, kinds := [], alts := [], laidByText := true, laidKinds := [.data, .data, .data, .data, .pinned], laidTests := true, laidLooks := .later }
def AskDecodesCardSaid : Prop := Claim7.holds Tryz.pinned (.plain (OpenSpec.ofChange askDecodesSpec)) askDecodesCard

/-- THE SECOND FORM's CARD OF 'spigotlaw12.AskEncodes'. -/
def askEncodesUptoCard : Claim7 := { stood := { row := askEncodesUptoRow, standIns := [], harness := (true, "303745f1421758bb51cff2e83539bd57c16f82fa425f9177a6c154d14db7109a"), looks := true }, kinds := [], alts := [], laidByText := true, laidKinds := [.data, .data, .data, .data, .pinned], laidTests := true, laidLooks := .later }
def AskEncodesUptoCardSaid : Prop := Claim7.holds Tryz.pinned (.plain (OpenSpec.upto askEncodesSpec)) askEncodesUptoCard

/-- THE SECOND FORM's CARD OF 'spigotlaw12.AskDecodes'. -/
def askDecodesUptoCard : Claim7 := { stood := { row := askDecodesUptoRow, standIns := [], harness := (true, "303745f1421758bb51cff2e83539bd57c16f82fa425f9177a6c154d14db7109a"), looks := true }, kinds := [], alts := [], laidByText := true, laidKinds := [.data, .data, .data, .data, .pinned], laidTests := true, laidLooks := .later }
def AskDecodesUptoCardSaid : Prop := Claim7.holds Tryz.pinned (.plain (OpenSpec.upto askDecodesSpec)) askDecodesUptoCard
end Rows
end Go.Proofs.YtgfigkfcmkdjdaaGreatDoor

/-
  DERIVED. GIVEN WITH THE SEED: THE CARDS: each row of YtgfigkfcmkdjdaaDoorRows.lean that lists a variable, with what it lists TIED to the program's text (the seventh form; the later family's looks); each row that meets fmt, with fmt's text TOLD by the authors' own Lean function (tested against real Go, not proved from fmt's source: count such statements apart). THE CARD IS WHAT COUNTS. Prove the row's statement (the work); the ties are given (YtgfigkfcmkdjdaaDoorTie.lean); close each card by the builder's one call (the guide's Derived/Test/ToyasCard.lean, 'card_holds'). Laid BY PROGRAM, IN A SANDBOX (cutbox-door.mjs). By AI agents, Wed Nov 11 2026. No macro, syntax, notation, axiom, sorry.
-/
import Derived.Test.YtgfigkfcmkdjdaaDoorRows
import GoSem.ClaimSeven
namespace Go.Proofs.YtgfigkfcmkdjdaaDoor
namespace Rows

/-- THE TIED CARD OF 'spigotlaw13.TellEncodes'. -/
def tellEncodesCard : Claim7 := { stood := { row := tellEncodesRow, standIns := [], harness := (true, "a1b82ef27e1c5177091d6f44d8ab2ca89c883a9cd7d8b2800ad4ec8d9a0e86b3"), looks := true }, kinds := [], alts := [], laidByText := true, laidKinds := [.data, .data, .data], laidTests := true, laidLooks := .later }
def TellEncodesCardSaid : Prop := Claim7.holds Tryd.pinned (.plain (OpenSpec.ofChange tellEncodesSpec)) tellEncodesCard

/-- THE TIED CARD OF 'spigotlaw13.TellDecodes'. -/
def tellDecodesCard : Claim7 := { stood := { row := tellDecodesRow, standIns := [], harness := (true, "a1b82ef27e1c5177091d6f44d8ab2ca89c883a9cd7d8b2800ad4ec8d9a0e86b3"), looks := true }, kinds := [], alts := [], laidByText := true, laidKinds := [.data, .data, .data], laidTests := true, laidLooks := .later }
def TellDecodesCardSaid : Prop := Claim7.holds Tryd.pinned (.plain (OpenSpec.ofChange tellDecodesSpec)) tellDecodesCard

/-- THE TIED CARD OF 'spigotlaw13.TellBack'. -/
def tellBackCard : Claim7 := { stood := { row := tellBackRow, standIns := [], harness := (true, "a1b82ef27e1c5177091d6f44d8ab2ca89c883a9cd7d8b2800ad4ec8d9a0e86b3"), looks := true }, kinds := [], alts := [], laidByText := true, laidKinds := [.data, .data, .data], laidTests := true, laidLooks := .later }
def TellBackCardSaid : Prop := Claim7.holds Tryd.pinned (.plain (OpenSpec.ofChange tellBackSpec)) tellBackCard

/-- THE TIED CARD OF 'spigotlaw14.PostOrders'. -/
def postOrdersCard : Claim7 := { stood := { row := postOrdersRow, standIns := [], harness := (true, "a1b82ef27e1c5177091d6f44d8ab2ca89c883a9cd7d8b2800ad4ec8d9a0e86b3"), looks := true }, kinds := [], alts := [], laidByText := true, laidKinds := [.data, .data, .data], laidTests := true, laidLooks := .later }
def PostOrdersCardSaid : Prop := Claim7.holds Tryd.pinned (.plain (OpenSpec.ofChange postOrdersSpec)) postOrdersCard

/-- THE TIED CARD OF 'spigotlaw14.PostDecodes'. -/
def postDecodesCard : Claim7 := { stood := { row := postDecodesRow, standIns := [], harness := (true, "a1b82ef27e1c5177091d6f44d8ab2ca89c883a9cd7d8b2800ad4ec8d9a0e86b3"), looks := true }, kinds := [], alts := [], laidByText := true, laidKinds := [.data, .data, .data], laidTests := true, laidLooks := .later }
def PostDecodesCardSaid : Prop := Claim7.holds Tryd.pinned (.plain (OpenSpec.ofChange postDecodesSpec)) postDecodesCard

/-- THE TIED CARD OF 'spigotlaw14.PostReplies'. -/
def postRepliesCard : Claim7 := { stood := { row := postRepliesRow, standIns := [], harness := (true, "a1b82ef27e1c5177091d6f44d8ab2ca89c883a9cd7d8b2800ad4ec8d9a0e86b3"), looks := true }, kinds := [], alts := [], laidByText := true, laidKinds := [.data, .data, .data], laidTests := true, laidLooks := .later }
def PostRepliesCardSaid : Prop := Claim7.holds Tryd.pinned (.plain (OpenSpec.ofChange postRepliesSpec)) postRepliesCard

/-- THE TIED CARD OF 'spigotlaw14.PostBack'. -/
def postBackCard : Claim7 := { stood := { row := postBackRow, standIns := [], harness := (true, "a1b82ef27e1c5177091d6f44d8ab2ca89c883a9cd7d8b2800ad4ec8d9a0e86b3"), looks := true }, kinds := [], alts := [], laidByText := true, laidKinds := [.data, .data, .data], laidTests := true, laidLooks := .later }
def PostBackCardSaid : Prop := Claim7.holds Tryd.pinned (.plain (OpenSpec.ofChange postBackSpec)) postBackCard

/-- THE TIED CARD OF 'spigotlaw14.PostSound'. -/
def postSoundCard : Claim7 := { stood := { row := postSoundRow, standIns := [], harness := (true, "a1b82ef27e1c5177091d6f44d8ab2ca89c883a9cd7d8b2800ad4ec8d9a0e86b3"), looks := true }, kinds := [], alts := [], laidByText := true, laidKinds := [.data, .data, .data], laidTests := true, laidLooks := .later }
def PostSoundCardSaid : Prop := Claim7.holds Tryd.pinned (.plain (OpenSpec.ofChange postSoundSpec)) postSoundCard

/-- THE TIED CARD OF 'spigotlaw12.AskBack'. -/
def askBackCard : Claim7 := { stood := { row := askBackRow, standIns := [], harness := (true, "a1b82ef27e1c5177091d6f44d8ab2ca89c883a9cd7d8b2800ad4ec8d9a0e86b3"), looks := true }, kinds := [], alts := [], laidByText := true, laidKinds := [.data, .data, .data, .data, .pinned], laidTests := true, laidLooks := .later }
def AskBackCardSaid : Prop := Claim7.holds Tryd.pinned (.plain (OpenSpec.ofChange askBackSpec)) askBackCard

/-- THE TIED CARD OF 'spigotlaw12.AskSound'. -/
def askSoundCard : Claim7 := { stood := { row := askSoundRow, standIns := [], harness := (true, "a1b82ef27e1c5177091d6f44d8ab2ca89c883a9cd7d8b2800ad4ec8d9a0e86b3"), looks := true }, kinds := [], alts := [], laidByText := true, laidKinds := [.data, .data, .data, .data, .pinned], laidTests := true, laidLooks := .later }
def AskSoundCardSaid : Prop := Claim7.holds Tryd.pinned (.plain (OpenSpec.ofChange askSoundSpec)) askSoundCard

/-- THE SECOND FORM's CARD OF 'spigotlaw13.TellEncodes'. -/
def tellEncodesUptoCard : Claim7 := { stood := { row := tellEncodesUptoRow, standIns := [], harness := (true, "a1b82ef27e1c5177091d6f44d8ab2ca89c883a9cd7d8b2800ad4ec8d9a0e86b3"), looks := true }, kinds := [], alts := [], laidByText := true, laidKinds := [.data, .data, .data], laidTests := true, laidLooks := .later }
def TellEncodesUptoCardSaid : Prop := Claim7.holds Tryd.pinned (.plain (OpenSpec.upto tellEncodesSpec)) tellEncodesUptoCard

/-- THE SECOND FORM's CARD OF 'spigotlaw13.TellDecodes'. -/
def tellDecodesUptoCard : Claim7 := { stood := { row := tellDecodesUptoRow, standIns := [], harness := (true, "a1b82ef27e1c5177091d6f44d8ab2ca89c883a9cd7d8b2800ad4ec8d9a0e86b3"), looks := true }, kinds := [], alts := [], laidByText := true, laidKinds := [.data, .data, .data], laidTests := true, laidLooks := .later }
def TellDecodesUptoCardSaid : Prop := Claim7.holds Tryd.pinned (.plain (OpenSpec.upto tellDecodesSpec)) tellDecodesUptoCard

/-- THE SECOND FORM's CARD OF 'spigotlaw13.TellBack'. -/
def tellBackUptoCard : Claim7 := { stood := { row := tellBackUptoRow, standIns := [], harness := (true, "a1b82ef27e1c5177091d6f44d8ab2ca89c883a9cd7d8b2800ad4ec8d9a0e86b3"), looks := true }, kinds := [], alts := [], laidByText := true, laidKinds := [.data, .data, .data], laidTests := true, laidLooks := .later }
def TellBackUptoCardSaid : Prop := Claim7.holds Tryd.pinned (.plain (OpenSpec.upto tellBackSpec)) tellBackUptoCard

/-- THE SECOND FORM's CARD OF 'spigotlaw14.PostOrders'. -/
def postOrdersUptoCard : Claim7 := { stood := { row := postOrdersUptoRow, standIns := [], harness := (true, "a1b82ef27e1c5177091d6f44d8ab2ca89c883a9cd7d8b2800ad4ec8d9a0e86b3"), looks := true }, kinds := [], alts := [], laidByText := true, laidKinds := [.data, .data, .data], laidTests := true, laidLooks := .later }
def PostOrdersUptoCardSaid : Prop := Claim7.holds Tryd.pinned (.plain (OpenSpec.upto postOrdersSpec)) postOrdersUptoCard

/-- THE SECOND FORM's CARD OF 'spigotlaw14.PostDecodes'. -/
def postDecodesUptoCard : Claim7 := { stood := { row := postDecodesUptoRow, standIns := [], harness := (true, "a1b82ef27e1c5177091d6f44d8ab2ca89c883a9cd7d8b2800ad4ec8d9a0e86b3"), looks := true }, kinds := [], alts := [], laidByText := true, laidKinds := [.data, .data, .data], laidTests := true, laidLooks := .later }
def PostDecodesUptoCardSaid : Prop := Claim7.holds Tryd.pinned (.plain (OpenSpec.upto postDecodesSpec)) postDecodesUptoCard

/-- THE SECOND FORM's CARD OF 'spigotlaw14.PostReplies'. -/
def postRepliesUptoCard : Claim7 := { stood := { row := postRepliesUptoRow, standIns := [], harness := (true, "a1b82ef27e1c5177091d6f44d8ab2ca89c883a9cd7d8b2800ad4ec8d9a0e86b3"), looks := true }, kinds := [], alts := [], laidByText := true, laidKinds := [.data, .data, .data], laidTests := true, laidLooks := .later }
def PostRepliesUptoCardSaid : Prop := Claim7.holds Tryd.pinned (.plain (OpenSpec.upto postRepliesSpec)) postRepliesUptoCard

/-- THE SECOND FORM's CARD OF 'spigotlaw14.PostBack'. -/
def postBackUptoCard : Claim7 := { stood := { row := postBackUptoRow, standIns := [], harness := (true, "a1b82ef27e1c5177091d6f44d8ab2ca89c883a9cd7d8b2800ad4ec8d9a0e86b3"), looks := true }, kinds := [], alts := [], laidByText := true, laidKinds := [.data, .data, .data], laidTests := true, laidLooks := .later }
def PostBackUptoCardSaid : Prop := Claim7.holds Tryd.pinned (.plain (OpenSpec.upto postBackSpec)) postBackUptoCard

/-- THE SECOND FORM's CARD OF 'spigotlaw14.PostSound'. -/
def postSoundUptoCard : Claim7 := { stood := { row := postSoundUptoRow, standIns := [], harness := (true, "a1b82ef27e1c5177091d6f44d8ab2ca89c883a9cd7d8b2800ad4ec8d9a0e86b3"), looks := true }, kinds := [], alts := [], laidByText := true, laidKinds := [.data, .data, .data], laidTests := true, laidLooks := .later }
def PostSoundUptoCardSaid : Prop := Claim7.holds Tryd.pinned (.plain (OpenSpec.upto postSoundSpec)) postSoundUptoCard

/-- THE SECOND FORM's CARD OF 'spigotlaw12.AskBack'. -/
def askBackUptoCard : Claim7 := { stood := { row := askBackUptoRow, standIns := [], harness := (true, "a1b82ef27e1c5177091d6f44d8ab2ca89c883a9cd7d8b2800ad4ec8d9a0e86b3"), looks := true }, kinds := [], alts := [], laidByText := true, laidKinds := [.data, .data, .data, .data, .pinned], laidTests := true, laidLooks := .later }
def AskBackUptoCardSaid : Prop := Claim7.holds Tryd.pinned (.plain (OpenSpec.upto askBackSpec)) askBackUptoCard

/-- THE SECOND FORM's CARD OF 'spigotlaw12.AskSound'. -/
def askSoundUptoCard : Claim7 := { stood := { row := askSoundUptoRow, standIns := [], harness := (true, "a1b82ef27e1c5177091d6f44d8ab2ca89c883a9cd7d8b2800ad4ec8d9a0e86b3"), looks := true }, kinds := [], alts := [], laidByText := true, laidKinds := [.data, .data, .data, .data, .pinned], laidTests := true, laidLooks := .later }
def AskSoundUptoCardSaid : Prop := Claim7.holds Tryd.pinned (.plain (OpenSpec.upto askSoundSpec)) askSoundUptoCard
end Rows
end Go.Proofs.YtgfigkfcmkdjdaaDoor

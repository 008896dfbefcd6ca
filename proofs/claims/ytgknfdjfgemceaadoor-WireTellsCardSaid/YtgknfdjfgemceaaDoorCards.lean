/-
  DERIVED. GIVEN WITH THE SEED: THE CARDS: each row of YtgknfdjfgemceaaDoorRows.lean that lists a variable, with what it lists TIED to the program's text (the seventh form; the later family's looks); each row that meets fmt, with fmt's text TOLD by the authors' own Lean function (tested against real Go, not proved from fmt's source: count such statements apart). THE CARD IS WHAT COUNTS. Prove the row's statement (the work); the ties are given (YtgknfdjfgemceaaDoorTie.lean); close each card by the builder's one call (the guide's Derived/Test/ToyasCard.lean, 'card_holds'). Laid BY PROGRAM, IN A SANDBOX (cutbox-door.mjs). By AI agents, Wed Nov 11 2026. No macro, syntax, notation, axiom, sorry.
-/
import Derived.Test.YtgknfdjfgemceaaDoorRows
import GoSem.ClaimSeven
namespace Go.Proofs.YtgknfdjfgemceaaDoor
namespace Rows

/-- THE TIED CARD OF 'spigotlaw10.WireSeals'. -/
def wireSealsCard : Claim7 := { stood := { row := wireSealsRow, standIns := [], harness := (true, "0ae1be5e0260522713be2f3b92a54dd78a06933a5cac29e487931a5ca29ef0bc"), looks := true }, kinds := [], alts := [], laidByText := true, laidKinds := [.data, .data, .data], laidTests := true, laidLooks := .later }
def WireSealsCardSaid : Prop := Claim7.holds Tryd.pinned (.plain (OpenSpec.ofChange wireSealsSpec)) wireSealsCard

/-- THE TIED CARD OF 'spigotlaw10.WireLimits'. -/
def wireLimitsCard : Claim7 := { stood := { row := wireLimitsRow, standIns := [], harness := (true, "0ae1be5e0260522713be2f3b92a54dd78a06933a5cac29e487931a5ca29ef0bc"), looks := true }, kinds := [], alts := [], laidByText := true, laidKinds := [.data, .data, .data], laidTests := true, laidLooks := .later }
def WireLimitsCardSaid : Prop := Claim7.holds Tryd.pinned (.plain (OpenSpec.ofChange wireLimitsSpec)) wireLimitsCard

/-- THE TIED CARD OF 'spigotlaw10.WireOpens'. -/
def wireOpensCard : Claim7 := { stood := { row := wireOpensRow, standIns := [], harness := (true, "0ae1be5e0260522713be2f3b92a54dd78a06933a5cac29e487931a5ca29ef0bc"), looks := true }, kinds := [], alts := [], laidByText := true, laidKinds := [.data, .data, .data], laidTests := true, laidLooks := .later }
def WireOpensCardSaid : Prop := Claim7.holds Tryd.pinned (.plain (OpenSpec.ofChange wireOpensSpec)) wireOpensCard

/-- THE TIED CARD OF 'spigotlaw10.WireOne'. -/
def wireOneCard : Claim7 := { stood := { row := wireOneRow, standIns := [], harness := (true, "0ae1be5e0260522713be2f3b92a54dd78a06933a5cac29e487931a5ca29ef0bc"), looks := true }, kinds := [], alts := [], laidByText := true, laidKinds := [.data, .data, .data], laidTests := true, laidLooks := .later }
def WireOneCardSaid : Prop := Claim7.holds Tryd.pinned (.plain (OpenSpec.ofChange wireOneSpec)) wireOneCard

/-- THE TIED CARD OF 'spigotlaw10.WireBack'. -/
def wireBackCard : Claim7 := { stood := { row := wireBackRow, standIns := [], harness := (true, "0ae1be5e0260522713be2f3b92a54dd78a06933a5cac29e487931a5ca29ef0bc"), looks := true }, kinds := [], alts := [], laidByText := true, laidKinds := [.data, .data, .data], laidTests := true, laidLooks := .later }
def WireBackCardSaid : Prop := Claim7.holds Tryd.pinned (.plain (OpenSpec.ofChange wireBackSpec)) wireBackCard

/-- THE TIED CARD OF 'spigotlaw10.WireTells'. -/
def wireTellsCard : Claim7 := { stood := { row := wireTellsRow, standIns := [], harness := (true, "0ae1be5e0260522713be2f3b92a54dd78a06933a5cac29e487931a5ca29ef0bc"), looks := true }, kinds := [], alts := [], laidByText := true, laidKinds := [.data, .data, .data], laidTests := true, laidLooks := .later }
def WireTellsCardSaid : Prop := Claim7.holds Tryd.pinned (.plain (OpenSpec.ofChange wireTellsSpec)) wireTellsCard

/-- THE SECOND FORM's CARD OF 'spigotlaw10.WireSeals'. -/
def wireSealsUptoCard : Claim7 := { stood := { row := wireSealsUptoRow, standIns := [], harness := (true, "0ae1be5e0260522713be2f3b92a54dd78a06933a5cac29e487931a5ca29ef0bc"), looks := true }, kinds := [], alts := [], laidByText := true, laidKinds := [.data, .data, .data], laidTests := true, laidLooks := .later }
def WireSealsUptoCardSaid : Prop := Claim7.holds Tryd.pinned (.plain (OpenSpec.upto wireSealsSpec)) wireSealsUptoCard

/-- THE SECOND FORM's CARD OF 'spigotlaw10.WireLimits'. -/
def wireLimitsUptoCard : Claim7 := { stood := { row := wireLimitsUptoRow, standIns := [], harness := (true, "0ae1be5e0260522713be2f3b92a54dd78a06933a5cac29e487931a5ca29ef0bc"), looks := true }, kinds := [], alts := [], laidByText := true, laidKinds := [.data, .data, .data], laidTests := true, laidLooks := .later }
def WireLimitsUptoCardSaid : Prop := Claim7.holds Tryd.pinned (.plain (OpenSpec.upto wireLimitsSpec)) wireLimitsUptoCard

/-- THE SECOND FORM's CARD OF 'spigotlaw10.WireOpens'. -/
def wireOpensUptoCard : Claim7 := { stood := { row := wireOpensUptoRow, standIns := [], harness := (true, "0ae1be5e0260522713be2f3b92a54dd78a06933a5cac29e487931a5ca29ef0bc"), looks := true }, kinds := [], alts := [], laidByText := true, laidKinds := [.data, .data, .data], laidTests := true, laidLooks := .later }
def WireOpensUptoCardSaid : Prop := Claim7.holds Tryd.pinned (.plain (OpenSpec.upto wireOpensSpec)) wireOpensUptoCard

/-- THE SECOND FORM's CARD OF 'spigotlaw10.WireOne'. -/
def wireOneUptoCard : Claim7 := { stood := { row := wireOneUptoRow, standIns := [], harness := (true, "0ae1be5e0260522713be2f3b92a54dd78a06933a5cac29e487931a5ca29ef0bc"), looks := true }, kinds := [], alts := [], laidByText := true, laidKinds := [.data, .data, .data], laidTests := true, laidLooks := .later }
def WireOneUptoCardSaid : Prop := Claim7.holds Tryd.pinned (.plain (OpenSpec.upto wireOneSpec)) wireOneUptoCard

/-- THE SECOND FORM's CARD OF 'spigotlaw10.WireBack'. -/
def wireBackUptoCard : Claim7 := { stood := { row := wireBackUptoRow, standIns := [], harness := (true, "0ae1be5e0260522713be2f3b92a54dd78a06933a5cac29e487931a5ca29ef0bc"), looks := true }, kinds := [], alts := [], laidByText := true, laidKinds := [.data, .data, .data], laidTests := true, laidLooks := .later }
def WireBackUptoCardSaid : Prop := Claim7.holds Tryd.pinned (.plain (OpenSpec.upto wireBackSpec)) wireBackUptoCard

/-- THE SECOND FORM's CARD OF 'spigotlaw10.WireTells'. -/
def wireTellsUptoCard : Claim7 := { stood := { row := wireTellsUptoRow, standIns := [], harness := (true, "0ae1be5e0260522713be2f3b92a54dd78a06933a5cac29e487931a5ca29ef0bc"), looks := true }, kinds := [], alts := [], laidByText := true, laidKinds := [.data, .data, .data], laidTests := true, laidLooks := .later }
def WireTellsUptoCardSaid : Prop := Claim7.holds Tryd.pinned (.plain (OpenSpec.upto wireTellsSpec)) wireTellsUptoCard
end Rows
end Go.Proofs.YtgknfdjfgemceaaDoor

/-
  DERIVED. GIVEN WITH THE SEED: THE CARDS: each row of YtcjilccldfkhmaaDoorRows.lean that lists a variable, with what it lists TIED to the program's text (the seventh form; the later family's looks); each row that meets fmt, with fmt's text TOLD by the authors' own Lean function (tested against real Go, not proved from fmt's source: count such statements apart). THE CARD IS WHAT COUNTS. Prove the row's statement (the work); the ties are given (YtcjilccldfkhmaaDoorTie.lean); close each card by the builder's one call (the guide's Derived/Test/ToyasCard.lean, 'card_holds'). Laid BY PROGRAM, IN A SANDBOX (cutbox-door.mjs). By AI agents, Wed Nov 11 2026. No macro, syntax, notation, axiom, sorry.
-/
import Derived.Test.YtcjilccldfkhmaaDoorRows
import GoSem.ClaimSeven
namespace Go.Proofs.YtcjilccldfkhmaaDoor
namespace Rows

/-- THE TIED CARD OF 'spigotlaw37.PhaseTells'. -/
def phaseTellsCard : Claim7 := { stood := { row := phaseTellsRow, standIns := [], harness := (true, "3b2873d054e4cf93440f983ca7bcceaa7027b1db2380dffa2164ce6ccc4ec391"), looks := false }, kinds := [], alts := [], laidByText := true, laidKinds := [.data, .pinned], laidTests := true, laidLooks := .later }
def PhaseTellsCardSaid : Prop := Claim7.holds Tryd.pinned (.plain (OpenSpec.ofChange phaseTellsSpec)) phaseTellsCard

/-- THE TIED CARD OF 'spigotlaw37.PhaseOpens'. -/
def phaseOpensCard : Claim7 := { stood := { row := phaseOpensRow, standIns := [], harness := (true, "3b2873d054e4cf93440f983ca7bcceaa7027b1db2380dffa2164ce6ccc4ec391"), looks := false }, kinds := [], alts := [], laidByText := true, laidKinds := [.data, .pinned], laidTests := true, laidLooks := .later }
def PhaseOpensCardSaid : Prop := Claim7.holds Tryd.pinned (.plain (OpenSpec.ofChange phaseOpensSpec)) phaseOpensCard

/-- THE TIED CARD OF 'spigotlaw37.PhaseFills'. -/
def phaseFillsCard : Claim7 := { stood := { row := phaseFillsRow, standIns := [], harness := (true, "3b2873d054e4cf93440f983ca7bcceaa7027b1db2380dffa2164ce6ccc4ec391"), looks := false }, kinds := [], alts := [], laidByText := true, laidKinds := [.data, .pinned], laidTests := true, laidLooks := .later }
def PhaseFillsCardSaid : Prop := Claim7.holds Tryd.pinned (.plain (OpenSpec.ofChange phaseFillsSpec)) phaseFillsCard

/-- THE TIED CARD OF 'spigotlaw37.PhaseShifts'. -/
def phaseShiftsCard : Claim7 := { stood := { row := phaseShiftsRow, standIns := [], harness := (true, "3b2873d054e4cf93440f983ca7bcceaa7027b1db2380dffa2164ce6ccc4ec391"), looks := false }, kinds := [], alts := [], laidByText := true, laidKinds := [.data, .pinned], laidTests := true, laidLooks := .later }
def PhaseShiftsCardSaid : Prop := Claim7.holds Tryd.pinned (.plain (OpenSpec.ofChange phaseShiftsSpec)) phaseShiftsCard

/-- THE TIED CARD OF 'spigotlaw37.PhaseBack'. -/
def phaseBackCard : Claim7 := { stood := { row := phaseBackRow, standIns := [], harness := (true, "3b2873d054e4cf93440f983ca7bcceaa7027b1db2380dffa2164ce6ccc4ec391"), looks := false }, kinds := [], alts := [], laidByText := true, laidKinds := [.data, .data, .data, .data, .pinned], laidTests := true, laidLooks := .later }
def PhaseBackCardSaid : Prop := Claim7.holds Tryd.pinned (.plain (OpenSpec.ofChange phaseBackSpec)) phaseBackCard

/-- THE SECOND FORM's CARD OF 'spigotlaw37.PhaseTells'. -/
def phaseTellsUptoCard : Claim7 := { stood := { row := phaseTellsUptoRow, standIns := [], harness := (true, "3b2873d054e4cf93440f983ca7bcceaa7027b1db2380dffa2164ce6ccc4ec391"), looks := false }, kinds := [], alts := [], laidByText := true, laidKinds := [.data, .pinned], laidTests := true, laidLooks := .later }
def PhaseTellsUptoCardSaid : Prop := Claim7.holds Tryd.pinned (.plain (OpenSpec.upto phaseTellsSpec)) phaseTellsUptoCard

/-- THE SECOND FORM's CARD OF 'spigotlaw37.PhaseOpens'. -/
def phaseOpensUptoCard : Claim7 := { stood := { row := phaseOpensUptoRow, standIns := [], harness := (true, "3b2873d054e4cf93440f983ca7bcceaa7027b1db2380dffa2164ce6ccc4ec391"), looks := false }, kinds := [], alts := [], laidByText := true, laidKinds := [.data, .pinned], laidTests := true, laidLooks := .later }
def PhaseOpensUptoCardSaid : Prop := Claim7.holds Tryd.pinned (.plain (OpenSpec.upto phaseOpensSpec)) phaseOpensUptoCard

/-- THE SECOND FORM's CARD OF 'spigotlaw37.PhaseFills'. -/
def phaseFillsUptoCard : Claim7 := { stood := { row := phaseFillsUptoRow, standIns := [], harness := (true, "3b2873d054e4cf93440f983ca7bcceaa7027b1db2380dffa2164ce6ccc4ec391"), looks := false }, kinds := [], alts := [], laidByText := true, laidKinds := [.data, .pinned], laidTests := true, laidLooks := .later }
def PhaseFillsUptoCardSaid : Prop := Claim7.holds Tryd.pinned (.plain (OpenSpec.upto phaseFillsSpec)) phaseFillsUptoCard

/-- THE SECOND FORM's CARD OF 'spigotlaw37.PhaseShifts'. -/
def phaseShiftsUptoCard : Claim7 := { stood := { row := phaseShiftsUptoRow, standIns := [], harness := (true, "3b2873d054e4cf93440f983ca7bcceaa7027b1db2380dffa2164ce6ccc4ec391"), looks := false }, kinds := [], alts := [], laidByText := true, laidKinds := [.data, .pinned], laidTests := true, laidLooks := .later }
def PhaseShiftsUptoCardSaid : Prop := Claim7.holds Tryd.pinned (.plain (OpenSpec.upto phaseShiftsSpec)) phaseShiftsUptoCard

/-- THE SECOND FORM's CARD OF 'spigotlaw37.PhaseBack'. -/
def phaseBackUptoCard : Claim7 := { stood := { row := phaseBackUptoRow, standIns := [], harness := (true, "3b2873d054e4cf93440f983ca7bcceaa7027b1db2380dffa2164ce6ccc4ec391"), looks := false }, kinds := [], alts := [], laidByText := true, laidKinds := [.data, .data, .data, .data, .pinned], laidTests := true, laidLooks := .later }
def PhaseBackUptoCardSaid : Prop := Claim7.holds Tryd.pinned (.plain (OpenSpec.upto phaseBackSpec)) phaseBackUptoCard
end Rows
end Go.Proofs.YtcjilccldfkhmaaDoor

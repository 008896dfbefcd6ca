/-
  DERIVED. GIVEN WITH THE SEED: THE CARDS: each row of YtbkpkfbdpmjgoaaDoorRows.lean that lists a variable, with what it lists TIED to the program's text (the seventh form; the later family's looks); each row that meets fmt, with fmt's text TOLD by the authors' own Lean function (tested against real Go, not proved from fmt's source: count such statements apart). THE CARD IS WHAT COUNTS. Prove the row's statement (the work); the ties are given (YtbkpkfbdpmjgoaaDoorTie.lean); close each card by the builder's one call (the guide's Derived/Test/ToyasCard.lean, 'card_holds'). Laid BY PROGRAM, IN A SANDBOX (cutbox-door.mjs). By AI agents, Wed Nov 11 2026. No macro, syntax, notation, axiom, sorry.
-/
import Derived.Test.YtbkpkfbdpmjgoaaDoorRows
import GoSem.ClaimSeven
namespace Go.Proofs.YtbkpkfbdpmjgoaaDoor
namespace Rows

/-- THE TIED CARD OF 'spigotlaw11.BodyNumbers'. -/
def bodyNumbersCard : Claim7 := { stood := { row := bodyNumbersRow, standIns := [], harness := (true, "2012563a5d6dc07c67ad81fddf87bf9e3cedb7283a5fd7e26a4acc2b7deaff5e"), looks := false }, kinds := [], alts := [], laidByText := true, laidKinds := [.data, .pinned], laidTests := true, laidLooks := .later }
def BodyNumbersCardSaid : Prop := Claim7.holds Tryd.pinned (.plain (OpenSpec.ofChange bodyNumbersSpec)) bodyNumbersCard

/-- THE TIED CARD OF 'spigotlaw11.BodyDigits'. -/
def bodyDigitsCard : Claim7 := { stood := { row := bodyDigitsRow, standIns := [], harness := (true, "2012563a5d6dc07c67ad81fddf87bf9e3cedb7283a5fd7e26a4acc2b7deaff5e"), looks := false }, kinds := [], alts := [], laidByText := true, laidKinds := [.data, .pinned], laidTests := true, laidLooks := .later }
def BodyDigitsCardSaid : Prop := Claim7.holds Tryd.pinned (.plain (OpenSpec.ofChange bodyDigitsSpec)) bodyDigitsCard

/-- THE TIED CARD OF 'spigotlaw11.BodyNone'. -/
def bodyNoneCard : Claim7 := { stood := { row := bodyNoneRow, standIns := [], harness := (true, "2012563a5d6dc07c67ad81fddf87bf9e3cedb7283a5fd7e26a4acc2b7deaff5e"), looks := false }, kinds := [], alts := [], laidByText := true, laidKinds := [.data, .pinned], laidTests := true, laidLooks := .later }
def BodyNoneCardSaid : Prop := Claim7.holds Tryd.pinned (.plain (OpenSpec.ofChange bodyNoneSpec)) bodyNoneCard

/-- THE TIED CARD OF 'spigotlaw11.BodyWhole'. -/
def bodyWholeCard : Claim7 := { stood := { row := bodyWholeRow, standIns := [], harness := (true, "2012563a5d6dc07c67ad81fddf87bf9e3cedb7283a5fd7e26a4acc2b7deaff5e"), looks := false }, kinds := [], alts := [], laidByText := true, laidKinds := [.data, .data, .data], laidTests := true, laidLooks := .later }
def BodyWholeCardSaid : Prop := Claim7.holds Tryd.pinned (.plain (OpenSpec.ofChange bodyWholeSpec)) bodyWholeCard

/-- THE SECOND FORM's CARD OF 'spigotlaw11.BodyNumbers'. -/
def bodyNumbersUptoCard : Claim7 := { stood := { row := bodyNumbersUptoRow, standIns := [], harness := (true, "2012563a5d6dc07c67ad81fddf87bf9e3cedb7283a5fd7e26a4acc2b7deaff5e"), looks := false }, kinds := [], alts := [], laidByText := true, laidKinds := [.data, .pinned], laidTests := true, laidLooks := .later }
def BodyNumbersUptoCardSaid : Prop := Claim7.holds Tryd.pinned (.plain (OpenSpec.upto bodyNumbersSpec)) bodyNumbersUptoCard

/-- THE SECOND FORM's CARD OF 'spigotlaw11.BodyDigits'. -/
def bodyDigitsUptoCard : Claim7 := { stood := { row := bodyDigitsUptoRow, standIns := [], harness := (true, "2012563a5d6dc07c67ad81fddf87bf9e3cedb7283a5fd7e26a4acc2b7deaff5e"), looks := false }, kinds := [], alts := [], laidByText := true, laidKinds := [.data, .pinned], laidTests := true, laidLooks := .later }
def BodyDigitsUptoCardSaid : Prop := Claim7.holds Tryd.pinned (.plain (OpenSpec.upto bodyDigitsSpec)) bodyDigitsUptoCard

/-- THE SECOND FORM's CARD OF 'spigotlaw11.BodyNone'. -/
def bodyNoneUptoCard : Claim7 := { stood := { row := bodyNoneUptoRow, standIns := [], harness := (true, "2012563a5d6dc07c67ad81fddf87bf9e3cedb7283a5fd7e26a4acc2b7deaff5e"), looks := false }, kinds := [], alts := [], laidByText := true, laidKinds := [.data, .pinned], laidTests := true, laidLooks := .later }
def BodyNoneUptoCardSaid : Prop := Claim7.holds Tryd.pinned (.plain (OpenSpec.upto bodyNoneSpec)) bodyNoneUptoCard

/-- THE SECOND FORM's CARD OF 'spigotlaw11.BodyWhole'. -/
def bodyWholeUptoCard : Claim7 := { stood := { row := bodyWholeUptoRow, standIns := [], harness := (true, "2012563a5d6dc07c67ad81fddf87bf9e3cedb7283a5fd7e26a4acc2b7deaff5e"), looks := false }, kinds := [], alts := [], laidByText := true, laidKinds := [.data, .data, .data], laidTests := true, laidLooks := .later }
def BodyWholeUptoCardSaid : Prop := Claim7.holds Tryd.pinned (.plain (OpenSpec.upto bodyWholeSpec)) bodyWholeUptoCard
end Rows
end Go.Proofs.YtbkpkfbdpmjgoaaDoor

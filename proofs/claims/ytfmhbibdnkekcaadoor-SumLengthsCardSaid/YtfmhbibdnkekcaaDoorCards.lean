/-
  DERIVED. GIVEN WITH THE SEED: THE CARDS: each row of YtfmhbibdnkekcaaDoorRows.lean that lists a variable, with what it lists TIED to the program's text (the seventh form; the later family's looks); each row that meets fmt, with fmt's text TOLD by the authors' own Lean function (tested against real Go, not proved from fmt's source: count such statements apart). THE CARD IS WHAT COUNTS. Prove the row's statement (the work); the ties are given (YtfmhbibdnkekcaaDoorTie.lean); close each card by the builder's one call (the guide's Derived/Test/ToyasCard.lean, 'card_holds'). Laid BY PROGRAM, IN A SANDBOX (cutbox-door.mjs). By AI agents, Wed Nov 11 2026. No macro, syntax, notation, axiom, sorry.
-/
import Derived.Test.YtfmhbibdnkekcaaDoorRows
import GoSem.ClaimSeven
namespace Go.Proofs.YtfmhbibdnkekcaaDoor
namespace Rows

/-- THE TIED CARD OF 'spigotlaw09.SumLengths'. -/
def sumLengthsCard : Claim7 := { stood := { row := sumLengthsRow, standIns := [], harness := (true, "181ab17e762a7a2c38bf04a6c32f1df2a23b52263ad36af644202404353c5a46"), looks := false }, kinds := [], alts := [], laidByText := true, laidKinds := [.data, .data, .data], laidTests := true, laidLooks := .later }
def SumLengthsCardSaid : Prop := Claim7.holds Tryd.pinned (.plain (OpenSpec.ofChange sumLengthsSpec)) sumLengthsCard

/-- THE SECOND FORM's CARD OF 'spigotlaw09.SumLengths'. -/
def sumLengthsUptoCard : Claim7 := { stood := { row := sumLengthsUptoRow, standIns := [], harness := (true, "181ab17e762a7a2c38bf04a6c32f1df2a23b52263ad36af644202404353c5a46"), looks := false }, kinds := [], alts := [], laidByText := true, laidKinds := [.data, .data, .data], laidTests := true, laidLooks := .later }
def SumLengthsUptoCardSaid : Prop := Claim7.holds Tryd.pinned (.plain (OpenSpec.upto sumLengthsSpec)) sumLengthsUptoCard
end Rows
end Go.Proofs.YtfmhbibdnkekcaaDoor

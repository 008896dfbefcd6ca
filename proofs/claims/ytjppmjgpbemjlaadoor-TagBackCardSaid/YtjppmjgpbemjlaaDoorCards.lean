/-
  DERIVED. GIVEN WITH THE SEED: THE CARDS: each row of YtjppmjgpbemjlaaDoorRows.lean that lists a variable, with what it lists TIED to the program's text (the seventh form; the later family's looks); each row that meets fmt, with fmt's text TOLD by the authors' own Lean function (tested against real Go, not proved from fmt's source: count such statements apart). THE CARD IS WHAT COUNTS. Prove the row's statement (the work); the ties are given (YtjppmjgpbemjlaaDoorTie.lean); close each card by the builder's one call (the guide's Derived/Test/ToyasCard.lean, 'card_holds'). Laid BY PROGRAM, IN A SANDBOX (cutbox-door.mjs). By AI agents, Wed Nov 11 2026. No macro, syntax, notation, axiom, sorry.
-/
import Derived.Test.YtjppmjgpbemjlaaDoorRows
import GoSem.ClaimSeven
namespace Go.Proofs.YtjppmjgpbemjlaaDoor
namespace Rows

/-- THE TIED CARD OF 'spigotlaw08.TagReads'. -/
def tagReadsCard : Claim7 := { stood := { row := tagReadsRow, standIns := [], harness := (true, "3d1c90a7522343e3e58924b810627c93ce753a750ae4c50a464c77eafea5f3ed"), looks := false }, kinds := [], alts := [], laidByText := true, laidKinds := [.data, .data, .data], laidTests := true, laidLooks := .later }
def TagReadsCardSaid : Prop := Claim7.holds Tryd.pinned (.plain (OpenSpec.ofChange tagReadsSpec)) tagReadsCard

/-- THE TIED CARD OF 'spigotlaw08.TagForms'. -/
def tagFormsCard : Claim7 := { stood := { row := tagFormsRow, standIns := [], harness := (true, "3d1c90a7522343e3e58924b810627c93ce753a750ae4c50a464c77eafea5f3ed"), looks := false }, kinds := [], alts := [], laidByText := true, laidKinds := [.data, .data, .data], laidTests := true, laidLooks := .later }
def TagFormsCardSaid : Prop := Claim7.holds Tryd.pinned (.plain (OpenSpec.ofChange tagFormsSpec)) tagFormsCard

/-- THE TIED CARD OF 'spigotlaw08.TagBack'. -/
def tagBackCard : Claim7 := { stood := { row := tagBackRow, standIns := [], harness := (true, "3d1c90a7522343e3e58924b810627c93ce753a750ae4c50a464c77eafea5f3ed"), looks := false }, kinds := [], alts := [], laidByText := true, laidKinds := [.data, .data, .data], laidTests := true, laidLooks := .later }
def TagBackCardSaid : Prop := Claim7.holds Tryd.pinned (.plain (OpenSpec.ofChange tagBackSpec)) tagBackCard

/-- THE TIED CARD OF 'spigotlaw08.TagOne'. -/
def tagOneCard : Claim7 := { stood := { row := tagOneRow, standIns := [], harness := (true, "3d1c90a7522343e3e58924b810627c93ce753a750ae4c50a464c77eafea5f3ed"), looks := false }, kinds := [], alts := [], laidByText := true, laidKinds := [.data, .data, .data], laidTests := true, laidLooks := .later }
def TagOneCardSaid : Prop := Claim7.holds Tryd.pinned (.plain (OpenSpec.ofChange tagOneSpec)) tagOneCard

/-- THE SECOND FORM's CARD OF 'spigotlaw08.TagReads'. -/
def tagReadsUptoCard : Claim7 := { stood := { row := tagReadsUptoRow, standIns := [], harness := (true, "3d1c90a7522343e3e58924b810627c93ce753a750ae4c50a464c77eafea5f3ed"), looks := false }, kinds := [], alts := [], laidByText := true, laidKinds := [.data, .data, .data], laidTests := true, laidLooks := .later }
def TagReadsUptoCardSaid : Prop := Claim7.holds Tryd.pinned (.plain (OpenSpec.upto tagReadsSpec)) tagReadsUptoCard

/-- THE SECOND FORM's CARD OF 'spigotlaw08.TagForms'. -/
def tagFormsUptoCard : Claim7 := { stood := { row := tagFormsUptoRow, standIns := [], harness := (true, "3d1c90a7522343e3e58924b810627c93ce753a750ae4c50a464c77eafea5f3ed"), looks := false }, kinds := [], alts := [], laidByText := true, laidKinds := [.data, .data, .data], laidTests := true, laidLooks := .later }
def TagFormsUptoCardSaid : Prop := Claim7.holds Tryd.pinned (.plain (OpenSpec.upto tagFormsSpec)) tagFormsUptoCard

/-- THE SECOND FORM's CARD OF 'spigotlaw08.TagBack'. -/
def tagBackUptoCard : Claim7 := { stood := { row := tagBackUptoRow, standIns := [], harness := (true, "3d1c90a7522343e3e58924b810627c93ce753a750ae4c50a464c77eafea5f3ed"), looks := false }, kinds := [], alts := [], laidByText := true, laidKinds := [.data, .data, .data], laidTests := true, laidLooks := .later }
def TagBackUptoCardSaid : Prop := Claim7.holds Tryd.pinned (.plain (OpenSpec.upto tagBackSpec)) tagBackUptoCard

/-- THE SECOND FORM's CARD OF 'spigotlaw08.TagOne'. -/
def tagOneUptoCard : Claim7 := { stood := { row := tagOneUptoRow, standIns := [], harness := (true, "3d1c90a7522343e3e58924b810627c93ce753a750ae4c50a464c77eafea5f3ed"), looks := false }, kinds := [], alts := [], laidByText := true, laidKinds := [.data, .data, .data], laidTests := true, laidLooks := .later }
def TagOneUptoCardSaid : Prop := Claim7.holds Tryd.pinned (.plain (OpenSpec.upto tagOneSpec)) tagOneUptoCard
end Rows
end Go.Proofs.YtjppmjgpbemjlaaDoor

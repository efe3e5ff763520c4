/-
  DERIVED. GIVEN WITH THE SEED: THE CARDS: each row of YtdkpbpjcbkibiaaGreatDoorRows.lean that lists a variable, with what it lists TIED to the program's text (the seventh form; the later family's looks); each row that meets fmt, with fmt's text TOLD by the authors' own Lean function (tested against real Go, not proved from fmt's source: count such statements apart). THE CARD IS WHAT COUNTS. Prove the row's statement (the work); the ties are given (YtdkpbpjcbkibiaaGreatDoorTie.lean); close each card by the builder's one call (the guide's Derived/Test/ToyasCard.lean, 'card_holds'). Laid BY PROGRAM, IN A SANDBOX (cutbox-door.mjs). By AI agents, Wed Nov 11 2026. No macro, syntax, notation, axiom, sorry.
-/
import Derived.Test.YtdkpbpjcbkibiaaGreatDoorRows
import GoSem.ClaimSeven
namespace Go.Proofs.YtdkpbpjcbkibiaaGreatDoor
namespace Rows

/-- THE TIED CARD OF 'althingtop.TopTwins'. -/
def topTwinsCard : Claim7 := { stood := { row := topTwinsRow, standIns := [], harness := (true, "373ae14b24c5d43aedab65e775661dd650c1a14a7485f5cef4dcfe198572e515"), looks := true }, kinds := [], alts := [], laidByText := true, laidKinds := [.listed, .data], laidTests := true, laidLooks := .later }
def TopTwinsCardSaid : Prop := Claim7.holds Tryz.pinned (.plain (OpenSpec.ofChange topTwinsSpec)) topTwinsCard

/-- THE TIED CARD OF 'althingtop.TopConviction'. -/
def topConvictionCard : Claim7 := { stood := { row := topConvictionRow, standIns := [], harness := (true, "373ae14b24c5d43aedab65e775661dd650c1a14a7485f5cef4dcfe198572e515"), looks := true }, kinds := [], alts := [], laidByText := true, laidKinds := [.listed, .data], laidTests := true, laidLooks := .later }
def TopConvictionCardSaid : Prop := Claim7.holds Tryz.pinned (.plain (OpenSpec.ofChange topConvictionSpec)) topConvictionCard

/-- THE TIED CARD OF 'althingtop.TopLent'. -/
def topLentCard : Claim7 := { stood := { row := topLentRow, standIns := [], harness := (true, "373ae14b24c5d43aedab65e775661dd650c1a14a7485f5cef4dcfe198572e515"), looks := true }, kinds := [], alts := [], laidByText := true, laidKinds := [.listed, .data], laidTests := true, laidLooks := .later }
def TopLentCardSaid : Prop := Claim7.holds Tryz.pinned (.plain (OpenSpec.ofChange topLentSpec)) topLentCard

/-- THE TIED CARD OF 'althingtop.TopLocked'. -/
def topLockedCard : Claim7 := { stood := { row := topLockedRow, standIns := [], harness := (true, "373ae14b24c5d43aedab65e775661dd650c1a14a7485f5cef4dcfe198572e515"), looks := true }, kinds := [], alts := [], laidByText := true, laidKinds := [.listed, .data], laidTests := true, laidLooks := .later }
def TopLockedCardSaid : Prop := Claim7.holds Tryz.pinned (.plain (OpenSpec.ofChange topLockedSpec)) topLockedCard

/-- THE TIED CARD OF 'althingtop.TopSpends'. -/
def topSpendsCard : Claim7 := { stood := { row := topSpendsRow, standIns := [], harness := (true, "373ae14b24c5d43aedab65e775661dd650c1a14a7485f5cef4dcfe198572e515"), looks := true }, kinds := [], alts := [], laidByText := true, laidKinds := [.listed, .data], laidTests := true, laidLooks := .later }
def TopSpendsCardSaid : Prop := Claim7.holds Tryz.pinned (.plain (OpenSpec.ofChange topSpendsSpec)) topSpendsCard

/-- THE SECOND FORM's CARD OF 'althingtop.TopTwins'. -/
def topTwinsUptoCard : Claim7 := { stood := { row := topTwinsUptoRow, standIns := [], harness := (true, "373ae14b24c5d43aedab65e775661dd650c1a14a7485f5cef4dcfe198572e515"), looks := true }, kinds := [], alts := [], laidByText := true, laidKinds := [.listed, .data], laidTests := true, laidLooks := .later }
def TopTwinsUptoCardSaid : Prop := Claim7.holds Tryz.pinned (.plain (OpenSpec.upto topTwinsSpec)) topTwinsUptoCard

/-- THE SECOND FORM's CARD OF 'althingtop.TopConviction'. -/
def topConvictionUptoCard : Claim7 := { stood := { row := topConvictionUptoRow, standIns := [], harness := (true, "373ae14b24c5d43aedab65e775661dd650c1a14a7485f5cef4dcfe198572e515"), looks := true }, kinds := [], alts := [], laidByText := true, laidKinds := [.listed, .data], laidTests := true, laidLooks := .later }
def TopConvictionUptoCardSaid : Prop := Claim7.holds Tryz.pinned (.plain (OpenSpec.upto topConvictionSpec)) topConvictionUptoCard

/-- THE SECOND FORM's CARD OF 'althingtop.TopLent'. -/
def topLentUptoCard : Claim7 := { stood := { row := topLentUptoRow, standIns := [], harness := (true, "373ae14b24c5d43aedab65e775661dd650c1a14a7485f5cef4dcfe198572e515"), looks := true }, kinds := [], alts := [], laidByText := true, laidKinds := [.listed, .data], laidTests := true, laidLooks := .later }
def TopLentUptoCardSaid : Prop := Claim7.holds Tryz.pinned (.plain (OpenSpec.upto topLentSpec)) topLentUptoCard

/-- THE SECOND FORM's CARD OF 'althingtop.TopLocked'. -/
def topLockedUptoCard : Claim7 := { stood := { row := topLockedUptoRow, standIns := [], harness := (true, "373ae14b24c5d43aedab65e775661dd650c1a14a7485f5cef4dcfe198572e515"), looks := true }, kinds := [], alts := [], laidByText := true, laidKinds := [.listed, .data], laidTests := true, laidLooks := .later }
def TopLockedUptoCardSaid : Prop := Claim7.holds Tryz.pinned (.plain (OpenSpec.upto topLockedSpec)) topLockedUptoCard

/-- THE SECOND FORM's CARD OF 'althingtop.TopSpends'. -/
def topSpendsUptoCard : Claim7 := { stood := { row := topSpendsUptoRow, standIns := [], harness := (true, "373ae14b24c5d43aedab65e775661dd650c1a14a7485f5cef4dcfe198572e515"), looks := true }, kinds := [], alts := [], laidByText := true, laidKinds := [.listed, .data], laidTests := true, laidLooks := .later }
def TopSpendsUptoCardSaid : Prop := Claim7.holds Tryz.pinned (.plain (OpenSpec.upto topSpendsSpec)) topSpendsUptoCard
end Rows
end Go.Proofs.YtdkpbpjcbkibiaaGreatDoor

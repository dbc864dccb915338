/-
  DERIVED. GIVEN WITH THE SEED: THE CARDS: each row of YtohbcfokihplbaaGreatDoorRows.lean that lists a variable, with what it lists TIED to the program's text (the seventh form; the later family's looks); each row that meets fmt, with fmt's text TOLD by the authors' own Lean function (tested against real Go, not proved from fmt's source: count such statements apart). THE CARD IS WHAT COUNTS. Prove the row's statement (the work); the ties are given (YtohbcfokihplbaaGreatDoorTie.lean); close each card by the builder's one call (the guide's Derived/Test/ToyasCard.lean, 'card_holds'). Laid BY PROGRAM, IN A SANDBOX (cutbox-door.mjs). By AI agents, Wed Nov 11 2026. No macro, syntax, notation, axiom, sorry.
-/
import Derived.Test.YtohbcfokihplbaaGreatDoorRows
import GoSem.ClaimSeven
namespace Go.Proofs.YtohbcfokihplbaaGreatDoor
namespace Rows

/-- THE TIED CARD OF 'hauberklaw22.RingTogether'. -/
def ringTogetherCard : Claim7 := { stood := { row := ringTogetherRow, standIns := [], harness := (true, "e79b5e927c56bb364b62b53f4df4270c1eafb271a1a7923f54a4aecb8fc1b52f"), looks := false }, kinds := [], alts := [], laidByText := true, laidKinds := [.data, .data], laidTests := true, laidLooks := .later }
def RingTogetherCardSaid : Prop := Claim7.holds Tryz.pinned (.plain (OpenSpec.ofChange ringTogetherSpec)) ringTogetherCard

/-- THE TIED CARD OF 'hauberklaw22.RingLife'. -/
def ringLifeCard : Claim7 := { stood := { row := ringLifeRow, standIns := [], harness := (true, "e79b5e927c56bb364b62b53f4df4270c1eafb271a1a7923f54a4aecb8fc1b52f"), looks := false }, kinds := [], alts := [], laidByText := true, laidKinds := [.data, .data], laidTests := true, laidLooks := .later }
def RingLifeCardSaid : Prop := Claim7.holds Tryz.pinned (.plain (OpenSpec.ofChange ringLifeSpec)) ringLifeCard

/-- THE TIED CARD OF 'hauberklaw22.RingHeals'. -/
def ringHealsCard : Claim7 := { stood := { row := ringHealsRow, standIns := [], harness := (true, "e79b5e927c56bb364b62b53f4df4270c1eafb271a1a7923f54a4aecb8fc1b52f"), looks := false }, kinds := [], alts := [], laidByText := true, laidKinds := [.data, .data], laidTests := true, laidLooks := .later }
def RingHealsCardSaid : Prop := Claim7.holds Tryz.pinned (.plain (OpenSpec.ofChange ringHealsSpec)) ringHealsCard

/-- THE TIED CARD OF 'hauberklaw22.RingNames'. -/
def ringNamesCard : Claim7 := { stood := { row := ringNamesRow, standIns := [], harness := (true, "e79b5e927c56bb364b62b53f4df4270c1eafb271a1a7923f54a4aecb8fc1b52f"), looks := false }, kinds := [], alts := [], laidByText := true, laidKinds := [.data, .data], laidTests := true, laidLooks := .later }
def RingNamesCardSaid : Prop := Claim7.holds Tryz.pinned (.plain (OpenSpec.ofChange ringNamesSpec)) ringNamesCard

/-- THE SECOND FORM's CARD OF 'hauberklaw22.RingTogether'. -/
def ringTogetherUptoCard : Claim7 := { stood := { row := ringTogetherUptoRow, standIns := [], harness := (true, "e79b5e927c56bb364b62b53f4df4270c1eafb271a1a7923f54a4aecb8fc1b52f"), looks := false }, kinds := [], alts := [], laidByText := true, laidKinds := [.data, .data], laidTests := true, laidLooks := .later }
def RingTogetherUptoCardSaid : Prop := Claim7.holds Tryz.pinned (.plain (OpenSpec.upto ringTogetherSpec)) ringTogetherUptoCard

/-- THE SECOND FORM's CARD OF 'hauberklaw22.RingLife'. -/
def ringLifeUptoCard : Claim7 := { stood := { row := ringLifeUptoRow, standIns := [], harness := (true, "e79b5e927c56bb364b62b53f4df4270c1eafb271a1a7923f54a4aecb8fc1b52f"), looks := false }, kinds := [], alts := [], laidByText := true, laidKinds := [.data, .data], laidTests := true, laidLooks := .later }
def RingLifeUptoCardSaid : Prop := Claim7.holds Tryz.pinned (.plain (OpenSpec.upto ringLifeSpec)) ringLifeUptoCard

/-- THE SECOND FORM's CARD OF 'hauberklaw22.RingHeals'. -/
def ringHealsUptoCard : Claim7 := { stood := { row := ringHealsUptoRow, standIns := [], harness := (true, "e79b5e927c56bb364b62b53f4df4270c1eafb271a1a7923f54a4aecb8fc1b52f"), looks := false }, kinds := [], alts := [], laidByText := true, laidKinds := [.data, .data], laidTests := true, laidLooks := .later }
def RingHealsUptoCardSaid : Prop := Claim7.holds Tryz.pinned (.plain (OpenSpec.upto ringHealsSpec)) ringHealsUptoCard

/-- THE SECOND FORM's CARD OF 'hauberklaw22.RingNames'. -/
def ringNamesUptoCard : Claim7 := { stood := { row := ringNamesUptoRow, standIns := [], harness := (true, "e79b5e927c56bb364b62b53f4df4270c1eafb271a1a7923f54a4aecb8fc1b52f"), looks := false }, kinds := [], alts := [], laidByText := true, laidKinds := [.data, .data], laidTests := true, laidLooks := .later }
def RingNamesUptoCardSaid : Prop := Claim7.holds Tryz.pinned (.plain (OpenSpec.upto ringNamesSpec)) ringNamesUptoCard
end Rows
end Go.Proofs.YtohbcfokihplbaaGreatDoor

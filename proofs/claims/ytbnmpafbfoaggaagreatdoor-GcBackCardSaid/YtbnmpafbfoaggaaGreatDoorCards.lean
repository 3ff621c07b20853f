/-
  DERIVED. GIVEN WITH THE SEED: THE CARDS: each row of YtbnmpafbfoaggaaGreatDoorRows.lean that lists a variable, with what it lists TIED to the program's text (the seventh form; the later family's looks); each row that meets fmt, with fmt's text TOLD by the authors' own Lean function (tested against real Go, not proved from fmt's source: count such statements apart). THE CARD IS WHAT COUNTS. Prove the row's statement (the work); the ties are given (YtbnmpafbfoaggaaGreatDoorTie.lean); close each card by the builder's one call (the guide's Derived/Test/ToyasCard.lean, 'card_holds'). Laid BY PROGRAM, IN A SANDBOX (cutbox-door.mjs). By AI agents, Wed Nov 11 2026. No macro, syntax, notation, axiom, sorry.
-/
import Derived.Test.YtbnmpafbfoaggaaGreatDoorRows
import GoSem.ClaimSeven
namespace Go.Proofs.YtbnmpafbfoaggaaGreatDoor
namespace Rows

/-- THE TIED CARD OF 'caracolelaw23.GcMinors'. -/
def gcMinorsCard : Claim7 := { stood := { row := gcMinorsRow, standIns := [], harness := (true, "d7d4d4dfa4e20b569e60206bb37f9b99bce264a2233d294950cf0f9e60c7dc79"), looks := true }, kinds := [], alts := [], goes := true, laidByText := true, laidKinds := [.handle], laidTests := true, laidLooks := .later }
def GcMinorsCardSaid : Prop := Claim7.holds Tryz.pinned (.plain (OpenSpec.ofChange gcMinorsSpec)) gcMinorsCard

/-- THE TIED CARD OF 'caracolelaw23.GcFulls'. -/
def gcFullsCard : Claim7 := { stood := { row := gcFullsRow, standIns := [], harness := (true, "d7d4d4dfa4e20b569e60206bb37f9b99bce264a2233d294950cf0f9e60c7dc79"), looks := true }, kinds := [], alts := [], goes := true, laidByText := true, laidKinds := [.handle], laidTests := true, laidLooks := .later }
def GcFullsCardSaid : Prop := Claim7.holds Tryz.pinned (.plain (OpenSpec.ofChange gcFullsSpec)) gcFullsCard

/-- THE TIED CARD OF 'caracolelaw23.GcTwice'. -/
def gcTwiceCard : Claim7 := { stood := { row := gcTwiceRow, standIns := [], harness := (true, "d7d4d4dfa4e20b569e60206bb37f9b99bce264a2233d294950cf0f9e60c7dc79"), looks := true }, kinds := [], alts := [], goes := true, laidByText := true, laidKinds := [.handle], laidTests := true, laidLooks := .later }
def GcTwiceCardSaid : Prop := Claim7.holds Tryz.pinned (.plain (OpenSpec.ofChange gcTwiceSpec)) gcTwiceCard

/-- THE TIED CARD OF 'caracolelaw23.GcDoes'. -/
def gcDoesCard : Claim7 := { stood := { row := gcDoesRow, standIns := [], harness := (true, "d7d4d4dfa4e20b569e60206bb37f9b99bce264a2233d294950cf0f9e60c7dc79"), looks := true }, kinds := [], alts := [], goes := true, laidByText := true, laidKinds := [.handle], laidTests := true, laidLooks := .later }
def GcDoesCardSaid : Prop := Claim7.holds Tryz.pinned (.plain (OpenSpec.ofChange gcDoesSpec)) gcDoesCard

/-- THE TIED CARD OF 'caracolelaw23.GcRoom'. -/
def gcRoomCard : Claim7 := { stood := { row := gcRoomRow, standIns := [], harness := (true, "d7d4d4dfa4e20b569e60206bb37f9b99bce264a2233d294950cf0f9e60c7dc79"), looks := true }, kinds := [], alts := [], goes := true, laidByText := true, laidKinds := [.handle], laidTests := true, laidLooks := .later }
def GcRoomCardSaid : Prop := Claim7.holds Tryz.pinned (.plain (OpenSpec.ofChange gcRoomSpec)) gcRoomCard

/-- THE TIED CARD OF 'caracolelaw23.GcRuns'. -/
def gcRunsCard : Claim7 := { stood := { row := gcRunsRow, standIns := [], harness := (true, "d7d4d4dfa4e20b569e60206bb37f9b99bce264a2233d294950cf0f9e60c7dc79"), looks := true }, kinds := [], alts := [], goes := true, laidByText := true, laidKinds := [.handle], laidTests := true, laidLooks := .later }
def GcRunsCardSaid : Prop := Claim7.holds Tryz.pinned (.plain (OpenSpec.ofChange gcRunsSpec)) gcRunsCard

/-- THE TIED CARD OF 'caracolelaw23.GcChecks'. -/
def gcChecksCard : Claim7 := { stood := { row := gcChecksRow, standIns := [], harness := (true, "d7d4d4dfa4e20b569e60206bb37f9b99bce264a2233d294950cf0f9e60c7dc79"), looks := true }, kinds := [], alts := [], goes := true, laidByText := true, laidKinds := [.handle], laidTests := true, laidLooks := .later }
def GcChecksCardSaid : Prop := Claim7.holds Tryz.pinned (.plain (OpenSpec.ofChange gcChecksSpec)) gcChecksCard

/-- THE TIED CARD OF 'caracolelaw23.GcKnown'. -/
def gcKnownCard : Claim7 := { stood := { row := gcKnownRow, standIns := [], harness := (true, "d7d4d4dfa4e20b569e60206bb37f9b99bce264a2233d294950cf0f9e60c7dc79"), looks := true }, kinds := [], alts := [], goes := true, laidByText := true, laidKinds := [.handle], laidTests := true, laidLooks := .later }
def GcKnownCardSaid : Prop := Claim7.holds Tryz.pinned (.plain (OpenSpec.ofChange gcKnownSpec)) gcKnownCard

/-- THE TIED CARD OF 'caracolelaw23.GcWhole'. -/
def gcWholeCard : Claim7 := { stood := { row := gcWholeRow, standIns := [], harness := (true, "d7d4d4dfa4e20b569e60206bb37f9b99bce264a2233d294950cf0f9e60c7dc79"), looks := true }, kinds := [], alts := [], goes := true, laidByText := true, laidKinds := [.handle], laidTests := true, laidLooks := .later }
def GcWholeCardSaid : Prop := Claim7.holds Tryz.pinned (.plain (OpenSpec.ofChange gcWholeSpec)) gcWholeCard

/-- THE TIED CARD OF 'caracolelaw23.GcPlains'. -/
def gcPlainsCard : Claim7 := { stood := { row := gcPlainsRow, standIns := [], harness := (true, "d7d4d4dfa4e20b569e60206bb37f9b99bce264a2233d294950cf0f9e60c7dc79"), looks := true }, kinds := [], alts := [], goes := true, laidByText := true, laidKinds := [.handle], laidTests := true, laidLooks := .later }
def GcPlainsCardSaid : Prop := Claim7.holds Tryz.pinned (.plain (OpenSpec.ofChange gcPlainsSpec)) gcPlainsCard

/-- THE TIED CARD OF 'caracolelaw23.GcValid'. -/
def gcValidCard : Claim7 := { stood := { row := gcValidRow, standIns := [], harness := (true, "d7d4d4dfa4e20b569e60206bb37f9b99bce264a2233d294950cf0f9e60c7dc79"), looks := true }, kinds := [], alts := [], goes := true, laidByText := true, laidKinds := [.handle], laidTests := true, laidLooks := .later }
def GcValidCardSaid : Prop := Claim7.holds Tryz.pinned (.plain (OpenSpec.ofChange gcValidSpec)) gcValidCard

/-- THE TIED CARD OF 'caracolelaw23.GcMinorKeeps'. -/
def gcMinorKeepsCard : Claim7 := { stood := { row := gcMinorKeepsRow, standIns := [], harness := (true, "d7d4d4dfa4e20b569e60206bb37f9b99bce264a2233d294950cf0f9e60c7dc79"), looks := true }, kinds := [], alts := [], goes := true, laidByText := true, laidKinds := [.handle], laidTests := true, laidLooks := .later }
def GcMinorKeepsCardSaid : Prop := Claim7.holds Tryz.pinned (.plain (OpenSpec.ofChange gcMinorKeepsSpec)) gcMinorKeepsCard

/-- THE TIED CARD OF 'caracolelaw23.GcMarks'. -/
def gcMarksCard : Claim7 := { stood := { row := gcMarksRow, standIns := [], harness := (true, "d7d4d4dfa4e20b569e60206bb37f9b99bce264a2233d294950cf0f9e60c7dc79"), looks := true }, kinds := [], alts := [], goes := true, laidByText := true, laidKinds := [.handle], laidTests := true, laidLooks := .later }
def GcMarksCardSaid : Prop := Claim7.holds Tryz.pinned (.plain (OpenSpec.ofChange gcMarksSpec)) gcMarksCard

/-- THE TIED CARD OF 'caracolelaw23.GcBack'. -/
def gcBackCard : Claim7 := { stood := { row := gcBackRow, standIns := [], harness := (true, "d7d4d4dfa4e20b569e60206bb37f9b99bce264a2233d294950cf0f9e60c7dc79"), looks := true }, kinds := [], alts := [], goes := true, laidByText := true, laidKinds := [.handle], laidTests := true, laidLooks := .later }
def GcBackCardSaid : Prop := Claim7.holds Tryz.pinned (.plain (OpenSpec.ofChange gcBackSpec)) gcBackCard
end Rows
end Go.Proofs.YtbnmpafbfoaggaaGreatDoor

/-
  DERIVED. GIVEN WITH THE SEED: THE CARDS: each row of YtbeihceeliifeaaGreatDoorRows.lean that lists a variable, with what it lists TIED to the program's text (the seventh form; the later family's looks); each row that meets fmt, with fmt's text TOLD by the authors' own Lean function (tested against real Go, not proved from fmt's source: count such statements apart). THE CARD IS WHAT COUNTS. Prove the row's statement (the work); the ties are given (YtbeihceeliifeaaGreatDoorTie.lean); close each card by the builder's one call (the guide's Derived/Test/ToyasCard.lean, 'card_holds'). Laid BY PROGRAM, IN A SANDBOX (cutbox-door.mjs). By AI agents, Wed Nov 11 2026. No macro, syntax, notation, axiom, sorry.
-/
import Derived.Test.YtbeihceeliifeaaGreatDoorRows
import GoSem.ClaimSeven
namespace Go.Proofs.YtbeihceeliifeaaGreatDoor
namespace Rows

/-- THE TIED CARD OF 'posthornlaw21.RecurMatches'. -/
def recurMatchesCard : Claim7 := { stood := { row := recurMatchesRow, standIns := [], harness := (true, "8315f2a1425bf04eeeb8fdf73778023137278465b54d2d4543d9fbdb30d8eb37"), looks := true }, kinds := [], alts := [], laidByText := true, laidKinds := [.data, .data, .data, .data, .sentinel, .sentinel, .pinned], laidTests := true, laidLooks := .later }
def RecurMatchesCardSaid : Prop := Claim7.holds Tryz.pinned (.plain (OpenSpec.ofChange recurMatchesSpec)) recurMatchesCard

/-- THE TIED CARD OF 'posthornlaw21.RecurExpands'. -/
def recurExpandsCard : Claim7 := { stood := { row := recurExpandsRow, standIns := [], harness := (true, "8315f2a1425bf04eeeb8fdf73778023137278465b54d2d4543d9fbdb30d8eb37"), looks := true }, kinds := [], alts := [], laidByText := true, laidKinds := [.data, .data, .data, .data, .sentinel, .sentinel, .pinned], laidTests := true, laidLooks := .later }
def RecurExpandsCardSaid : Prop := Claim7.holds Tryz.pinned (.plain (OpenSpec.ofChange recurExpandsSpec)) recurExpandsCard

/-- THE TIED CARD OF 'posthornlaw21.RecurTimes'. -/
def recurTimesCard : Claim7 := { stood := { row := recurTimesRow, standIns := [], harness := (true, "8315f2a1425bf04eeeb8fdf73778023137278465b54d2d4543d9fbdb30d8eb37"), looks := true }, kinds := [], alts := [], laidByText := true, laidKinds := [.data, .data, .data, .data, .sentinel, .sentinel, .pinned], laidTests := true, laidLooks := .later }
def RecurTimesCardSaid : Prop := Claim7.holds Tryz.pinned (.plain (OpenSpec.ofChange recurTimesSpec)) recurTimesCard

/-- THE TIED CARD OF 'posthornlaw21.RecurWindows'. -/
def recurWindowsCard : Claim7 := { stood := { row := recurWindowsRow, standIns := [], harness := (true, "8315f2a1425bf04eeeb8fdf73778023137278465b54d2d4543d9fbdb30d8eb37"), looks := true }, kinds := [], alts := [], laidByText := true, laidKinds := [.data, .data, .data, .data, .sentinel, .sentinel, .pinned], laidTests := true, laidLooks := .later }
def RecurWindowsCardSaid : Prop := Claim7.holds Tryz.pinned (.plain (OpenSpec.ofChange recurWindowsSpec)) recurWindowsCard

/-- THE TIED CARD OF 'posthornlaw21.RecurCounts'. -/
def recurCountsCard : Claim7 := { stood := { row := recurCountsRow, standIns := [], harness := (true, "8315f2a1425bf04eeeb8fdf73778023137278465b54d2d4543d9fbdb30d8eb37"), looks := true }, kinds := [], alts := [], laidByText := true, laidKinds := [.data, .data, .data, .data, .sentinel, .sentinel, .pinned], laidTests := true, laidLooks := .later }
def RecurCountsCardSaid : Prop := Claim7.holds Tryz.pinned (.plain (OpenSpec.ofChange recurCountsSpec)) recurCountsCard

/-- THE SECOND FORM's CARD OF 'posthornlaw21.RecurMatches'. -/
def recurMatchesUptoCard : Claim7 := { stood := { row := recurMatchesUptoRow, standIns := [], harness := (true, "8315f2a1425bf04eeeb8fdf73778023137278465b54d2d4543d9fbdb30d8eb37"), looks := true }, kinds := [], alts := [], laidByText := true, laidKinds := [.data, .data, .data, .data, .sentinel, .sentinel, .pinned], laidTests := true, laidLooks := .later }
def RecurMatchesUptoCardSaid : Prop := Claim7.holds Tryz.pinned (.plain (OpenSpec.upto recurMatchesSpec)) recurMatchesUptoCard

/-- THE SECOND FORM's CARD OF 'posthornlaw21.RecurExpands'. -/
def recurExpandsUptoCard : Claim7 := { stood := { row := recurExpandsUptoRow, standIns := [], harness := (true, "8315f2a1425bf04eeeb8fdf73778023137278465b54d2d4543d9fbdb30d8eb37"), looks := true }, kinds := [], alts := [], laidByText := true, laidKinds := [.data, .data, .data, .data, .sentinel, .sentinel, .pinned], laidTests := true, laidLooks := .later }
def RecurExpandsUptoCardSaid : Prop := Claim7.holds Tryz.pinned (.plain (OpenSpec.upto recurExpandsSpec)) recurExpandsUptoCard

/-- THE SECOND FORM's CARD OF 'posthornlaw21.RecurTimes'. -/
def recurTimesUptoCard : Claim7 := { stood := { row := recurTimesUptoRow, standIns := [], harness := (true, "8315f2a1425bf04eeeb8fdf73778023137278465b54d2d4543d9fbdb30d8eb37"), looks := true }, kinds := [], alts := [], laidByText := true, laidKinds := [.data, .data, .data, .data, .sentinel, .sentinel, .pinned], laidTests := true, laidLooks := .later }
def RecurTimesUptoCardSaid : Prop := Claim7.holds Tryz.pinned (.plain (OpenSpec.upto recurTimesSpec)) recurTimesUptoCard

/-- THE SECOND FORM's CARD OF 'posthornlaw21.RecurWindows'. -/
def recurWindowsUptoCard : Claim7 := { stood := { row := recurWindowsUptoRow, standIns := [], harness := (true, "8315f2a1425bf04eeeb8fdf73778023137278465b54d2d4543d9fbdb30d8eb37"), looks := true }, kinds := [], alts := [], laidByText := true, laidKinds := [.data, .data, .data, .data, .sentinel, .sentinel, .pinned], laidTests := true, laidLooks := .later }
def RecurWindowsUptoCardSaid : Prop := Claim7.holds Tryz.pinned (.plain (OpenSpec.upto recurWindowsSpec)) recurWindowsUptoCard

/-- THE SECOND FORM's CARD OF 'posthornlaw21.RecurCounts'. -/
def recurCountsUptoCard : Claim7 := { stood := { row := recurCountsUptoRow, standIns := [], harness := (true, "8315f2a1425bf04eeeb8fdf73778023137278465b54d2d4543d9fbdb30d8eb37"), looks := true }, kinds := [], alts := [], laidByText := true, laidKinds := [.data, .data, .data, .data, .sentinel, .sentinel, .pinned], laidTests := true, laidLooks := .later }
def RecurCountsUptoCardSaid : Prop := Claim7.holds Tryz.pinned (.plain (OpenSpec.upto recurCountsSpec)) recurCountsUptoCard
end Rows
end Go.Proofs.YtbeihceeliifeaaGreatDoor

/-
  DERIVED. GIVEN WITH THE SEED: THE CARDS: each row of YtlkonnkglbfkbaaDoorRows.lean that lists a variable, with what it lists TIED to the program's text (the seventh form; the later family's looks); each row that meets fmt, with fmt's text TOLD by the authors' own Lean function (tested against real Go, not proved from fmt's source: count such statements apart). THE CARD IS WHAT COUNTS. Prove the row's statement (the work); the ties are given (YtlkonnkglbfkbaaDoorTie.lean); close each card by the builder's one call (the guide's Derived/Test/ToyasCard.lean, 'card_holds'). Laid BY PROGRAM, IN A SANDBOX (cutbox-door.mjs). By AI agents, Wed Nov 11 2026. No macro, syntax, notation, axiom, sorry.
-/
import Derived.Test.YtlkonnkglbfkbaaDoorRows
import GoSem.ClaimSeven
namespace Go.Proofs.YtlkonnkglbfkbaaDoor
namespace Rows

/-- THE TIED CARD OF 'posthornlaw19.ExtraCodes'. -/
def extraCodesCard : Claim7 := { stood := { row := extraCodesRow, standIns := [], harness := (true, "61a550d436d49698cf9f68a7b9526dea3d297653a5f111e8c8497af9ae2826d3"), looks := true }, kinds := [], alts := [], laidByText := true, laidKinds := [.data, .data, .data, .sentinel, .sentinel], laidTests := true, laidLooks := .later }
def ExtraCodesCardSaid : Prop := Claim7.holds Tryd.pinned (.plain (OpenSpec.ofChange extraCodesSpec)) extraCodesCard

/-- THE TIED CARD OF 'posthornlaw19.ExtraCodeBack'. -/
def extraCodeBackCard : Claim7 := { stood := { row := extraCodeBackRow, standIns := [], harness := (true, "61a550d436d49698cf9f68a7b9526dea3d297653a5f111e8c8497af9ae2826d3"), looks := true }, kinds := [], alts := [], laidByText := true, laidKinds := [.data, .data, .data, .sentinel, .sentinel], laidTests := true, laidLooks := .later }
def ExtraCodeBackCardSaid : Prop := Claim7.holds Tryd.pinned (.plain (OpenSpec.ofChange extraCodeBackSpec)) extraCodeBackCard

/-- THE SECOND FORM's CARD OF 'posthornlaw19.ExtraCodes'. -/
def extraCodesUptoCard : Claim7 := { stood := { row := extraCodesUptoRow, standIns := [], harness := (true, "61a550d436d49698cf9f68a7b9526dea3d297653a5f111e8c8497af9ae2826d3"), looks := true }, kinds := [], alts := [], laidByText := true, laidKinds := [.data, .data, .data, .sentinel, .sentinel], laidTests := true, laidLooks := .later }
def ExtraCodesUptoCardSaid : Prop := Claim7.holds Tryd.pinned (.plain (OpenSpec.upto extraCodesSpec)) extraCodesUptoCard

/-- THE SECOND FORM's CARD OF 'posthornlaw19.ExtraCodeBack'. -/
def extraCodeBackUptoCard : Claim7 := { stood := { row := extraCodeBackUptoRow, standIns := [], harness := (true, "61a550d436d49698cf9f68a7b9526dea3d297653a5f111e8c8497af9ae2826d3"), looks := true }, kinds := [], alts := [], laidByText := true, laidKinds := [.data, .data, .data, .sentinel, .sentinel], laidTests := true, laidLooks := .later }
def ExtraCodeBackUptoCardSaid : Prop := Claim7.holds Tryd.pinned (.plain (OpenSpec.upto extraCodeBackSpec)) extraCodeBackUptoCard
end Rows
end Go.Proofs.YtlkonnkglbfkbaaDoor

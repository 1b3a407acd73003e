/-
  No cell of these rows narrows 'for every input' (looked for: loops, veiled, ifaces, maps, wideKeys, modest, calm, conditions, laid).
  DERIVED. THE GIVEN ROWS OF THIS SEAT. 5 by the template 'for every input the law returns true; each argument reads behind the call as it read before'; 0 by the template 'total and deterministic' (their statements: YtlplmkllmgdifaaTotals.lean).
  GIVEN WITH THE SEED: the statements are not yours to turn. If you find one false, say at which input.
  Laid BY PROGRAM, IN A SANDBOX (cutbox-rows.mjs): the forced cells as the released guide's own fill.sh prints them over the translation 97840dadd4d3de69… (all of the seat's roots in one cut). By AI agents, Wed Nov 11 2026. No macro, syntax, notation, axiom, sorry.
-/
import Derived.Test.YtlplmkllmgdifaaChecked
import GoSem.Claim
import GoSem.ClaimJoined
import GoSem.ClaimMapViews
import Derived.JoinedTies
import Derived.KernelRfl
namespace Go.Proofs.Ytlplmkllmgdifaa
/- THE CELL 'sum', in the pinned program and in every row, IS THE sha256 OF THE DUMP (.gsa) THAT YtlplmkllmgdifaaProg.lean LOADS. Nothing in Lean hashes anything: it is a label: what it is worth is what the hold of that sum in a sandbox is worth. -/
noncomputable def Try.pinned : Pinned := { name := "ytlplmkllmgdifaa", sum := "97840dadd4d3de697e06dc6ae76f78ce8ce54559902398fdfd3d798d7eeaced2", checked := Try.checked }
namespace Rows
def none {H : Type} : Left H := { results := [], args := [] }

/-- 'posthornlaw22.ZoneShifts': WHATEVER THE INPUT: true; the input reads as it did. -/
def zoneShiftsSpec : ChangeSpec := { name := "zoneShifts", fn := fun _ => fun
  | [d1, d2] => { results := [.lit (.bool true)], args := [d1, d2] }
  | _ => none }
def zoneShiftsRow : OpenClaim := { program := "ytlplmkllmgdifaa", sum := "97840dadd4d3de697e06dc6ae76f78ce8ce54559902398fdfd3d798d7eeaced2", func := "posthorn/posthornlaw22.ZoneShifts", spec := "zoneShifts", unfollowed := true, recurses := true, apart := false }
def ZoneShiftsSaid : Prop := zoneShiftsRow.holds Try.pinned (OpenSpec.ofChange zoneShiftsSpec)

/-- ITS FALSE NEIGHBOUR: 'it returns false'. Refute it at one input. -/
def zoneShiftsWrong : ChangeSpec := { name := "zoneShifts", fn := fun _ => fun
  | [d1, d2] => { results := [.lit (.bool false)], args := [d1, d2] }
  | _ => none }
def ZoneShiftsWrongFalsely : Prop := zoneShiftsRow.holds Try.pinned (OpenSpec.ofChange zoneShiftsWrong)

/-- 'posthornlaw22.ZoneApart': WHATEVER THE INPUT: true; the input reads as it did. -/
def zoneApartSpec : ChangeSpec := { name := "zoneApart", fn := fun _ => fun
  | [d1, d2, d3] => { results := [.lit (.bool true)], args := [d1, d2, d3] }
  | _ => none }
def zoneApartRow : OpenClaim := { program := "ytlplmkllmgdifaa", sum := "97840dadd4d3de697e06dc6ae76f78ce8ce54559902398fdfd3d798d7eeaced2", func := "posthorn/posthornlaw22.ZoneApart", spec := "zoneApart", unfollowed := true, recurses := true, apart := false }
def ZoneApartSaid : Prop := zoneApartRow.holds Try.pinned (OpenSpec.ofChange zoneApartSpec)

/-- ITS FALSE NEIGHBOUR: 'it returns false'. Refute it at one input. -/
def zoneApartWrong : ChangeSpec := { name := "zoneApart", fn := fun _ => fun
  | [d1, d2, d3] => { results := [.lit (.bool false)], args := [d1, d2, d3] }
  | _ => none }
def ZoneApartWrongFalsely : Prop := zoneApartRow.holds Try.pinned (OpenSpec.ofChange zoneApartWrong)

/-- 'posthornlaw22.ZoneMoments': WHATEVER THE INPUT: true; the input reads as it did. -/
def zoneMomentsSpec : ChangeSpec := { name := "zoneMoments", fn := fun _ => fun
  | [d1, d2] => { results := [.lit (.bool true)], args := [d1, d2] }
  | _ => none }
def zoneMomentsRow : OpenClaim := { program := "ytlplmkllmgdifaa", sum := "97840dadd4d3de697e06dc6ae76f78ce8ce54559902398fdfd3d798d7eeaced2", func := "posthorn/posthornlaw22.ZoneMoments", spec := "zoneMoments", unfollowed := true, recurses := true, apart := false }
def ZoneMomentsSaid : Prop := zoneMomentsRow.holds Try.pinned (OpenSpec.ofChange zoneMomentsSpec)

/-- ITS FALSE NEIGHBOUR: 'it returns false'. Refute it at one input. -/
def zoneMomentsWrong : ChangeSpec := { name := "zoneMoments", fn := fun _ => fun
  | [d1, d2] => { results := [.lit (.bool false)], args := [d1, d2] }
  | _ => none }
def ZoneMomentsWrongFalsely : Prop := zoneMomentsRow.holds Try.pinned (OpenSpec.ofChange zoneMomentsWrong)

/-- 'posthornlaw22.ZoneBoth': WHATEVER THE INPUT: true; the input reads as it did. -/
def zoneBothSpec : ChangeSpec := { name := "zoneBoth", fn := fun _ => fun
  | [d1, d2, d3] => { results := [.lit (.bool true)], args := [d1, d2, d3] }
  | _ => none }
def zoneBothRow : OpenClaim := { program := "ytlplmkllmgdifaa", sum := "97840dadd4d3de697e06dc6ae76f78ce8ce54559902398fdfd3d798d7eeaced2", func := "posthorn/posthornlaw22.ZoneBoth", spec := "zoneBoth", unfollowed := true, recurses := true, apart := false }
def ZoneBothSaid : Prop := zoneBothRow.holds Try.pinned (OpenSpec.ofChange zoneBothSpec)

/-- ITS FALSE NEIGHBOUR: 'it returns false'. Refute it at one input. -/
def zoneBothWrong : ChangeSpec := { name := "zoneBoth", fn := fun _ => fun
  | [d1, d2, d3] => { results := [.lit (.bool false)], args := [d1, d2, d3] }
  | _ => none }
def ZoneBothWrongFalsely : Prop := zoneBothRow.holds Try.pinned (OpenSpec.ofChange zoneBothWrong)

/-- 'posthornlaw22.ZoneGaps': WHATEVER THE INPUT: true; the input reads as it did. -/
def zoneGapsSpec : ChangeSpec := { name := "zoneGaps", fn := fun _ => fun
  | [d1, d2] => { results := [.lit (.bool true)], args := [d1, d2] }
  | _ => none }
def zoneGapsRow : OpenClaim := { program := "ytlplmkllmgdifaa", sum := "97840dadd4d3de697e06dc6ae76f78ce8ce54559902398fdfd3d798d7eeaced2", func := "posthorn/posthornlaw22.ZoneGaps", spec := "zoneGaps", unfollowed := true, recurses := true, apart := false }
def ZoneGapsSaid : Prop := zoneGapsRow.holds Try.pinned (OpenSpec.ofChange zoneGapsSpec)

/-- ITS FALSE NEIGHBOUR: 'it returns false'. Refute it at one input. -/
def zoneGapsWrong : ChangeSpec := { name := "zoneGaps", fn := fun _ => fun
  | [d1, d2] => { results := [.lit (.bool false)], args := [d1, d2] }
  | _ => none }
def ZoneGapsWrongFalsely : Prop := zoneGapsRow.holds Try.pinned (OpenSpec.ofChange zoneGapsWrong)

/- THE SECOND FORM. 'bulk': how many values and letters a reading holds, each counted each time it is reached (what is shared counts as often as it is met; a slice's spare places count too). A statement '..UptoSaid' is the law's where the arguments, and the package variables that the reading takes, are together of bulk at most 1048576: NARROWER than '..Said'. Prove '..Said' where nothing that the law and all that it calls make is longer than what came in: it says more and counts as full. Else prove '..UptoSaid'. A law counts once. -/
mutual
def uptoBulk {H : Type} : DataW H → Nat
  | .lit (.string bytes) => bytes.length + 1
  | .lit _ => 1
  | .nil => 1
  | .ptr d => uptoBulk d + 1
  | .slice elems spare => uptoBulkAll elems + uptoBulkAll spare + 1
  | .agg parts => uptoBulkAll parts + 1
  | .iface _ d => uptoBulk d + 1
  | .map entries => uptoBulkEntries entries + 1
  | .held _ => 1
def uptoBulkAll {H : Type} : List (DataW H) → Nat
  | [] => 0
  | d :: r => uptoBulk d + uptoBulkAll r
def uptoBulkEntries {H : Type} : List (Lit × DataW H) → Nat
  | [] => 0
  | x :: r => uptoBulkEntry x + uptoBulkEntries r
def uptoBulkEntry {H : Type} : Lit × DataW H → Nat
  | (.string bytes, d) => bytes.length + uptoBulk d + 1
  | (_, d) => uptoBulk d + 1
 end
def uptoSmall : (H : Type) → List (DataW H) → Bool := fun _ ds => decide (uptoBulkAll ds ≤ 1048576)
def OpenSpec.upto (s : _root_.Go.ChangeSpec) : _root_.Go.OpenSpec := { _root_.Go.OpenSpec.ofChange s with cond := some uptoSmall }

/-- 'posthornlaw22.ZoneShifts', WHERE WHAT IT READS IS OF BULK AT MOST 1048576: true; the input reads as it did. -/
def zoneShiftsUptoRow : OpenClaim := { program := "ytlplmkllmgdifaa", sum := "97840dadd4d3de697e06dc6ae76f78ce8ce54559902398fdfd3d798d7eeaced2", func := "posthorn/posthornlaw22.ZoneShifts", spec := "zoneShifts", unfollowed := true, recurses := true, apart := false, narrowed := true }
def ZoneShiftsUptoSaid : Prop := zoneShiftsUptoRow.holds Try.pinned (OpenSpec.upto zoneShiftsSpec)

/-- 'posthornlaw22.ZoneApart', WHERE WHAT IT READS IS OF BULK AT MOST 1048576: true; the input reads as it did. -/
def zoneApartUptoRow : OpenClaim := { program := "ytlplmkllmgdifaa", sum := "97840dadd4d3de697e06dc6ae76f78ce8ce54559902398fdfd3d798d7eeaced2", func := "posthorn/posthornlaw22.ZoneApart", spec := "zoneApart", unfollowed := true, recurses := true, apart := false, narrowed := true }
def ZoneApartUptoSaid : Prop := zoneApartUptoRow.holds Try.pinned (OpenSpec.upto zoneApartSpec)

/-- 'posthornlaw22.ZoneMoments', WHERE WHAT IT READS IS OF BULK AT MOST 1048576: true; the input reads as it did. -/
def zoneMomentsUptoRow : OpenClaim := { program := "ytlplmkllmgdifaa", sum := "97840dadd4d3de697e06dc6ae76f78ce8ce54559902398fdfd3d798d7eeaced2", func := "posthorn/posthornlaw22.ZoneMoments", spec := "zoneMoments", unfollowed := true, recurses := true, apart := false, narrowed := true }
def ZoneMomentsUptoSaid : Prop := zoneMomentsUptoRow.holds Try.pinned (OpenSpec.upto zoneMomentsSpec)

/-- 'posthornlaw22.ZoneBoth', WHERE WHAT IT READS IS OF BULK AT MOST 1048576: true; the input reads as it did. -/
def zoneBothUptoRow : OpenClaim := { program := "ytlplmkllmgdifaa", sum := "97840dadd4d3de697e06dc6ae76f78ce8ce54559902398fdfd3d798d7eeaced2", func := "posthorn/posthornlaw22.ZoneBoth", spec := "zoneBoth", unfollowed := true, recurses := true, apart := false, narrowed := true }
def ZoneBothUptoSaid : Prop := zoneBothUptoRow.holds Try.pinned (OpenSpec.upto zoneBothSpec)

/-- 'posthornlaw22.ZoneGaps', WHERE WHAT IT READS IS OF BULK AT MOST 1048576: true; the input reads as it did. -/
def zoneGapsUptoRow : OpenClaim := { program := "ytlplmkllmgdifaa", sum := "97840dadd4d3de697e06dc6ae76f78ce8ce54559902398fdfd3d798d7eeaced2", func := "posthorn/posthornlaw22.ZoneGaps", spec := "zoneGaps", unfollowed := true, recurses := true, apart := false, narrowed := true }
def ZoneGapsUptoSaid : Prop := zoneGapsUptoRow.holds Try.pinned (OpenSpec.upto zoneGapsSpec)

end Rows
end Go.Proofs.Ytlplmkllmgdifaa

/-
  No cell of these rows narrows 'for every input' (looked for: loops, veiled, ifaces, maps, wideKeys, modest, calm, conditions, laid).
  DERIVED. THE GIVEN ROWS OF THIS SEAT. 3 by the template 'for every input the law returns true; each argument reads behind the call as it read before'; 0 by the template 'total and deterministic' (their statements: YtkgkblmeafhkfaaGreatTotals.lean).
  GIVEN WITH THE SEED: the statements are not yours to turn. If you find one false, say at which input.
  Laid BY PROGRAM, IN A SANDBOX (cutbox-rows.mjs): the forced cells as the released guide's own fill.sh prints them over the translation fcb2e2a98f02494b… (all of the seat's roots in one cut). By AI agents, Wed Nov 11 2026. No macro, syntax, notation, axiom, sorry.
-/
import Derived.Test.YtkgkblmeafhkfaaGreatChecked
import GoSem.Claim
import GoSem.ClaimJoined
import GoSem.ClaimMapViews
import Derived.JoinedTies
import Derived.KernelRfl
namespace Go.Proofs.YtkgkblmeafhkfaaGreat
/- THE CELL 'sum', in the pinned program and in every row, IS THE sha256 OF THE DUMP (.gsa) THAT YtkgkblmeafhkfaaGreatProg.lean LOADS. Nothing in Lean hashes anything: it is a label: what it is worth is what the hold of that sum in a sandbox is worth. -/
noncomputable def Tryz.pinned : Pinned := { name := "ytkgkblmeafhkfaagreat", sum := "fcb2e2a98f02494b3c50f324a5fef5d333e866d65a8ad4d9a48a86db41e48030", checked := Tryz.checked }
namespace Rows
def none {H : Type} : Left H := { results := [], args := [] }

/-- 'posthornlaw23.SeriesOriginals': WHATEVER THE INPUT: true; the input reads as it did. -/
def seriesOriginalsSpec : ChangeSpec := { name := "seriesOriginals", fn := fun _ => fun
  | [d1, d2, d3] => { results := [.lit (.bool true)], args := [d1, d2, d3] }
  | _ => none }
def seriesOriginalsRow : OpenClaim := { program := "ytkgkblmeafhkfaagreat", sum := "fcb2e2a98f02494b3c50f324a5fef5d333e866d65a8ad4d9a48a86db41e48030", func := "posthorn/posthornlaw23.SeriesOriginals", spec := "seriesOriginals", unfollowed := true, recurses := true, apart := false }
def SeriesOriginalsSaid : Prop := seriesOriginalsRow.holds Tryz.pinned (OpenSpec.ofChange seriesOriginalsSpec)

/-- ITS FALSE NEIGHBOUR: 'it returns false'. Refute it at one input. -/
def seriesOriginalsWrong : ChangeSpec := { name := "seriesOriginals", fn := fun _ => fun
  | [d1, d2, d3] => { results := [.lit (.bool false)], args := [d1, d2, d3] }
  | _ => none }
def SeriesOriginalsWrongFalsely : Prop := seriesOriginalsRow.holds Tryz.pinned (OpenSpec.ofChange seriesOriginalsWrong)

/-- 'posthornlaw23.SeriesInstances': WHATEVER THE INPUT: true; the input reads as it did. -/
def seriesInstancesSpec : ChangeSpec := { name := "seriesInstances", fn := fun _ => fun
  | [d1, d2, d3] => { results := [.lit (.bool true)], args := [d1, d2, d3] }
  | _ => none }
def seriesInstancesRow : OpenClaim := { program := "ytkgkblmeafhkfaagreat", sum := "fcb2e2a98f02494b3c50f324a5fef5d333e866d65a8ad4d9a48a86db41e48030", func := "posthorn/posthornlaw23.SeriesInstances", spec := "seriesInstances", unfollowed := true, recurses := true, apart := false }
def SeriesInstancesSaid : Prop := seriesInstancesRow.holds Tryz.pinned (OpenSpec.ofChange seriesInstancesSpec)

/-- ITS FALSE NEIGHBOUR: 'it returns false'. Refute it at one input. -/
def seriesInstancesWrong : ChangeSpec := { name := "seriesInstances", fn := fun _ => fun
  | [d1, d2, d3] => { results := [.lit (.bool false)], args := [d1, d2, d3] }
  | _ => none }
def SeriesInstancesWrongFalsely : Prop := seriesInstancesRow.holds Tryz.pinned (OpenSpec.ofChange seriesInstancesWrong)

/-- 'posthornlaw23.SeriesSets': WHATEVER THE INPUT: true; the input reads as it did. -/
def seriesSetsSpec : ChangeSpec := { name := "seriesSets", fn := fun _ => fun
  | [d1, d2] => { results := [.lit (.bool true)], args := [d1, d2] }
  | _ => none }
def seriesSetsRow : OpenClaim := { program := "ytkgkblmeafhkfaagreat", sum := "fcb2e2a98f02494b3c50f324a5fef5d333e866d65a8ad4d9a48a86db41e48030", func := "posthorn/posthornlaw23.SeriesSets", spec := "seriesSets", unfollowed := true, recurses := true, apart := false }
def SeriesSetsSaid : Prop := seriesSetsRow.holds Tryz.pinned (OpenSpec.ofChange seriesSetsSpec)

/-- ITS FALSE NEIGHBOUR: 'it returns false'. Refute it at one input. -/
def seriesSetsWrong : ChangeSpec := { name := "seriesSets", fn := fun _ => fun
  | [d1, d2] => { results := [.lit (.bool false)], args := [d1, d2] }
  | _ => none }
def SeriesSetsWrongFalsely : Prop := seriesSetsRow.holds Tryz.pinned (OpenSpec.ofChange seriesSetsWrong)

/- THE SECOND FORM. 'bulk': how many values and letters a reading holds, each counted each time it is reached (what is shared counts as often as it is met; a slice's spare places count too). A statement '..UptoSaid' is the law's where the arguments, and the package variables that the reading takes, are together of bulk at most 1048576: NARROWER than '..Said'. Prove '..Said' where nothing that the law and all that it calls make is longer than what came in: it says more and counts as full. Else prove '..UptoSaid'. A law counts once. -/
mutual
def uptoBulk {H : Type} : DataW H → Nat
  | .lit (.string bytes) => bytes.length + 1
  | .lit _ => 1
  | .nil => 1
  | .ptr d => uptoBulk d + 1
  | .slice elems spare => uptoBulkAll elems + uptoBulkAll spare + 1
  | .agg parts => uptoBulkAll parts + 1
  | .iface _ d => uptoBulk d + 1
  | .map entries => uptoBulkEntries entries + 1
  | .held _ => 1
def uptoBulkAll {H : Type} : List (DataW H) → Nat
  | [] => 0
  | d :: r => uptoBulk d + uptoBulkAll r
def uptoBulkEntries {H : Type} : List (Lit × DataW H) → Nat
  | [] => 0
  | x :: r => uptoBulkEntry x + uptoBulkEntries r
def uptoBulkEntry {H : Type} : Lit × DataW H → Nat
  | (.string bytes, d) => bytes.length + uptoBulk d + 1
  | (_, d) => uptoBulk d + 1
 end
def uptoSmall : (H : Type) → List (DataW H) → Bool := fun _ ds => decide (uptoBulkAll ds ≤ 1048576)
def OpenSpec.upto (s : _root_.Go.ChangeSpec) : _root_.Go.OpenSpec := { _root_.Go.OpenSpec.ofChange s with cond := some uptoSmall }

/-- 'posthornlaw23.SeriesOriginals', WHERE WHAT IT READS IS OF BULK AT MOST 1048576: true; the input reads as it did. -/
def seriesOriginalsUptoRow : OpenClaim := { program := "ytkgkblmeafhkfaagreat", sum := "fcb2e2a98f02494b3c50f324a5fef5d333e866d65a8ad4d9a48a86db41e48030", func := "posthorn/posthornlaw23.SeriesOriginals", spec := "seriesOriginals", unfollowed := true, recurses := true, apart := false, narrowed := true }
def SeriesOriginalsUptoSaid : Prop := seriesOriginalsUptoRow.holds Tryz.pinned (OpenSpec.upto seriesOriginalsSpec)

/-- 'posthornlaw23.SeriesInstances', WHERE WHAT IT READS IS OF BULK AT MOST 1048576: true; the input reads as it did. -/
def seriesInstancesUptoRow : OpenClaim := { program := "ytkgkblmeafhkfaagreat", sum := "fcb2e2a98f02494b3c50f324a5fef5d333e866d65a8ad4d9a48a86db41e48030", func := "posthorn/posthornlaw23.SeriesInstances", spec := "seriesInstances", unfollowed := true, recurses := true, apart := false, narrowed := true }
def SeriesInstancesUptoSaid : Prop := seriesInstancesUptoRow.holds Tryz.pinned (OpenSpec.upto seriesInstancesSpec)

/-- 'posthornlaw23.SeriesSets', WHERE WHAT IT READS IS OF BULK AT MOST 1048576: true; the input reads as it did. -/
def seriesSetsUptoRow : OpenClaim := { program := "ytkgkblmeafhkfaagreat", sum := "fcb2e2a98f02494b3c50f324a5fef5d333e866d65a8ad4d9a48a86db41e48030", func := "posthorn/posthornlaw23.SeriesSets", spec := "seriesSets", unfollowed := true, recurses := true, apart := false, narrowed := true }
def SeriesSetsUptoSaid : Prop := seriesSetsUptoRow.holds Tryz.pinned (OpenSpec.upto seriesSetsSpec)

end Rows
end Go.Proofs.YtkgkblmeafhkfaaGreat

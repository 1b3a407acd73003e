/-
  No cell of these rows narrows 'for every input' (looked for: loops, veiled, ifaces, maps, wideKeys, modest, calm, conditions, laid).
  DERIVED. THE GIVEN ROWS OF THIS SEAT. 4 by the template 'for every input the law returns true; each argument reads behind the call as it read before'; 0 by the template 'total and deterministic' (their statements: YtkgkblmeafhkfaaTotals.lean).
  GIVEN WITH THE SEED: the statements are not yours to turn. If you find one false, say at which input.
  Laid BY PROGRAM, IN A SANDBOX (cutbox-rows.mjs): the forced cells as the released guide's own fill.sh prints them over the translation c18796bba7bf2d59… (all of the seat's roots in one cut). By AI agents, Wed Nov 11 2026. No macro, syntax, notation, axiom, sorry.
-/
import Derived.Test.YtkgkblmeafhkfaaChecked
import GoSem.Claim
import GoSem.ClaimJoined
import GoSem.ClaimMapViews
import Derived.JoinedTies
import Derived.KernelRfl
namespace Go.Proofs.Ytkgkblmeafhkfaa
/- THE CELL 'sum', in the pinned program and in every row, IS THE sha256 OF THE DUMP (.gsa) THAT YtkgkblmeafhkfaaProg.lean LOADS. Nothing in Lean hashes anything: it is a label: what it is worth is what the hold of that sum in a sandbox is worth. -/
noncomputable def Try.pinned : Pinned := { name := "ytkgkblmeafhkfaa", sum := "c18796bba7bf2d590963f74461ae9287d33c4fac919b67d12c9395d8a82c8177", checked := Try.checked }
namespace Rows
def none {H : Type} : Left H := { results := [], args := [] }

/-- 'posthornlaw23.SeriesOnce': WHATEVER THE INPUT: true; the input reads as it did. -/
def seriesOnceSpec : ChangeSpec := { name := "seriesOnce", fn := fun _ => fun
  | [d1, d2, d3] => { results := [.lit (.bool true)], args := [d1, d2, d3] }
  | _ => none }
def seriesOnceRow : OpenClaim := { program := "ytkgkblmeafhkfaa", sum := "c18796bba7bf2d590963f74461ae9287d33c4fac919b67d12c9395d8a82c8177", func := "posthorn/posthornlaw23.SeriesOnce", spec := "seriesOnce", unfollowed := true, recurses := true, apart := false }
def SeriesOnceSaid : Prop := seriesOnceRow.holds Try.pinned (OpenSpec.ofChange seriesOnceSpec)

/-- ITS FALSE NEIGHBOUR: 'it returns false'. Refute it at one input. -/
def seriesOnceWrong : ChangeSpec := { name := "seriesOnce", fn := fun _ => fun
  | [d1, d2, d3] => { results := [.lit (.bool false)], args := [d1, d2, d3] }
  | _ => none }
def SeriesOnceWrongFalsely : Prop := seriesOnceRow.holds Try.pinned (OpenSpec.ofChange seriesOnceWrong)

/-- 'posthornlaw23.SeriesWider': WHATEVER THE INPUT: true; the input reads as it did. -/
def seriesWiderSpec : ChangeSpec := { name := "seriesWider", fn := fun _ => fun
  | [d1, d2, d3, d4, d5] => { results := [.lit (.bool true)], args := [d1, d2, d3, d4, d5] }
  | _ => none }
def seriesWiderRow : OpenClaim := { program := "ytkgkblmeafhkfaa", sum := "c18796bba7bf2d590963f74461ae9287d33c4fac919b67d12c9395d8a82c8177", func := "posthorn/posthornlaw23.SeriesWider", spec := "seriesWider", unfollowed := true, recurses := true, apart := false }
def SeriesWiderSaid : Prop := seriesWiderRow.holds Try.pinned (OpenSpec.ofChange seriesWiderSpec)

/-- ITS FALSE NEIGHBOUR: 'it returns false'. Refute it at one input. -/
def seriesWiderWrong : ChangeSpec := { name := "seriesWider", fn := fun _ => fun
  | [d1, d2, d3, d4, d5] => { results := [.lit (.bool false)], args := [d1, d2, d3, d4, d5] }
  | _ => none }
def SeriesWiderWrongFalsely : Prop := seriesWiderRow.holds Try.pinned (OpenSpec.ofChange seriesWiderWrong)

/-- 'posthornlaw23.SeriesMoves': WHATEVER THE INPUT: true; the input reads as it did. -/
def seriesMovesSpec : ChangeSpec := { name := "seriesMoves", fn := fun _ => fun
  | [d1, d2, d3, d4, d5] => { results := [.lit (.bool true)], args := [d1, d2, d3, d4, d5] }
  | _ => none }
def seriesMovesRow : OpenClaim := { program := "ytkgkblmeafhkfaa", sum := "c18796bba7bf2d590963f74461ae9287d33c4fac919b67d12c9395d8a82c8177", func := "posthorn/posthornlaw23.SeriesMoves", spec := "seriesMoves", unfollowed := true, recurses := true, apart := false }
def SeriesMovesSaid : Prop := seriesMovesRow.holds Try.pinned (OpenSpec.ofChange seriesMovesSpec)

/-- ITS FALSE NEIGHBOUR: 'it returns false'. Refute it at one input. -/
def seriesMovesWrong : ChangeSpec := { name := "seriesMoves", fn := fun _ => fun
  | [d1, d2, d3, d4, d5] => { results := [.lit (.bool false)], args := [d1, d2, d3, d4, d5] }
  | _ => none }
def SeriesMovesWrongFalsely : Prop := seriesMovesRow.holds Try.pinned (OpenSpec.ofChange seriesMovesWrong)

/-- 'posthornlaw23.SeriesAlone': WHATEVER THE INPUT: true; the input reads as it did. -/
def seriesAloneSpec : ChangeSpec := { name := "seriesAlone", fn := fun _ => fun
  | [d1, d2, d3, d4] => { results := [.lit (.bool true)], args := [d1, d2, d3, d4] }
  | _ => none }
def seriesAloneRow : OpenClaim := { program := "ytkgkblmeafhkfaa", sum := "c18796bba7bf2d590963f74461ae9287d33c4fac919b67d12c9395d8a82c8177", func := "posthorn/posthornlaw23.SeriesAlone", spec := "seriesAlone", unfollowed := true, recurses := true, apart := false }
def SeriesAloneSaid : Prop := seriesAloneRow.holds Try.pinned (OpenSpec.ofChange seriesAloneSpec)

/-- ITS FALSE NEIGHBOUR: 'it returns false'. Refute it at one input. -/
def seriesAloneWrong : ChangeSpec := { name := "seriesAlone", fn := fun _ => fun
  | [d1, d2, d3, d4] => { results := [.lit (.bool false)], args := [d1, d2, d3, d4] }
  | _ => none }
def SeriesAloneWrongFalsely : Prop := seriesAloneRow.holds Try.pinned (OpenSpec.ofChange seriesAloneWrong)

/- THE SECOND FORM. 'bulk': how many values and letters a reading holds, each counted each time it is reached (what is shared counts as often as it is met; a slice's spare places count too). A statement '..UptoSaid' is the law's where the arguments, and the package variables that the reading takes, are together of bulk at most 1048576: NARROWER than '..Said'. Prove '..Said' where nothing that the law and all that it calls make is longer than what came in: it says more and counts as full. Else prove '..UptoSaid'. A law counts once. -/
mutual
def uptoBulk {H : Type} : DataW H → Nat
  | .lit (.string bytes) => bytes.length + 1
  | .lit _ => 1
  | .nil => 1
  | .ptr d => uptoBulk d + 1
  | .slice elems spare => uptoBulkAll elems + uptoBulkAll spare + 1
  | .agg parts => uptoBulkAll parts + 1
  | .iface _ d => uptoBulk d + 1
  | .map entries => uptoBulkEntries entries + 1
  | .held _ => 1
def uptoBulkAll {H : Type} : List (DataW H) → Nat
  | [] => 0
  | d :: r => uptoBulk d + uptoBulkAll r
def uptoBulkEntries {H : Type} : List (Lit × DataW H) → Nat
  | [] => 0
  | x :: r => uptoBulkEntry x + uptoBulkEntries r
def uptoBulkEntry {H : Type} : Lit × DataW H → Nat
  | (.string bytes, d) => bytes.length + uptoBulk d + 1
  | (_, d) => uptoBulk d + 1
 end
def uptoSmall : (H : Type) → List (DataW H) → Bool := fun _ ds => decide (uptoBulkAll ds ≤ 1048576)
def OpenSpec.upto (s : _root_.Go.ChangeSpec) : _root_.Go.OpenSpec := { _root_.Go.OpenSpec.ofChange s with cond := some uptoSmall }

/-- 'posthornlaw23.SeriesOnce', WHERE WHAT IT READS IS OF BULK AT MOST 1048576: true; the input reads as it did. -/
def seriesOnceUptoRow : OpenClaim := { program := "ytkgkblmeafhkfaa", sum := "c18796bba7bf2d590963f74461ae9287d33c4fac919b67d12c9395d8a82c8177", func := "posthorn/posthornlaw23.SeriesOnce", spec := "seriesOnce", unfollowed := true, recurses := true, apart := false, narrowed := true }
def SeriesOnceUptoSaid : Prop := seriesOnceUptoRow.holds Try.pinned (OpenSpec.upto seriesOnceSpec)

/-- 'posthornlaw23.SeriesWider', WHERE WHAT IT READS IS OF BULK AT MOST 1048576: true; the input reads as it did. -/
def seriesWiderUptoRow : OpenClaim := { program := "ytkgkblmeafhkfaa", sum := "c18796bba7bf2d590963f74461ae9287d33c4fac919b67d12c9395d8a82c8177", func := "posthorn/posthornlaw23.SeriesWider", spec := "seriesWider", unfollowed := true, recurses := true, apart := false, narrowed := true }
def SeriesWiderUptoSaid : Prop := seriesWiderUptoRow.holds Try.pinned (OpenSpec.upto seriesWiderSpec)

/-- 'posthornlaw23.SeriesMoves', WHERE WHAT IT READS IS OF BULK AT MOST 1048576: true; the input reads as it did. -/
def seriesMovesUptoRow : OpenClaim := { program := "ytkgkblmeafhkfaa", sum := "c18796bba7bf2d590963f74461ae9287d33c4fac919b67d12c9395d8a82c8177", func := "posthorn/posthornlaw23.SeriesMoves", spec := "seriesMoves", unfollowed := true, recurses := true, apart := false, narrowed := true }
def SeriesMovesUptoSaid : Prop := seriesMovesUptoRow.holds Try.pinned (OpenSpec.upto seriesMovesSpec)

/-- 'posthornlaw23.SeriesAlone', WHERE WHAT IT READS IS OF BULK AT MOST 1048576: true; the input reads as it did. -/
def seriesAloneUptoRow : OpenClaim := { program := "ytkgkblmeafhkfaa", sum := "c18796bba7bf2d590963f74461ae9287d33c4fac919b67d12c9395d8a82c8177", func := "posthorn/posthornlaw23.SeriesAlone", spec := "seriesAlone", unfollowed := true, recurses := true, apart := false, narrowed := true }
def SeriesAloneUptoSaid : Prop := seriesAloneUptoRow.holds Try.pinned (OpenSpec.upto seriesAloneSpec)

end Rows
end Go.Proofs.Ytkgkblmeafhkfaa

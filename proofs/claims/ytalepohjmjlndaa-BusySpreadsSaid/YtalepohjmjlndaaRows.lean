/-
  No cell of these rows narrows 'for every input' (looked for: loops, veiled, ifaces, maps, wideKeys, modest, calm, conditions, laid).
  DERIVED. THE GIVEN ROWS OF THIS SEAT. 5 by the template 'for every input the law returns true; each argument reads behind the call as it read before'; 0 by the template 'total and deterministic' (their statements: YtalepohjmjlndaaTotals.lean).
  GIVEN WITH THE SEED: the statements are not yours to turn. If you find one false, say at which input.
  Laid BY PROGRAM, IN A SANDBOX (cutbox-rows.mjs): the forced cells as the released guide's own fill.sh prints them over the translation 32c90fc7da9f4fdd… (all of the seat's roots in one cut). By AI agents, Wed Nov 11 2026. No macro, syntax, notation, axiom, sorry.
-/
import Derived.Test.YtalepohjmjlndaaChecked
import GoSem.Claim
import GoSem.ClaimJoined
import GoSem.ClaimMapViews
import Derived.JoinedTies
import Derived.KernelRfl
namespace Go.Proofs.Ytalepohjmjlndaa
/- THE CELL 'sum', in the pinned program and in every row, IS THE sha256 OF THE DUMP (.gsa) THAT YtalepohjmjlndaaProg.lean LOADS. Nothing in Lean hashes anything: it is a label: what it is worth is what the hold of that sum in a sandbox is worth. -/
noncomputable def Try.pinned : Pinned := { name := "ytalepohjmjlndaa", sum := "32c90fc7da9f4fdda9a8ec8c38aa541a85fe55e012b2c755d53fe211d84c4d0c", checked := Try.checked }
namespace Rows
def none {H : Type} : Left H := { results := [], args := [] }

/-- 'posthornlaw24.BusySpreads': WHATEVER THE INPUT: true; the input reads as it did. -/
def busySpreadsSpec : ChangeSpec := { name := "busySpreads", fn := fun _ => fun
  | [d1, d2, d3] => { results := [.lit (.bool true)], args := [d1, d2, d3] }
  | _ => none }
def busySpreadsRow : OpenClaim := { program := "ytalepohjmjlndaa", sum := "32c90fc7da9f4fdda9a8ec8c38aa541a85fe55e012b2c755d53fe211d84c4d0c", func := "posthorn/posthornlaw24.BusySpreads", spec := "busySpreads", unfollowed := true, recurses := true, apart := false }
def BusySpreadsSaid : Prop := busySpreadsRow.holds Try.pinned (OpenSpec.ofChange busySpreadsSpec)

/-- ITS FALSE NEIGHBOUR: 'it returns false'. Refute it at one input. -/
def busySpreadsWrong : ChangeSpec := { name := "busySpreads", fn := fun _ => fun
  | [d1, d2, d3] => { results := [.lit (.bool false)], args := [d1, d2, d3] }
  | _ => none }
def BusySpreadsWrongFalsely : Prop := busySpreadsRow.holds Try.pinned (OpenSpec.ofChange busySpreadsWrong)

/-- 'posthornlaw24.BusyFrees': WHATEVER THE INPUT: true; the input reads as it did. -/
def busyFreesSpec : ChangeSpec := { name := "busyFrees", fn := fun _ => fun
  | [d1, d2, d3, d4] => { results := [.lit (.bool true)], args := [d1, d2, d3, d4] }
  | _ => none }
def busyFreesRow : OpenClaim := { program := "ytalepohjmjlndaa", sum := "32c90fc7da9f4fdda9a8ec8c38aa541a85fe55e012b2c755d53fe211d84c4d0c", func := "posthorn/posthornlaw24.BusyFrees", spec := "busyFrees", unfollowed := true, recurses := true, apart := false }
def BusyFreesSaid : Prop := busyFreesRow.holds Try.pinned (OpenSpec.ofChange busyFreesSpec)

/-- ITS FALSE NEIGHBOUR: 'it returns false'. Refute it at one input. -/
def busyFreesWrong : ChangeSpec := { name := "busyFrees", fn := fun _ => fun
  | [d1, d2, d3, d4] => { results := [.lit (.bool false)], args := [d1, d2, d3, d4] }
  | _ => none }
def BusyFreesWrongFalsely : Prop := busyFreesRow.holds Try.pinned (OpenSpec.ofChange busyFreesWrong)

/-- 'posthornlaw24.BusyRows': WHATEVER THE INPUT: true; the input reads as it did. -/
def busyRowsSpec : ChangeSpec := { name := "busyRows", fn := fun _ => fun
  | [d1, d2] => { results := [.lit (.bool true)], args := [d1, d2] }
  | _ => none }
def busyRowsRow : OpenClaim := { program := "ytalepohjmjlndaa", sum := "32c90fc7da9f4fdda9a8ec8c38aa541a85fe55e012b2c755d53fe211d84c4d0c", func := "posthorn/posthornlaw24.BusyRows", spec := "busyRows", unfollowed := true, recurses := true, apart := false }
def BusyRowsSaid : Prop := busyRowsRow.holds Try.pinned (OpenSpec.ofChange busyRowsSpec)

/-- ITS FALSE NEIGHBOUR: 'it returns false'. Refute it at one input. -/
def busyRowsWrong : ChangeSpec := { name := "busyRows", fn := fun _ => fun
  | [d1, d2] => { results := [.lit (.bool false)], args := [d1, d2] }
  | _ => none }
def BusyRowsWrongFalsely : Prop := busyRowsRow.holds Try.pinned (OpenSpec.ofChange busyRowsWrong)

/-- 'posthornlaw24.BusyMoments': WHATEVER THE INPUT: true; the input reads as it did. -/
def busyMomentsSpec : ChangeSpec := { name := "busyMoments", fn := fun _ => fun
  | [d1, d2] => { results := [.lit (.bool true)], args := [d1, d2] }
  | _ => none }
def busyMomentsRow : OpenClaim := { program := "ytalepohjmjlndaa", sum := "32c90fc7da9f4fdda9a8ec8c38aa541a85fe55e012b2c755d53fe211d84c4d0c", func := "posthorn/posthornlaw24.BusyMoments", spec := "busyMoments", unfollowed := true, recurses := true, apart := false }
def BusyMomentsSaid : Prop := busyMomentsRow.holds Try.pinned (OpenSpec.ofChange busyMomentsSpec)

/-- ITS FALSE NEIGHBOUR: 'it returns false'. Refute it at one input. -/
def busyMomentsWrong : ChangeSpec := { name := "busyMoments", fn := fun _ => fun
  | [d1, d2] => { results := [.lit (.bool false)], args := [d1, d2] }
  | _ => none }
def BusyMomentsWrongFalsely : Prop := busyMomentsRow.holds Try.pinned (OpenSpec.ofChange busyMomentsWrong)

/-- 'posthornlaw24.BusyGaps': WHATEVER THE INPUT: true; the input reads as it did. -/
def busyGapsSpec : ChangeSpec := { name := "busyGaps", fn := fun _ => fun
  | [d1, d2, d3, d4] => { results := [.lit (.bool true)], args := [d1, d2, d3, d4] }
  | _ => none }
def busyGapsRow : OpenClaim := { program := "ytalepohjmjlndaa", sum := "32c90fc7da9f4fdda9a8ec8c38aa541a85fe55e012b2c755d53fe211d84c4d0c", func := "posthorn/posthornlaw24.BusyGaps", spec := "busyGaps", unfollowed := true, recurses := true, apart := false }
def BusyGapsSaid : Prop := busyGapsRow.holds Try.pinned (OpenSpec.ofChange busyGapsSpec)

/-- ITS FALSE NEIGHBOUR: 'it returns false'. Refute it at one input. -/
def busyGapsWrong : ChangeSpec := { name := "busyGaps", fn := fun _ => fun
  | [d1, d2, d3, d4] => { results := [.lit (.bool false)], args := [d1, d2, d3, d4] }
  | _ => none }
def BusyGapsWrongFalsely : Prop := busyGapsRow.holds Try.pinned (OpenSpec.ofChange busyGapsWrong)

/- THE SECOND FORM. 'bulk': how many values and letters a reading holds, each counted each time it is reached (what is shared counts as often as it is met; a slice's spare places count too). A statement '..UptoSaid' is the law's where the arguments, and the package variables that the reading takes, are together of bulk at most 1048576: NARROWER than '..Said'. Prove '..Said' where nothing that the law and all that it calls make is longer than what came in: it says more and counts as full. Else prove '..UptoSaid'. A law counts once. -/
mutual
def uptoBulk {H : Type} : DataW H → Nat
  | .lit (.string bytes) => bytes.length + 1
  | .lit _ => 1
  | .nil => 1
  | .ptr d => uptoBulk d + 1
  | .slice elems spare => uptoBulkAll elems + uptoBulkAll spare + 1
  | .agg parts => uptoBulkAll parts + 1
  | .iface _ d => uptoBulk d + 1
  | .map entries => uptoBulkEntries entries + 1
  | .held _ => 1
def uptoBulkAll {H : Type} : List (DataW H) → Nat
  | [] => 0
  | d :: r => uptoBulk d + uptoBulkAll r
def uptoBulkEntries {H : Type} : List (Lit × DataW H) → Nat
  | [] => 0
  | x :: r => uptoBulkEntry x + uptoBulkEntries r
def uptoBulkEntry {H : Type} : Lit × DataW H → Nat
  | (.string bytes, d) => bytes.length + uptoBulk d + 1
  | (_, d) => uptoBulk d + 1
 end
def uptoSmall : (H : Type) → List (DataW H) → Bool := fun _ ds => decide (uptoBulkAll ds ≤ 1048576)
def OpenSpec.upto (s : _root_.Go.ChangeSpec) : _root_.Go.OpenSpec := { _root_.Go.OpenSpec.ofChange s with cond := some uptoSmall }

/-- 'posthornlaw24.BusySpreads', WHERE WHAT IT READS IS OF BULK AT MOST 1048576: true; the input reads as it did. -/
def busySpreadsUptoRow : OpenClaim := { program := "ytalepohjmjlndaa", sum := "32c90fc7da9f4fdda9a8ec8c38aa541a85fe55e012b2c755d53fe211d84c4d0c", func := "posthorn/posthornlaw24.BusySpreads", spec := "busySpreads", unfollowed := true, recurses := true, apart := false, narrowed := true }
def BusySpreadsUptoSaid : Prop := busySpreadsUptoRow.holds Try.pinned (OpenSpec.upto busySpreadsSpec)

/-- 'posthornlaw24.BusyFrees', WHERE WHAT IT READS IS OF BULK AT MOST 1048576: true; the input reads as it did. -/
def busyFreesUptoRow : OpenClaim := { program := "ytalepohjmjlndaa", sum := "32c90fc7da9f4fdda9a8ec8c38aa541a85fe55e012b2c755d53fe211d84c4d0c", func := "posthorn/posthornlaw24.BusyFrees", spec := "busyFrees", unfollowed := true, recurses := true, apart := false, narrowed := true }
def BusyFreesUptoSaid : Prop := busyFreesUptoRow.holds Try.pinned (OpenSpec.upto busyFreesSpec)

/-- 'posthornlaw24.BusyRows', WHERE WHAT IT READS IS OF BULK AT MOST 1048576: true; the input reads as it did. -/
def busyRowsUptoRow : OpenClaim := { program := "ytalepohjmjlndaa", sum := "32c90fc7da9f4fdda9a8ec8c38aa541a85fe55e012b2c755d53fe211d84c4d0c", func := "posthorn/posthornlaw24.BusyRows", spec := "busyRows", unfollowed := true, recurses := true, apart := false, narrowed := true }
def BusyRowsUptoSaid : Prop := busyRowsUptoRow.holds Try.pinned (OpenSpec.upto busyRowsSpec)

/-- 'posthornlaw24.BusyMoments', WHERE WHAT IT READS IS OF BULK AT MOST 1048576: true; the input reads as it did. -/
def busyMomentsUptoRow : OpenClaim := { program := "ytalepohjmjlndaa", sum := "32c90fc7da9f4fdda9a8ec8c38aa541a85fe55e012b2c755d53fe211d84c4d0c", func := "posthorn/posthornlaw24.BusyMoments", spec := "busyMoments", unfollowed := true, recurses := true, apart := false, narrowed := true }
def BusyMomentsUptoSaid : Prop := busyMomentsUptoRow.holds Try.pinned (OpenSpec.upto busyMomentsSpec)

/-- 'posthornlaw24.BusyGaps', WHERE WHAT IT READS IS OF BULK AT MOST 1048576: true; the input reads as it did. -/
def busyGapsUptoRow : OpenClaim := { program := "ytalepohjmjlndaa", sum := "32c90fc7da9f4fdda9a8ec8c38aa541a85fe55e012b2c755d53fe211d84c4d0c", func := "posthorn/posthornlaw24.BusyGaps", spec := "busyGaps", unfollowed := true, recurses := true, apart := false, narrowed := true }
def BusyGapsUptoSaid : Prop := busyGapsUptoRow.holds Try.pinned (OpenSpec.upto busyGapsSpec)

end Rows
end Go.Proofs.Ytalepohjmjlndaa

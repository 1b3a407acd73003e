/- What must come of fixed calls: reckoned out. -/
import Derived.Test.YtkgkblmeafhkfaaPSx15
set_option linter.unusedVariables false
namespace Go.Proofs.Ytkgkblmeafhkfaa.Alive
open Go.RowKit Go.Proofs.YtkgkblmeafhkfaaW.PrintWords Go.Proofs.YtkgkblmeafhkfaaW.PrintLast Go.Proofs.Ytkgkblmeafhkfaa.PS
set_option maxRecDepth 1000000 in
theorem alive : (posthornlaw23_alive.f 450) = some true := by kernel_rfl
theorem alive_ev : Ev (fun k => posthornlaw23_alive.f k) true := Ev.of posthornlaw23_alive.mono alive
end Go.Proofs.Ytkgkblmeafhkfaa.Alive

/- What must come of the fixed calls comes: evaluated. -/
import Derived.Test.YtlplmkllmgdifaaPZx15
namespace Go.Proofs.Ytlplmkllmgdifaa.Alive
open Go.RowKit Go.Proofs.YtlplmkllmgdifaaW.PrintWords Go.Proofs.Ytlplmkllmgdifaa.PZ
theorem alive_ev : Ev (fun k => posthornlaw22_alive.f k) true := Ev.of posthornlaw22_alive.mono (k := 60) (by decide +kernel)
end Go.Proofs.Ytlplmkllmgdifaa.Alive

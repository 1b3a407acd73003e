/- What must come of fixed calls: reckoned out, whatever the rounds beyond. -/
import Derived.Test.YtkgkblmeafhkfaaGreatPHx15
set_option linter.unusedVariables false
namespace Go.Proofs.YtkgkblmeafhkfaaGreat.Alive
open Go.RowKit Go.Proofs.YtkgkblmeafhkfaaGreatW.PrintWords Go.Proofs.YtkgkblmeafhkfaaGreatW.PrintLast Go.Proofs.YtkgkblmeafhkfaaGreat.PH
set_option maxRecDepth 1000000 in
theorem alive (k:Nat):(pl23_alive.f (k + 450))=some true:=by kernel_rfl
theorem alive_ev:Ev (fun k=>pl23_alive.f k) true:=⟨450,fun k hk=>by
 obtain ⟨m,rfl⟩:=Nat.exists_eq_add_of_le' hk
 exact alive m⟩
end Go.Proofs.YtkgkblmeafhkfaaGreat.Alive

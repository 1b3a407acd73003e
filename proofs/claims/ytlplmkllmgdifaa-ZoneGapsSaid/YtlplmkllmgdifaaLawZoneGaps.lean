/- The statement ZoneGaps: whatever the input, the call returns true, and the input reads as it did. No condition. -/
import Derived.Test.YtlplmkllmgdifaaZOpen
import Derived.Test.YtlplmkllmgdifaaRows
import Derived.Test.YtlplmkllmgdifaaGapsPure
import Derived.Test.YtlplmkllmgdifaaAlive
import Derived.WalkKit
import Derived.ProofKit
import Derived.OpenShut
import Derived.ShutString
import Derived.ChangeOld
import Derived.Below
import Derived.SizedLaws
namespace Go.Proofs.Ytlplmkllmgdifaa.zoneGaps
open Go.ChangeShapes Go.WideShapes Go.ChangeAt Go.RowKit
open Go.ChangeMaps (open_string shut_string)
open Go.Proofs.Ytlplmkllmgdifaa.PZ Go.Proofs.YtlplmkllmgdifaaW.PrintWords Go.Proofs.YtlplmkllmgdifaaW.PrintLast Go.Proofs.YtlplmkllmgdifaaW.PrintMore
set_option linter.unusedVariables false
theorem own : ownKnob Try.prog.godebug = none := by kernel_rfl
theorem laidOut : laidOutB Try.prog = true := by kernel_rfl
set_option maxRecDepth 100000 in
theorem lifted (os : Os) (started : os.Started) (H : Type) (enc : TypeId × Value → H) :
    ReturnsInHanded {} Try.checked os 7 .any (Rows.zoneGapsSpec.pre6 enc Try.prog Try.f7 Rows.zoneGapsRow.domain false) (Rows.zoneGapsSpec.post enc Try.prog Try.f7 false true false false) := by
  refine returnsInHanded_of_change_sized (C := Try.checked) own started (by kernel_rfl) Try.func7
    (ChangeSpec.witness6 (enc := enc) (C := Try.checked) false ⟨#[], #[.agg #[.string ⟨#[]⟩, .int .i64 0, .slice none 0 0], .int .i64 0], []⟩ 8 (by kernel_rfl) (by kernel_rfl) (by kernel_rfl) (by kernel_rfl)) ?_
  intro W base args ds gs before hval0 hW hcnd hsz0 _
  have hval : ∀ (j : Nat) t v, Try.f7.params[j]? = some t → args[j]? = some v → Value.okWide Try.prog W .any base t v := hval0
  have hW' := hW
  obtain ⟨p, q, hA0, hV, rfl, hfz, hnd⟩ := hW
  have hA : DataW.TrodAll enc Try.prog W 0 (fun _ => true) true Try.f7.params.toList args.toList ds p := hA0
  rw [Try.params7] at hA hval
  obtain ⟨v0, vs0, d0, ds0, p0, q0, hargs, rfl, rfl, h0, r0⟩ := trodAll_cons hA
  obtain ⟨v1, vs1, d1, ds1, p1, q1, rfl, rfl, rfl, h1, r1⟩ := trodAll_cons r0
  obtain ⟨rfl, rfl, rfl⟩ := trodAll_nil r1
  obtain rfl : args = #[v0, v1] := by cases args; simp_all
  obtain ⟨rfl, rfl⟩ := trodVars_none hV
  have k0 := h0
  have lt0 : ∀ x ∈ p0, x.block < W.heap.size := by obtain ⟨m, hm⟩ := k0; exact DataW.trod_lt m _ _ _ hm
  obtain ⟨cz, rfl, _⟩ := okWide_struct Try.underlying24 (hval 0 24 v0 rfl rfl)
  obtain ⟨s0, b0, A0, l0, c0, rfl, hr0, hc0, hs0, hb0, hn0, hl0⟩ : ∃ (s : ByteArray) (b : Int) (A : Option Addr) (l : List S42) (c : Nat), cz = #[.string s, .int .i64 b, .slice A l.length c] ∧ Kd.C k42 W A l.length l ∧ l.length ≤ c ∧ s.size ≤ maxLen ∧ ZOpen.wf b ∧ l.length ≤ maxLen ∧ ∀ y, y ∈ l → ZOpen.wf42 y := by
    obtain ⟨fuel, hf⟩ := h0
    obtain ⟨s, b, A, l, c, e, h1, h2, h3, h4, h5, h6⟩ := ZOpen.zone_of hf
    refine ⟨s, b, A, l, c, ?_, h1, h2, h3, h4, h5, h6⟩
    have e' : cz.toList = [.string s, .int .i64 b, .slice A l.length c] := by simpa [Value.cells] using e
    rw [← Array.toArray_toList (xs := cz), e']
  obtain ⟨a1, rfl, rfl, rfl, w1⟩ := open_int Try.underlying2 (hval 1 2 v1 rfl rfl) h1
  clear hA0 hval0 hsz0
  have hs : s0.size ≤ 9223372036854775807 := by unfold maxLen at hs0; omega
  have hn : l0.length ≤ 9223372036854775807 := by unfold maxLen at hn0; omega
  have hl : ∀ o, o ∈ l0 → Total.small o := fun o ho => by
    obtain ⟨_, _, _, _, _, _, _, _, h4, h5, h6⟩ := hl0 o ho
    have := h4.1
    have := h5.1
    have := h6.1
    unfold maxLen at *
    exact ⟨by omega, by omega, by omega⟩
  obtain ⟨k, hk⟩ := GapsPure.pure Alive.alive_ev s0 b0 l0 a1 hs hn hl
  refine (posthornlaw22_ZoneGaps.calls k s0 b0 A0 c0 l0 a1 true W hr0 hc0 hk).mono fun e W' ⟨he, bel⟩ => ?_
  subst he
  exact ⟨_, rfl, _, _, _, [], _, [], hW', trodAll_mk1 (shut_bool Try.underlying4 _), (trodAll_cons_mk (Below.trod laidOut (by kernel_rfl) (of_decide_eq_true (by kernel_rfl)) k0 bel lt0) (trodAll_cons_mk (shut_int Try.underlying2 w1) trodAll_mk0)), rfl, bel.frame _, fun h => by cases h⟩
theorem over : Rows.zoneGapsRow.holds Try.pinned (OpenSpec.ofChange Rows.zoneGapsSpec) :=
  OpenClaim.holds_of_wide 7 Try.f7 rfl rfl rfl rfl rfl rfl rfl ⟨rfl, rfl, rfl, rfl, rfl⟩ rfl rfl rfl rfl rfl (by kernel_rfl) Try.func7 (by kernel_rfl)
    (of_decide_eq_true (by kernel_rfl)) (by unfold Func.isWrapper; first | (rw [if_pos (by decide +kernel)]; kernel_rfl) | (rw [if_neg (by decide +kernel)]; exact ⟨rfl, rfl⟩))
    (fun os started H enc _ => lifted os started H enc)
end Go.Proofs.Ytlplmkllmgdifaa.zoneGaps
namespace Go.Proofs.Ytlplmkllmgdifaa
/-- The statement. -/
theorem zoneGaps_holds : Rows.ZoneGapsSaid := zoneGaps.over
#print axioms zoneGaps_holds
end Go.Proofs.Ytlplmkllmgdifaa

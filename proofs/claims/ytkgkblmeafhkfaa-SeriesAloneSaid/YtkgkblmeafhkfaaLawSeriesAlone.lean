/- The statement SeriesAlone: whatever the input, the call returns true, and the input reads as it did. No condition. -/
import Derived.Test.YtkgkblmeafhkfaaSOpen
import Derived.Test.YtkgkblmeafhkfaaRows
import Derived.Test.YtkgkblmeafhkfaaPureSeriesAlone
import Derived.WalkKit
import Derived.ProofKit
import Derived.OpenShut
import Derived.ShutString
import Derived.ChangeOld
import Derived.Below
import Derived.SizedLaws
namespace Go.Proofs.Ytkgkblmeafhkfaa.seriesAlone
open Go.ChangeShapes Go.WideShapes Go.ChangeAt Go.RowKit
open Go.ChangeMaps (open_string shut_string)
open Go.Proofs.Ytkgkblmeafhkfaa.PS Go.Proofs.Ytkgkblmeafhkfaa.SOpen Go.Proofs.YtkgkblmeafhkfaaW.PrintWords Go.Proofs.YtkgkblmeafhkfaaW.PrintLast Go.Proofs.YtkgkblmeafhkfaaW.PrintMore
set_option linter.unusedVariables false
theorem own : ownKnob Try.prog.godebug = none := by kernel_rfl
theorem laidOut : laidOutB Try.prog = true := by kernel_rfl
set_option maxRecDepth 100000 in
theorem lifted (os : Os) (started : os.Started) (H : Type) (enc : TypeId × Value → H) :
    ReturnsInHanded {} Try.checked os 6 .any (Rows.seriesAloneSpec.pre6 enc Try.prog Try.f6 Rows.seriesAloneRow.domain false) (Rows.seriesAloneSpec.post enc Try.prog Try.f6 false true false false) := by
  refine returnsInHanded_of_change_sized (C := Try.checked) own started (by kernel_rfl) Try.func6
    (ChangeSpec.witness6 (enc := enc) (C := Try.checked) false ⟨#[], #[.agg #[.int .i64 0, .int .i64 0, .bool false, .int .i64 0, .int .i64 0, .int .i64 0, .int .i64 0, .slice none 0 0, .slice none 0 0, .slice none 0 0, .slice none 0 0, .slice none 0 0, .slice none 0 0], .agg #[.int .i64 0, .int .i64 0, .int .i64 0, .bool false], .int .i64 0, .int .i64 0], []⟩ 8 (by kernel_rfl) (by kernel_rfl) (by kernel_rfl) (by kernel_rfl)) ?_
  intro W base args ds gs before hval0 hW hcnd hsz0 _
  have hval : ∀ (j : Nat) t v, Try.f6.params[j]? = some t → args[j]? = some v → Value.okWide Try.prog W .any base t v := hval0
  have hW' := hW
  obtain ⟨p, q, hA0, hV, rfl, hfz, hnd⟩ := hW
  have hA : DataW.TrodAll enc Try.prog W 0 (fun _ => true) true Try.f6.params.toList args.toList ds p := hA0
  rw [Try.params6] at hA hval
  obtain ⟨v0, vs0, d0, ds0, p0, q0, hargs, rfl, rfl, h0, r0⟩ := trodAll_cons hA
  obtain ⟨v1, vs1, d1, ds1, p1, q1, rfl, rfl, rfl, h1, r1⟩ := trodAll_cons r0
  obtain ⟨v2, vs2, d2, ds2, p2, q2, rfl, rfl, rfl, h2, r2⟩ := trodAll_cons r1
  obtain ⟨v3, vs3, d3, ds3, p3, q3, rfl, rfl, rfl, h3, r3⟩ := trodAll_cons r2
  obtain ⟨rfl, rfl, rfl⟩ := trodAll_nil r3
  obtain rfl : args = #[v0, v1, v2, v3] := by cases args; simp_all
  obtain ⟨rfl, rfl⟩ := trodVars_none hV
  have k0 := h0
  have lt0 : ∀ x ∈ p0, x.block < W.heap.size := by obtain ⟨m, hm⟩ := k0; exact DataW.trod_lt m _ _ _ hm
  obtain ⟨cz0, rfl, _⟩ := okWide_struct Try.underlying29 (hval 0 29 v0 rfl rfl)
  obtain ⟨S0, rfl, K0⟩ : ∃ S : Ser, cz0 = S.cells.toArray ∧ S.Ok W := by
    obtain ⟨fuel, hf⟩ := h0
    obtain ⟨S, e, hS⟩ := SOpen.series_of hf
    refine ⟨S, ?_, hS⟩
    have e' : cz0.toList = S.cells := by simpa [Value.cells] using e
    rw [← Array.toArray_toList (xs := cz0), e']
  have k1 := h1
  have lt1 : ∀ x ∈ p1, x.block < W.heap.size := by obtain ⟨m, hm⟩ := k1; exact DataW.trod_lt m _ _ _ hm
  obtain ⟨cz1, rfl, _⟩ := okWide_struct Try.underlying39 (hval 1 39 v1 rfl rfl)
  obtain ⟨S1, rfl, K1⟩ : ∃ S : Chg, cz1 = S.cells.toArray ∧ S.Ok W := by
    obtain ⟨fuel, hf⟩ := h1
    obtain ⟨S, e, hS⟩ := SOpen.change_of hf
    refine ⟨S, ?_, hS⟩
    have e' : cz1.toList = S.cells := by simpa [Value.cells] using e
    rw [← Array.toArray_toList (xs := cz1), e']
  obtain ⟨a2, rfl, rfl, rfl, w2⟩ := open_int Try.underlying2 (hval 2 2 v2 rfl rfl) h2
  obtain ⟨a3, rfl, rfl, rfl, w3⟩ := open_int Try.underlying2 (hval 3 2 v3 rfl rfl) h3
  clear hA0 hval0 hsz0
  have sh := K0.short
  obtain ⟨k, hk⟩ := PureAlone.pure S0.s0 S0.s1 S0.s2 S0.r0 S0.r1 S0.r2 S0.r3 S0.x7.l S0.x8.l S0.x9.l S0.x10.l S0.x11.l S0.x12.l ⟨S1.f0, S1.f1, S1.f2, S1.f3⟩ a2 a3 sh (wf_bound K1.w0).1
  refine (posthornlaw23_SeriesAlone.calls k S0.s0 S0.s1 S0.s2 S0.r0 S0.r1 S0.r2 S0.r3 S0.x7.A S0.x7.c S0.x7.l S0.x8.A S0.x8.c S0.x8.l S0.x9.A S0.x9.c S0.x9.l S0.x10.A S0.x10.c S0.x10.l S0.x11.A S0.x11.c S0.x11.l S0.x12.A S0.x12.c S0.x12.l S1.f0 S1.f1 S1.f2 S1.f3 a2 a3 true W K0.k7.r K0.k7.c K0.k8.r K0.k8.c K0.k9.r K0.k9.c K0.k10.r K0.k10.c K0.k11.r K0.k11.c K0.k12.r K0.k12.c hk).mono fun e W' ⟨he, bel⟩ => ?_
  subst he
  exact ⟨_, rfl, _, _, _, [], _, [], hW', trodAll_mk1 (shut_bool Try.underlying4 _), (trodAll_cons_mk (Below.trod laidOut (by kernel_rfl) (of_decide_eq_true (by kernel_rfl)) k0 bel lt0) (trodAll_cons_mk (Below.trod laidOut (by kernel_rfl) (of_decide_eq_true (by kernel_rfl)) k1 bel lt1) (trodAll_cons_mk (shut_int Try.underlying2 w2) (trodAll_cons_mk (shut_int Try.underlying2 w3) trodAll_mk0)))), rfl, bel.frame _, fun h => by cases h⟩
theorem over : Rows.seriesAloneRow.holds Try.pinned (OpenSpec.ofChange Rows.seriesAloneSpec) :=
  OpenClaim.holds_of_wide 6 Try.f6 rfl rfl rfl rfl rfl rfl rfl ⟨rfl, rfl, rfl, rfl, rfl⟩ rfl rfl rfl rfl rfl (by kernel_rfl) Try.func6 (by kernel_rfl)
    (of_decide_eq_true (by kernel_rfl)) (by unfold Func.isWrapper; first | (rw [if_pos (by decide +kernel)]; kernel_rfl) | (rw [if_neg (by decide +kernel)]; exact ⟨rfl, rfl⟩))
    (fun os started H enc _ => lifted os started H enc)
end Go.Proofs.Ytkgkblmeafhkfaa.seriesAlone
namespace Go.Proofs.Ytkgkblmeafhkfaa
/-- The statement. -/
theorem seriesAlone_holds : Rows.SeriesAloneSaid := seriesAlone.over
#print axioms seriesAlone_holds
end Go.Proofs.Ytkgkblmeafhkfaa

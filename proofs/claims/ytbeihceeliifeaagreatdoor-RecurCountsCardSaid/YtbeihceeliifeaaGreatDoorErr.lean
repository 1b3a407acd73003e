/- recur.Expand where it errs, over the program's edges alone. -/
import Derived.Test.YtbeihceeliifeaaGreatDoorExpand
namespace Go.Proofs.YtbeihceeliifeaaGreatDoor.Expand
open Go.RowKit Go.Shelf
attribute [local go_sem] Oper.semAt_some
set_option linter.unusedVariables false
set_option maxRecDepth 100000 in
set_option maxHeartbeats 8000000 in
/-- recur.Expand where it errs. -/
theorem expand_err (w : World) (r0 r1 r2 r3 : Int) (s4 s5 s6 : Value) (first from_ to most c : Int) (okR : Bool) (okT : Int → Bool)
    (h1 : s4.oneCell' = true) (h2 : s5.oneCell' = true) (h3 : s6.oneCell' = true)
    (hRight : ∀ W, Below w.heap.size w W → Calls Tryz.prog 19 #[.agg #[.int .i64 r0, .int .i64 r1, .int .i64 r2, .int .i64 r3, s4, s5, s6]] W fun e w' => e = .returned (.bool okR) ∧ Below W.heap.size W w')
    (hT : ∀ t W, Calls Tryz.prog 24 #[.int .i64 t] W fun e w' => e = .returned (.bool (okT t)) ∧ Below W.heap.size W w')
    (ew : okR = true → okT first = true → okT to = true → wrap64 (to - first) = to - first)
    (hc : (okR = false ∧ c = 3) ∨ (okR = true ∧ okT first = false ∧ c = 110) ∨ (okR = true ∧ okT first = true ∧ okT from_ = false ∧ c = 110) ∨ (okR = true ∧ okT first = true ∧ okT from_ = true ∧ okT to = false ∧ c = 110) ∨
      (okR = true ∧ okT first = true ∧ okT from_ = true ∧ okT to = true ∧ 631152000 < to - first ∧ c = 1) ∨ (okR = true ∧ okT first = true ∧ okT from_ = true ∧ okT to = true ∧ to - first ≤ 631152000 ∧ most < 1 ∧ c = 1) ∨ (okR = true ∧ okT first = true ∧ okT from_ = true ∧ okT to = true ∧ to - first ≤ 631152000 ∧ 1 ≤ most ∧ 1000 < most ∧ c = 1)) :
    Calls Tryz.prog 14 #[.agg #[.int .i64 r0, .int .i64 r1, .int .i64 r2, .int .i64 r3, s4, s5, s6], .int .i64 first, .int .i64 from_, .int .i64 to, .int .i64 most] w fun e w' =>
      e = .returned (.tuple #[.slice none 0 0, .int .i64 c]) ∧ Below w.heap.size w w' := by
  refine (callsIn_wide (n := 4)).1 ?_
  refine callsIn_of_wp_marks Tryz.func14 rfl trivial ?_ rfl
  simp only [Tryz.ntmps14, List.size_toArray, List.length_cons, List.length_nil, Nat.reduceAdd, Nat.reduceSub, Array.replicate_succ, Array.replicate_zero, List.push_toArray, List.append_toArray, List.nil_append, List.cons_append]
  have HE := Hid.mk ew
  clear ew
  gi_wp2
  have F5 := five_heap w (.cells #[.int .i64 r0, .int .i64 r1, .int .i64 r2, .int .i64 r3, s4, s5, s6] 25 (0, 0)) (.cells #[.int .i64 first] 2 (0, 0)) (.cells #[.int .i64 from_] 2 (0, 0)) (.cells #[.int .i64 to] 2 (0, 0)) (.cells #[.int .i64 most] 3 (0, 0))
  revert F5
  generalize (((((w.alloc (.cells #[.int .i64 r0, .int .i64 r1, .int .i64 r2, .int .i64 r3, s4, s5, s6] 25 (0, 0))).alloc (.cells #[.int .i64 first] 2 (0, 0))).alloc (.cells #[.int .i64 from_] 2 (0, 0))).alloc (.cells #[.int .i64 to] 2 (0, 0))).alloc (.cells #[.int .i64 most] 3 (0, 0))) = W5
  rintro ⟨f0, f1, f2, f3, f4, fs, fb⟩
  have B5 : Bx w (.int .i64 r0) (.int .i64 r1) (.int .i64 r2) (.int .i64 r3) s4 s5 s6 (.int .i64 first) (.int .i64 from_) (.int .i64 to) (.int .i64 most) W5 := ⟨f0, f1, f2, f3, f4, fb⟩
  clear f0 f1 f2 f3 f4
  obtain ⟨q0, q1, q2, q3, q4, q5, q6, qf, qg, qt, qm⟩ := B5.cells
  refine wpIn_scope_wide ?_
  rcases hc with ⟨rfl, rfl⟩ | ⟨rfl, k1, rfl⟩ | ⟨rfl, k1, k2, rfl⟩ | ⟨rfl, k1, k2, k3, rfl⟩ | ⟨rfl, k1, k2, k3, k4, rfl⟩ | ⟨rfl, k1, k2, k3, k4, k5, rfl⟩ | ⟨rfl, k1, k2, k3, k4, k5, k6, rfl⟩
  all_goals (try have kw := HE.out rfl k1 k3)
  all_goals (gi_wp2_with (first | (refine ⟨trivial, ?_⟩; gi_at_call 19; refine (callsIn_wide.2 (hRight _ B5.below)).mono ?_; rintro e W6 ⟨rfl, hb6⟩; have B6 := B5.next hb6; clear B5 hb6; obtain ⟨p0, p1, p2, p3, p4, p5, p6, pf, pg, pt, pm⟩ := B6.cells) | (refine ⟨trivial, ?_⟩; gi_at_call 24; refine (callsIn_wide.2 (hT _ _)).mono ?_; rintro e W7 ⟨rfl, hb7⟩; have B7 := B6.next hb7; clear B6 hb7; have B6 := B7; clear B7; obtain ⟨p0, p1, p2, p3, p4, p5, p6, pf, pg, pt, pm⟩ := B6.cells)))
  all_goals (try (refine ⟨trivial, ?_⟩; gi_wp2))
  all_goals (try (refine ⟨trivial, ?_⟩; gi_wp2))
  all_goals exact ⟨_, results_tmp2 rfl _ _ _, rfl, B6.below⟩
end Go.Proofs.YtbeihceeliifeaaGreatDoor.Expand

-- Written by a program of the session (wip/tools).
import Derived.Test.YtlplmkllmgdifaaPZx0
import Derived.Test.YtlplmkllmgdifaaPZx4
namespace Go.Proofs.Ytlplmkllmgdifaa.PZ
open Go.RowKit Go.Proofs.YtlplmkllmgdifaaW.PrintWords Go.Proofs.YtlplmkllmgdifaaW.PrintLast Go.Proofs.YtlplmkllmgdifaaW.PrintMore
attribute [local go_sem] max2_int min2_int max_two min_two max_three min_three max_four min_four   -- for this text's walks alone
set_option linter.unusedVariables false
set_option linter.unusedSimpArgs false

/-! ### when_Days: function 91 -/
mutual
def when_Days.j0 : Nat → Int → Int → Int → Bool → Option (Int × Int)
 | 0, _, _, _, _ => none
 | k + 1, x0, x1, x2, x34 => if x34 = true then (some (0, 110)) else ((when_before.f x0).bind fun t149 => (when_Days.l0 k x0 (wrap64 ((wrap64 (t149 + x2)) - 1)) x1 0))
def when_Days.l0 : Nat → Int → Int → Int → Int → Option (Int × Int)
 | 0, _, _, _, _ => none
 | k + 1, x0, x8, x40, x41 => if x41 < x40 then (if x41 > 0 then ((when_month.f x0 x41).bind fun t150 => (when_Days.l0 k x0 (wrap64 (x8 + t150)) x40 (wrap64 (x41 + 1)))) else (when_Days.l0 k x0 x8 x40 (wrap64 (x41 + 1)))) else (some (x8, 0))
end
def when_Days.f (k : Nat) (a0 : Int) (a1 : Int) (a2 : Int) : Option (Int × Int) := if a0 < 1970 then (when_Days.j0 k a0 a1 a2 true) else (if a0 > 9999 then (when_Days.j0 k a0 a1 a2 true) else (if a1 < 1 then (when_Days.j0 k a0 a1 a2 true) else (if a1 > 12 then (when_Days.j0 k a0 a1 a2 true) else (if a2 < 1 then (when_Days.j0 k a0 a1 a2 true) else ((when_month.f a0 a1).bind fun t148 => (when_Days.j0 k a0 a1 a2 (decide (a2 > t148))))))))
theorem when_Days.mono_l : ∀ k, (∀ y0 y1 y2 y3, LeO (when_Days.j0 k y0 y1 y2 y3) (when_Days.j0 (k + 1) y0 y1 y2 y3)) ∧ (∀ y0 y1 y2 y3, LeO (when_Days.l0 k y0 y1 y2 y3) (when_Days.l0 (k + 1) y0 y1 y2 y3))
 | 0 => ⟨fun _ _ _ _ r h => by simp [when_Days.j0] at h, fun _ _ _ _ r h => by simp [when_Days.l0] at h⟩
 | k + 1 => by
  obtain ⟨ih0, ih1⟩ := when_Days.mono_l k
  refine ⟨?_, ?_⟩
  all_goals
   intros
   first | unfold when_Days.j0 | unfold when_Days.l0
   repeat' first
   | (with_reducible exact ih0 ..)
   | (with_reducible exact ih1 ..)
   | (with_reducible exact LeO.refl ..)
   | (with_reducible exact LeO.none ..)
   | (with_reducible refine LeO.ite ?_ ?_)
   | (with_reducible refine LeO.bind ?_ (fun _ => ?_))
   | exact ih0 ..
   | exact ih1 ..
   | exact LeO.none ..
   | refine LeO.ite ?_ ?_
   | refine LeO.bind ?_ (fun _ => ?_)
theorem when_Days.mono : ∀ a0 a1 a2 k, LeO (when_Days.f k a0 a1 a2) (when_Days.f (k + 1) a0 a1 a2) := by
 intro a0 a1 a2 k
 obtain ⟨ih0, ih1⟩ := when_Days.mono_l k
 unfold when_Days.f
 repeat' first
   | (with_reducible exact ih0 ..)
   | (with_reducible exact ih1 ..)
   | (with_reducible exact LeO.refl ..)
   | (with_reducible exact LeO.none ..)
   | (with_reducible refine LeO.ite ?_ ?_)
   | (with_reducible refine LeO.bind ?_ (fun _ => ?_))
   | exact ih0 ..
   | exact ih1 ..
   | exact LeO.none ..
   | refine LeO.ite ?_ ?_
   | refine LeO.bind ?_ (fun _ => ?_)
set_option maxHeartbeats 8000000 in
set_option maxRecDepth 100000 in
theorem when_Days.calls (k : Nat) (a0 : Int) (a1 : Int) (a2 : Int) (r1 : Int) (r2 : Int) (w : World) (h : when_Days.f k a0 a1 a2 = some (r1, r2)) :
  Calls Try.prog 91 #[.int .i64 a0, .int .i64 a1, .int .i64 a2] w fun e w' => e = .returned (.tuple #[.int .i64 r1, .int .i64 r2]) ∧ Below w.heap.size w w' := by
 have HB := ad_ (Below.refl w.heap.size w)
 have H : (if a0 < 1970 then (when_Days.j0 k a0 a1 a2 true) else (if a0 > 9999 then (when_Days.j0 k a0 a1 a2 true) else (if a1 < 1 then (when_Days.j0 k a0 a1 a2 true) else (if a1 > 12 then (when_Days.j0 k a0 a1 a2 true) else (if a2 < 1 then (when_Days.j0 k a0 a1 a2 true) else ((when_month.f a0 a1).bind fun t148 => (when_Days.j0 k a0 a1 a2 (decide (a2 > t148))))))))) = some (r1, r2) := h
 clear h
 have HC4 := Aside0.mk H
 clear H
 go_enter Try.func91, Try.ntmps91
 go_upto_region 1 with (fail)
 go_cut [34] (fun v34 wc => ∃ (kq : Nat) (x34_3 : Bool), v34 = .bool x34_3 ∧ Aside0 (when_Days.j0 kq a0 a1 a2 x34_3 = some (r1, r2)) ∧ Aside0 (kq ≤ k) ∧ Aside0 (Below w.heap.size w wc))
 case first =>
  have H := HC4.out
  clear HC4
  by_cases c5 : a0 < 1970
  ·rw [if_pos c5] at H
   have c5b0 : decide (a0 < 1970) = true := decide_eq_true c5
   clear c5
   (first | rw [c5b0] | (simp only [i64_w, i32_w]; rw [c5b0]) | skip)
   have H' := Aside0.mk H
   clear H
   go_wp2
   go_meet
   case rel => exact ⟨_, (true), val_, H', ⟨by first | omega | exact Nat.le_refl _⟩, ⟨bel_⟩⟩
  ·rw [if_neg c5] at H
   have c5b0 : decide (a0 < 1970) = false := decide_eq_false c5
   clear c5
   (first | rw [c5b0] | (simp only [i64_w, i32_w]; rw [c5b0]) | skip)
   by_cases c6 : a0 > 9999
   ·rw [if_pos c6] at H
    have c6b0 : decide (9999 < a0) = true := decide_eq_true c6
    clear c6
    have H' := Aside0.mk H
    clear H
    go_wp2
    go_meet
    case rel => exact ⟨_, (true), val_, H', ⟨by first | omega | exact Nat.le_refl _⟩, ⟨bel_⟩⟩
   ·rw [if_neg c6] at H
    have c6b0 : decide (9999 < a0) = false := decide_eq_false c6
    clear c6
    by_cases c7 : a1 < 1
    ·rw [if_pos c7] at H
     have c7b0 : decide (a1 < 1) = true := decide_eq_true c7
     clear c7
     have H' := Aside0.mk H
     clear H
     go_wp2
     go_meet
     case rel => exact ⟨_, (true), val_, H', ⟨by first | omega | exact Nat.le_refl _⟩, ⟨bel_⟩⟩
    ·rw [if_neg c7] at H
     have c7b0 : decide (a1 < 1) = false := decide_eq_false c7
     clear c7
     by_cases c8 : a1 > 12
     ·rw [if_pos c8] at H
      have c8b0 : decide (12 < a1) = true := decide_eq_true c8
      clear c8
      have H' := Aside0.mk H
      clear H
      go_wp2
      go_meet
      case rel => exact ⟨_, (true), val_, H', ⟨by first | omega | exact Nat.le_refl _⟩, ⟨bel_⟩⟩
     ·rw [if_neg c8] at H
      have c8b0 : decide (12 < a1) = false := decide_eq_false c8
      clear c8
      by_cases c9 : a2 < 1
      ·rw [if_pos c9] at H
       have c9b0 : decide (a2 < 1) = true := decide_eq_true c9
       clear c9
       have H' := Aside0.mk H
       clear H
       go_wp2
       go_meet
       case rel => exact ⟨_, (true), val_, H', ⟨by first | omega | exact Nat.le_refl _⟩, ⟨bel_⟩⟩
      ·rw [if_neg c9] at H
       have c9b0 : decide (a2 < 1) = false := decide_eq_false c9
       clear c9
       replace H := Option.bind_eq_some_iff.mp H
       obtain ⟨t148, A100, H⟩ := H
       try dsimp only at H
       have A10 := Aside0.mk A100
       clear A100
       have H' := Aside0.mk H
       clear H
       go_wp2_with (first | (go_at_call 90; (with_reducible refine (when_month.calls a0 a1 t148 _ A10.out).mono ?_); rintro e w11 ⟨rfl, hb⟩; have n0_ := ad_ (below_step bel_ hb); clear HB; have HB := n0_; clear n0_; (try clear hb); (try clear hb2); (try clear hk); (try clear hi)))
       go_meet
       case rel => exact ⟨_, (decide (a2 > t148)), val_, H', ⟨by first | omega | exact Nat.le_refl _⟩, ⟨bel_⟩⟩
 case rest =>
  clear HC4
  try clear p2
  try clear c5
  try clear c5b0
  try clear c6
  try clear c6b0
  try clear c7
  try clear c7b0
  try clear c8
  try clear c8b0
  try clear c9
  try clear c9b0
  obtain ⟨kq, x34_3, rfl, HA, HJ3, HB⟩ := hcut
  cases kq with
  | zero => exact absurd HA.out (by simp [when_Days.j0])
  | succ kj3 =>
   have H := HA.out
   clear HA
   simp only [when_Days.j0] at H
   by_cases c12 : x34_3 = true
   ·subst c12
    have H1 := ifp_ H
    clear H
    have H := H1
    clear H1
    simp only [Option.some.injEq, Prod.mk.injEq] at H
    obtain ⟨rfl, rfl⟩ := H
    go_wp2
    go_ret2
    exact ⟨ret_, bel_⟩
   ·replace c12 := Bool.eq_false_iff.mpr c12
    subst c12
    have H1 := ifn_ H
    clear H
    have H := H1
    clear H1
    replace H := Option.bind_eq_some_iff.mp H
    obtain ⟨t149, A130, H⟩ := H
    try dsimp only at H
    have A13 := Aside0.mk A130
    clear A130
    have H' := Aside0.mk H
    clear H
    go_wp2_with (first | ((with_reducible refine gate_callee (f := 89) rfl ?_); refine goesL_ (some 36) rfl rfl Try.func89 (by kernel_rfl) rfl #[.int .i64 a0] rfl arg_ ?_; (with_reducible refine (when_before.calls a0 t149 _ A13.out).mono ?_); rintro e w' ⟨rfl, ⟨nd, rfl⟩⟩; refine ⟨_, rfl, ?_⟩))
    go_loopg [8, 41] kj3 (fun kq v8 v41 w' => ∃ (x8_2 : Int) (x41_2 : Int), v8 = .int .i64 x8_2 ∧ v41 = .int .i64 x41_2 ∧ Aside0 (when_Days.l0 kq a0 x8_2 a1 x41_2 = some (r1, r2)) ∧ Aside0 (kq ≤ kj3) ∧ Aside0 (Below w.heap.size w w'))
    case atStart => exact ⟨(wrap64 ((wrap64 (t149 + a2)) - 1)), (0), val_, val_, H', ⟨Nat.le_refl _⟩, ⟨bel_⟩⟩
    case round =>
     clear H'
     try clear c1
     try clear p2
     try clear c5
     try clear c5b0
     try clear c6
     try clear c6b0
     try clear p6
     try clear c7
     try clear c7b0
     try clear c8
     try clear c8b0
     try clear c9
     try clear c9b0
     try clear c12
     try clear p2
     obtain ⟨x8_2, x41_2, rfl, rfl, HA, HK2, HB⟩ := hrel
     cases gk with
     | zero => exact absurd HA.out (by simp [when_Days.l0])
     | succ k2 =>
      have H := HA.out
      clear HA
      simp only [when_Days.l0] at H
      by_cases c14 : x41_2 < a1
      ·rw [if_pos c14] at H
       have c14b0 : decide (x41_2 < a1) = true := decide_eq_true c14
       clear c14
       by_cases c15 : x41_2 > 0
       ·rw [if_pos c15] at H
        have c15b0 : decide (0 < x41_2) = true := decide_eq_true c15
        clear c15
        replace H := Option.bind_eq_some_iff.mp H
        obtain ⟨t150, A160, H⟩ := H
        try dsimp only at H
        have A16 := Aside0.mk A160
        clear A160
        have H' := Aside0.mk H
        clear H
        go_wp2_with (first | ((with_reducible refine gate_callee (f := 90) rfl ?_); refine goesL_ (some 49) rfl rfl Try.func90 (by kernel_rfl) rfl #[.int .i64 a0, .int .i64 x41_2] rfl arg_ ?_; (with_reducible refine (when_month.calls a0 x41_2 t150 _ A16.out).mono ?_); rintro e w17 ⟨rfl, hb⟩; refine ⟨_, rfl, ?_⟩; have n0_ := ad_ (below_step bel_ hb); clear HB; have HB := n0_; clear n0_; (try clear hb); (try clear hb2); (try clear hk); (try clear hi)))
        go_roundg k2
        case measure => have := HJ3.out; have := HK2.out; omega
        case rel => exact ⟨(wrap64 (x8_2 + t150)), (wrap64 (x41_2 + 1)), val_, val_, H', ⟨by have := HJ3.out; have := HK2.out; omega⟩, ⟨bel_⟩⟩
       ·rw [if_neg c15] at H
        have c15b0 : decide (0 < x41_2) = false := decide_eq_false c15
        clear c15
        have H' := Aside0.mk H
        clear H
        go_wp2
        go_roundg k2
        case measure => have := HJ3.out; have := HK2.out; omega
        case rel => exact ⟨(x8_2), (wrap64 (x41_2 + 1)), val_, val_, H', ⟨by have := HJ3.out; have := HK2.out; omega⟩, ⟨bel_⟩⟩
      ·rw [if_neg c14] at H
       have c14b0 : decide (x41_2 < a1) = false := decide_eq_false c14
       clear c14
       simp only [Option.some.injEq, Prod.mk.injEq] at H
       obtain ⟨rfl, rfl⟩ := H
       go_wp2
       go_ret2
       exact ⟨ret_, bel_⟩

/-! ### date_Weekday: function 92 -/
def date_Weekday.f (a0 : Int) : Option (Int × Int) := if a0 < 0 then (some (0, 110)) else (if a0 > 2932896 then (some (0, 110)) else (some (Int.tmod (wrap64 (a0 + 3)) 7, 0)))
set_option maxHeartbeats 8000000 in
set_option maxRecDepth 100000 in
theorem date_Weekday.calls (a0 : Int) (r1 : Int) (r2 : Int) (w : World) (h : date_Weekday.f a0 = some (r1, r2)) :
  Calls Try.prog 92 #[.int .i64 a0] w fun e w' => e = .returned (.tuple #[.int .i64 r1, .int .i64 r2]) ∧ Drawn0 w w' := by
 have H : (if a0 < 0 then (some (0, 110)) else (if a0 > 2932896 then (some (0, 110)) else (some (Int.tmod (wrap64 (a0 + 3)) 7, 0)))) = some (r1, r2) := h
 clear h
 by_cases c2 : a0 < 0
 ·rw [if_pos c2] at H
  have c2b0 : decide (a0 < 0) = true := decide_eq_true c2
  clear c2
  simp only [Option.some.injEq, Prod.mk.injEq] at H
  obtain ⟨rfl, rfl⟩ := H
  go_enter Try.func92, Try.ntmps92
  go_wp2
  go_ret2
  exact ⟨val_, by repeat (first | exact Drawn0.refl _ | apply Drawn0.step)⟩
 ·rw [if_neg c2] at H
  have c2b0 : decide (a0 < 0) = false := decide_eq_false c2
  clear c2
  by_cases c3 : a0 > 2932896
  ·rw [if_pos c3] at H
   have c3b0 : decide (2932896 < a0) = true := decide_eq_true c3
   clear c3
   simp only [Option.some.injEq, Prod.mk.injEq] at H
   obtain ⟨rfl, rfl⟩ := H
   go_enter Try.func92, Try.ntmps92
   go_wp2
   go_ret2
   exact ⟨val_, by repeat (first | exact Drawn0.refl _ | apply Drawn0.step)⟩
  ·rw [if_neg c3] at H
   have c3b0 : decide (2932896 < a0) = false := decide_eq_false c3
   clear c3
   simp only [Option.some.injEq, Prod.mk.injEq] at H
   obtain ⟨rfl, rfl⟩ := H
   go_enter Try.func92, Try.ntmps92
   go_wp2
   go_ret2
   exact ⟨val_, by repeat (first | exact Drawn0.refl _ | apply Drawn0.step)⟩

/-! ### zone_length: function 93 -/
def zone_length.l0 : Nat → Int → Int → Int → Option (Int)
 | 0, _, _, _ => none
 | k + 1, x0, x1, x5 => if x5 > 28 then ((when_Days.f k x0 x1 x5).bind fun bt151 => (if bt151.2 = 0 then (some x5) else (zone_length.l0 k x0 x1 (wrap64 (x5 - 1))))) else (some 28)
def zone_length.f (k : Nat) (a0 : Int) (a1 : Int) : Option (Int) := zone_length.l0 k a0 a1 31
theorem zone_length.mono_l : ∀ k, (∀ y0 y1 y2, LeO (zone_length.l0 k y0 y1 y2) (zone_length.l0 (k + 1) y0 y1 y2))
 | 0 => fun _ _ _ r h => by simp [zone_length.l0] at h
 | k + 1 => by
  have ih0 := zone_length.mono_l k
  ·intro y0 y1 y2
   unfold zone_length.l0
   repeat' first
   | (with_reducible exact ih0 ..)
   | (with_reducible exact when_Days.mono ..)
   | (with_reducible exact LeO.refl ..)
   | (with_reducible exact LeO.none ..)
   | (with_reducible refine LeO.ite ?_ ?_)
   | (with_reducible refine LeO.bind ?_ (fun _ => ?_))
   | exact ih0 ..
   | exact when_Days.mono ..
   | exact LeO.none ..
   | refine LeO.ite ?_ ?_
   | refine LeO.bind ?_ (fun _ => ?_)
theorem zone_length.mono : ∀ a0 a1 k, LeO (zone_length.f k a0 a1) (zone_length.f (k + 1) a0 a1) := by
 intro a0 a1 k
 have ih0 := zone_length.mono_l k
 unfold zone_length.f
 repeat' first
   | (with_reducible exact ih0 ..)
   | (with_reducible exact when_Days.mono ..)
   | (with_reducible exact LeO.refl ..)
   | (with_reducible exact LeO.none ..)
   | (with_reducible refine LeO.ite ?_ ?_)
   | (with_reducible refine LeO.bind ?_ (fun _ => ?_))
   | exact ih0 ..
   | exact when_Days.mono ..
   | exact LeO.none ..
   | refine LeO.ite ?_ ?_
   | refine LeO.bind ?_ (fun _ => ?_)
set_option maxHeartbeats 8000000 in
set_option maxRecDepth 100000 in
theorem zone_length.calls (k : Nat) (a0 : Int) (a1 : Int) (r : Int) (w : World) (h : zone_length.f k a0 a1 = some r) :
  Calls Try.prog 93 #[.int .i64 a0, .int .i64 a1] w fun e w' => e = .returned (.int .i64 r) ∧ Below w.heap.size w w' := by
 have HB := ad_ (Below.refl w.heap.size w)
 have H : (zone_length.l0 k a0 a1 31) = some r := h
 clear h
 have H' := Aside0.mk H
 clear H
 go_enter Try.func93, Try.ntmps93
 go_wp2
 go_loopg [5] k (fun kq v5 w' => ∃ (x5_1 : Int), v5 = .int .i64 x5_1 ∧ Aside0 (zone_length.l0 kq a0 a1 x5_1 = some r) ∧ Aside0 (kq ≤ k) ∧ Aside0 (Below w.heap.size w w'))
 case atStart => exact ⟨(31), val_, H', ⟨Nat.le_refl _⟩, ⟨bel_⟩⟩
 case round =>
  clear H'
  try clear p2
  obtain ⟨x5_1, rfl, HA, HK1, HB⟩ := hrel
  cases gk with
  | zero => exact absurd HA.out (by simp [zone_length.l0])
  | succ k1 =>
   have H := HA.out
   clear HA
   simp only [zone_length.l0] at H
   by_cases c3 : x5_1 > 28
   ·rw [if_pos c3] at H
    have c3b0 : decide (28 < x5_1) = true := decide_eq_true c3
    clear c3
    replace H := Option.bind_eq_some_iff.mp H
    obtain ⟨⟨t151, t152⟩, A40, H⟩ := H
    try dsimp only at H
    have A4 := Aside0.mk A40
    clear A40
    by_cases c5 : t152 = 0
    ·rw [if_pos c5] at H
     have c5b0 : (t152 == 0) = true := beq_iff_eq.mpr c5
     have c5b1 : (t152 != 0) = false := bne_eq_false_iff_eq.mpr c5
     clear c5
     obtain rfl := Option.some.inj H
     go_wp2_with (first | ((with_reducible refine gate_callee (f := 91) rfl ?_); refine goesL_ (some 16) rfl rfl Try.func91 (by kernel_rfl) rfl #[.int .i64 a0, .int .i64 a1, .int .i64 x5_1] rfl arg_ ?_; (with_reducible refine (when_Days.calls k1 a0 a1 x5_1 t151 t152 _ A4.out).mono ?_); rintro e w6 ⟨rfl, hb⟩; refine ⟨_, rfl, ?_⟩; have n0_ := ad_ (below_step bel_ hb); clear HB; have HB := n0_; clear n0_; (try clear hb); (try clear hb2); (try clear hk); (try clear hi)))
     go_ret
     exact ⟨ret_, bel_⟩
    ·rw [if_neg c5] at H
     have c5b0 : (t152 == 0) = false := beq_eq_false_iff_ne.mpr c5
     have c5b1 : (t152 != 0) = true := bne_iff_ne.mpr c5
     have H' := Aside0.mk H
     clear H
     go_wp2_with (first | ((with_reducible refine gate_callee (f := 91) rfl ?_); refine goesL_ (some 16) rfl rfl Try.func91 (by kernel_rfl) rfl #[.int .i64 a0, .int .i64 a1, .int .i64 x5_1] rfl arg_ ?_; (with_reducible refine (when_Days.calls k1 a0 a1 x5_1 t151 t152 _ A4.out).mono ?_); rintro e w7 ⟨rfl, hb⟩; refine ⟨_, rfl, ?_⟩; have n0_ := ad_ (below_step bel_ hb); clear HB; have HB := n0_; clear n0_; (try clear hb); (try clear hb2); (try clear hk); (try clear hi)))
     go_roundg k1
     case measure => have := HK1.out; omega
     case rel => exact ⟨(wrap64 (x5_1 - 1)), val_, H', ⟨by have := HK1.out; omega⟩, ⟨bel_⟩⟩
   ·rw [if_neg c3] at H
    have c3b0 : decide (28 < x5_1) = false := decide_eq_false c3
    clear c3
    obtain rfl := Option.some.inj H
    go_wp2
    go_ret
    exact ⟨ret_, bel_⟩

end Go.Proofs.Ytlplmkllmgdifaa.PZ

-- Written by a program of the session (wip/tools).
import Derived.Test.YtlkonnkglbfkbaaDoorPEx0
import Derived.Test.YtlkonnkglbfkbaaDoorPEx2
import Derived.Test.YtlkonnkglbfkbaaDoorPEx3
import Derived.Test.YtlkonnkglbfkbaaDoorPEx6
namespace Go.Proofs.YtlkonnkglbfkbaaDoor.PE
open Go.RowKit Go.Proofs.YtlkonnkglbfkbaaDoorW.PrintWords Go.Proofs.YtlkonnkglbfkbaaDoorW.PrintLast Go.Proofs.YtlkonnkglbfkbaaDoorW.PrintMore
attribute [local go_sem] max2_int min2_int max_two min_two max_three min_three max_four min_four   -- for this text's walks alone
set_option linter.unusedVariables false
set_option linter.unusedSimpArgs false

/-! ### posthornlaw19_ExtraCodeBack: function 4 -/
def posthornlaw19_ExtraCodeBack.l0 : Nat → List Int → ByteArray → List Int → Int → Int → Int → Option (Bool)
  | 0, _, _, _, _, _, _ => none
  | k + 1, x0, x3, x4, x5, x6, x7 => if x7 < (x3.size : Int) then (if 0 ≤ x7 then (if (bt x3 x7) = 37 then (if (bt x3 x7) ≥ 97 then (if (bt x3 x7) ≤ 122 then (posthornlaw19_ExtraCodeBack.l0 k x0 x3 x4 x5 (wrap64 (x6 + 1)) (wrap64 (x7 + 1))) else (if (bt x3 x7) ≥ 65 then (if (bt x3 x7) ≤ 90 then (posthornlaw19_ExtraCodeBack.l0 k x0 x3 x4 x5 (wrap64 (x6 + 1)) (wrap64 (x7 + 1))) else (if (bt x3 x7) ≥ 48 then (if (bt x3 x7) ≤ 57 then (posthornlaw19_ExtraCodeBack.l0 k x0 x3 x4 x5 (wrap64 (x6 + 1)) (wrap64 (x7 + 1))) else (if (bt x3 x7) = 45 then (posthornlaw19_ExtraCodeBack.l0 k x0 x3 x4 x5 (wrap64 (x6 + 1)) (wrap64 (x7 + 1))) else (if (bt x3 x7) = 46 then (posthornlaw19_ExtraCodeBack.l0 k x0 x3 x4 x5 (wrap64 (x6 + 1)) (wrap64 (x7 + 1))) else (if (bt x3 x7) = 95 then (posthornlaw19_ExtraCodeBack.l0 k x0 x3 x4 x5 (wrap64 (x6 + 1)) (wrap64 (x7 + 1))) else (if ((bt x3 x7) = 37) then (posthornlaw19_ExtraCodeBack.l0 k x0 x3 x4 x5 (wrap64 (x6 + 1)) (wrap64 (x7 + 1))) else (some false)))))) else (if (bt x3 x7) = 45 then (posthornlaw19_ExtraCodeBack.l0 k x0 x3 x4 x5 (wrap64 (x6 + 1)) (wrap64 (x7 + 1))) else (if (bt x3 x7) = 46 then (posthornlaw19_ExtraCodeBack.l0 k x0 x3 x4 x5 (wrap64 (x6 + 1)) (wrap64 (x7 + 1))) else (if (bt x3 x7) = 95 then (posthornlaw19_ExtraCodeBack.l0 k x0 x3 x4 x5 (wrap64 (x6 + 1)) (wrap64 (x7 + 1))) else (if ((bt x3 x7) = 37) then (posthornlaw19_ExtraCodeBack.l0 k x0 x3 x4 x5 (wrap64 (x6 + 1)) (wrap64 (x7 + 1))) else (some false))))))) else (if (bt x3 x7) ≥ 48 then (if (bt x3 x7) ≤ 57 then (posthornlaw19_ExtraCodeBack.l0 k x0 x3 x4 x5 (wrap64 (x6 + 1)) (wrap64 (x7 + 1))) else (if (bt x3 x7) = 45 then (posthornlaw19_ExtraCodeBack.l0 k x0 x3 x4 x5 (wrap64 (x6 + 1)) (wrap64 (x7 + 1))) else (if (bt x3 x7) = 46 then (posthornlaw19_ExtraCodeBack.l0 k x0 x3 x4 x5 (wrap64 (x6 + 1)) (wrap64 (x7 + 1))) else (if (bt x3 x7) = 95 then (posthornlaw19_ExtraCodeBack.l0 k x0 x3 x4 x5 (wrap64 (x6 + 1)) (wrap64 (x7 + 1))) else (if ((bt x3 x7) = 37) then (posthornlaw19_ExtraCodeBack.l0 k x0 x3 x4 x5 (wrap64 (x6 + 1)) (wrap64 (x7 + 1))) else (some false)))))) else (if (bt x3 x7) = 45 then (posthornlaw19_ExtraCodeBack.l0 k x0 x3 x4 x5 (wrap64 (x6 + 1)) (wrap64 (x7 + 1))) else (if (bt x3 x7) = 46 then (posthornlaw19_ExtraCodeBack.l0 k x0 x3 x4 x5 (wrap64 (x6 + 1)) (wrap64 (x7 + 1))) else (if (bt x3 x7) = 95 then (posthornlaw19_ExtraCodeBack.l0 k x0 x3 x4 x5 (wrap64 (x6 + 1)) (wrap64 (x7 + 1))) else (if ((bt x3 x7) = 37) then (posthornlaw19_ExtraCodeBack.l0 k x0 x3 x4 x5 (wrap64 (x6 + 1)) (wrap64 (x7 + 1))) else (some false)))))))) else (if (bt x3 x7) ≥ 65 then (if (bt x3 x7) ≤ 90 then (posthornlaw19_ExtraCodeBack.l0 k x0 x3 x4 x5 (wrap64 (x6 + 1)) (wrap64 (x7 + 1))) else (if (bt x3 x7) ≥ 48 then (if (bt x3 x7) ≤ 57 then (posthornlaw19_ExtraCodeBack.l0 k x0 x3 x4 x5 (wrap64 (x6 + 1)) (wrap64 (x7 + 1))) else (if (bt x3 x7) = 45 then (posthornlaw19_ExtraCodeBack.l0 k x0 x3 x4 x5 (wrap64 (x6 + 1)) (wrap64 (x7 + 1))) else (if (bt x3 x7) = 46 then (posthornlaw19_ExtraCodeBack.l0 k x0 x3 x4 x5 (wrap64 (x6 + 1)) (wrap64 (x7 + 1))) else (if (bt x3 x7) = 95 then (posthornlaw19_ExtraCodeBack.l0 k x0 x3 x4 x5 (wrap64 (x6 + 1)) (wrap64 (x7 + 1))) else (if ((bt x3 x7) = 37) then (posthornlaw19_ExtraCodeBack.l0 k x0 x3 x4 x5 (wrap64 (x6 + 1)) (wrap64 (x7 + 1))) else (some false)))))) else (if (bt x3 x7) = 45 then (posthornlaw19_ExtraCodeBack.l0 k x0 x3 x4 x5 (wrap64 (x6 + 1)) (wrap64 (x7 + 1))) else (if (bt x3 x7) = 46 then (posthornlaw19_ExtraCodeBack.l0 k x0 x3 x4 x5 (wrap64 (x6 + 1)) (wrap64 (x7 + 1))) else (if (bt x3 x7) = 95 then (posthornlaw19_ExtraCodeBack.l0 k x0 x3 x4 x5 (wrap64 (x6 + 1)) (wrap64 (x7 + 1))) else (if ((bt x3 x7) = 37) then (posthornlaw19_ExtraCodeBack.l0 k x0 x3 x4 x5 (wrap64 (x6 + 1)) (wrap64 (x7 + 1))) else (some false))))))) else (if (bt x3 x7) ≥ 48 then (if (bt x3 x7) ≤ 57 then (posthornlaw19_ExtraCodeBack.l0 k x0 x3 x4 x5 (wrap64 (x6 + 1)) (wrap64 (x7 + 1))) else (if (bt x3 x7) = 45 then (posthornlaw19_ExtraCodeBack.l0 k x0 x3 x4 x5 (wrap64 (x6 + 1)) (wrap64 (x7 + 1))) else (if (bt x3 x7) = 46 then (posthornlaw19_ExtraCodeBack.l0 k x0 x3 x4 x5 (wrap64 (x6 + 1)) (wrap64 (x7 + 1))) else (if (bt x3 x7) = 95 then (posthornlaw19_ExtraCodeBack.l0 k x0 x3 x4 x5 (wrap64 (x6 + 1)) (wrap64 (x7 + 1))) else (if ((bt x3 x7) = 37) then (posthornlaw19_ExtraCodeBack.l0 k x0 x3 x4 x5 (wrap64 (x6 + 1)) (wrap64 (x7 + 1))) else (some false)))))) else (if (bt x3 x7) = 45 then (posthornlaw19_ExtraCodeBack.l0 k x0 x3 x4 x5 (wrap64 (x6 + 1)) (wrap64 (x7 + 1))) else (if (bt x3 x7) = 46 then (posthornlaw19_ExtraCodeBack.l0 k x0 x3 x4 x5 (wrap64 (x6 + 1)) (wrap64 (x7 + 1))) else (if (bt x3 x7) = 95 then (posthornlaw19_ExtraCodeBack.l0 k x0 x3 x4 x5 (wrap64 (x6 + 1)) (wrap64 (x7 + 1))) else (if ((bt x3 x7) = 37) then (posthornlaw19_ExtraCodeBack.l0 k x0 x3 x4 x5 (wrap64 (x6 + 1)) (wrap64 (x7 + 1))) else (some false)))))))) else (if (bt x3 x7) ≥ 97 then (if (bt x3 x7) ≤ 122 then (posthornlaw19_ExtraCodeBack.l0 k x0 x3 x4 x5 x6 (wrap64 (x7 + 1))) else (if (bt x3 x7) ≥ 65 then (if (bt x3 x7) ≤ 90 then (posthornlaw19_ExtraCodeBack.l0 k x0 x3 x4 x5 x6 (wrap64 (x7 + 1))) else (if (bt x3 x7) ≥ 48 then (if (bt x3 x7) ≤ 57 then (posthornlaw19_ExtraCodeBack.l0 k x0 x3 x4 x5 x6 (wrap64 (x7 + 1))) else (if (bt x3 x7) = 45 then (posthornlaw19_ExtraCodeBack.l0 k x0 x3 x4 x5 x6 (wrap64 (x7 + 1))) else (if (bt x3 x7) = 46 then (posthornlaw19_ExtraCodeBack.l0 k x0 x3 x4 x5 x6 (wrap64 (x7 + 1))) else (if (bt x3 x7) = 95 then (posthornlaw19_ExtraCodeBack.l0 k x0 x3 x4 x5 x6 (wrap64 (x7 + 1))) else (if ((bt x3 x7) = 37) then (posthornlaw19_ExtraCodeBack.l0 k x0 x3 x4 x5 x6 (wrap64 (x7 + 1))) else (some false)))))) else (if (bt x3 x7) = 45 then (posthornlaw19_ExtraCodeBack.l0 k x0 x3 x4 x5 x6 (wrap64 (x7 + 1))) else (if (bt x3 x7) = 46 then (posthornlaw19_ExtraCodeBack.l0 k x0 x3 x4 x5 x6 (wrap64 (x7 + 1))) else (if (bt x3 x7) = 95 then (posthornlaw19_ExtraCodeBack.l0 k x0 x3 x4 x5 x6 (wrap64 (x7 + 1))) else (if ((bt x3 x7) = 37) then (posthornlaw19_ExtraCodeBack.l0 k x0 x3 x4 x5 x6 (wrap64 (x7 + 1))) else (some false))))))) else (if (bt x3 x7) ≥ 48 then (if (bt x3 x7) ≤ 57 then (posthornlaw19_ExtraCodeBack.l0 k x0 x3 x4 x5 x6 (wrap64 (x7 + 1))) else (if (bt x3 x7) = 45 then (posthornlaw19_ExtraCodeBack.l0 k x0 x3 x4 x5 x6 (wrap64 (x7 + 1))) else (if (bt x3 x7) = 46 then (posthornlaw19_ExtraCodeBack.l0 k x0 x3 x4 x5 x6 (wrap64 (x7 + 1))) else (if (bt x3 x7) = 95 then (posthornlaw19_ExtraCodeBack.l0 k x0 x3 x4 x5 x6 (wrap64 (x7 + 1))) else (if ((bt x3 x7) = 37) then (posthornlaw19_ExtraCodeBack.l0 k x0 x3 x4 x5 x6 (wrap64 (x7 + 1))) else (some false)))))) else (if (bt x3 x7) = 45 then (posthornlaw19_ExtraCodeBack.l0 k x0 x3 x4 x5 x6 (wrap64 (x7 + 1))) else (if (bt x3 x7) = 46 then (posthornlaw19_ExtraCodeBack.l0 k x0 x3 x4 x5 x6 (wrap64 (x7 + 1))) else (if (bt x3 x7) = 95 then (posthornlaw19_ExtraCodeBack.l0 k x0 x3 x4 x5 x6 (wrap64 (x7 + 1))) else (if ((bt x3 x7) = 37) then (posthornlaw19_ExtraCodeBack.l0 k x0 x3 x4 x5 x6 (wrap64 (x7 + 1))) else (some false)))))))) else (if (bt x3 x7) ≥ 65 then (if (bt x3 x7) ≤ 90 then (posthornlaw19_ExtraCodeBack.l0 k x0 x3 x4 x5 x6 (wrap64 (x7 + 1))) else (if (bt x3 x7) ≥ 48 then (if (bt x3 x7) ≤ 57 then (posthornlaw19_ExtraCodeBack.l0 k x0 x3 x4 x5 x6 (wrap64 (x7 + 1))) else (if (bt x3 x7) = 45 then (posthornlaw19_ExtraCodeBack.l0 k x0 x3 x4 x5 x6 (wrap64 (x7 + 1))) else (if (bt x3 x7) = 46 then (posthornlaw19_ExtraCodeBack.l0 k x0 x3 x4 x5 x6 (wrap64 (x7 + 1))) else (if (bt x3 x7) = 95 then (posthornlaw19_ExtraCodeBack.l0 k x0 x3 x4 x5 x6 (wrap64 (x7 + 1))) else (if ((bt x3 x7) = 37) then (posthornlaw19_ExtraCodeBack.l0 k x0 x3 x4 x5 x6 (wrap64 (x7 + 1))) else (some false)))))) else (if (bt x3 x7) = 45 then (posthornlaw19_ExtraCodeBack.l0 k x0 x3 x4 x5 x6 (wrap64 (x7 + 1))) else (if (bt x3 x7) = 46 then (posthornlaw19_ExtraCodeBack.l0 k x0 x3 x4 x5 x6 (wrap64 (x7 + 1))) else (if (bt x3 x7) = 95 then (posthornlaw19_ExtraCodeBack.l0 k x0 x3 x4 x5 x6 (wrap64 (x7 + 1))) else (if ((bt x3 x7) = 37) then (posthornlaw19_ExtraCodeBack.l0 k x0 x3 x4 x5 x6 (wrap64 (x7 + 1))) else (some false))))))) else (if (bt x3 x7) ≥ 48 then (if (bt x3 x7) ≤ 57 then (posthornlaw19_ExtraCodeBack.l0 k x0 x3 x4 x5 x6 (wrap64 (x7 + 1))) else (if (bt x3 x7) = 45 then (posthornlaw19_ExtraCodeBack.l0 k x0 x3 x4 x5 x6 (wrap64 (x7 + 1))) else (if (bt x3 x7) = 46 then (posthornlaw19_ExtraCodeBack.l0 k x0 x3 x4 x5 x6 (wrap64 (x7 + 1))) else (if (bt x3 x7) = 95 then (posthornlaw19_ExtraCodeBack.l0 k x0 x3 x4 x5 x6 (wrap64 (x7 + 1))) else (if ((bt x3 x7) = 37) then (posthornlaw19_ExtraCodeBack.l0 k x0 x3 x4 x5 x6 (wrap64 (x7 + 1))) else (some false)))))) else (if (bt x3 x7) = 45 then (posthornlaw19_ExtraCodeBack.l0 k x0 x3 x4 x5 x6 (wrap64 (x7 + 1))) else (if (bt x3 x7) = 46 then (posthornlaw19_ExtraCodeBack.l0 k x0 x3 x4 x5 x6 (wrap64 (x7 + 1))) else (if (bt x3 x7) = 95 then (posthornlaw19_ExtraCodeBack.l0 k x0 x3 x4 x5 x6 (wrap64 (x7 + 1))) else (if ((bt x3 x7) = 37) then (posthornlaw19_ExtraCodeBack.l0 k x0 x3 x4 x5 x6 (wrap64 (x7 + 1))) else (some false))))))))) else (none)) else ((posthornlaw19_alive.f).bind fun t261 => (if t261 = true then (if x5 = 0 then (if (strOfNums x4).toList = (strOfNums x0).toList then (some ((x3.size : Int) == (wrap64 ((x0.length : Int) + (wrap64 (2 * x6)))))) else (some false)) else (some false)) else (some false)))
def posthornlaw19_ExtraCodeBack.f (k : Nat) (l0 : List Int) : Option (Bool) := if (l0.length : Int) > 1000 then ((posthornlaw19_alive.f).bind fun t255 => (some t255)) else ((extra_Code.f l0).bind fun t256 => ((extra_Decode.f k t256).bind fun bt257 => (posthornlaw19_ExtraCodeBack.l0 k l0 t256 bt257.1 bt257.2 0 0)))
theorem posthornlaw19_ExtraCodeBack.mono_l : ∀ k, (∀ y0 y1 y2 y3 y4 y5, LeO (posthornlaw19_ExtraCodeBack.l0 k y0 y1 y2 y3 y4 y5) (posthornlaw19_ExtraCodeBack.l0 (k + 1) y0 y1 y2 y3 y4 y5))
  | 0 => fun _ _ _ _ _ _ r h => by simp [posthornlaw19_ExtraCodeBack.l0] at h
  | k + 1 => by
    have ih0 := posthornlaw19_ExtraCodeBack.mono_l k
    · intro y0 y1 y2 y3 y4 y5
      unfold posthornlaw19_ExtraCodeBack.l0
      repeat' first
      | (with_reducible exact ih0 _ _ _ _ _ _)
      | (with_reducible exact extra_Decode.mono _ _)
      | (with_reducible exact LeO.refl _)
      | (with_reducible exact LeO.none _)
      | (with_reducible refine LeO.ite ?_ ?_)
      | (with_reducible refine LeO.bind ?_ (fun _ => ?_))
      | exact ih0 _ _ _ _ _ _
      | exact extra_Decode.mono _ _
      | exact LeO.none _
      | refine LeO.ite ?_ ?_
      | refine LeO.bind ?_ (fun _ => ?_)
theorem posthornlaw19_ExtraCodeBack.mono : ∀ a0 k, LeO (posthornlaw19_ExtraCodeBack.f k a0) (posthornlaw19_ExtraCodeBack.f (k + 1) a0) := by
  intro a0 k
  have ih0 := posthornlaw19_ExtraCodeBack.mono_l k
  unfold posthornlaw19_ExtraCodeBack.f
  repeat' first
      | (with_reducible exact ih0 _ _ _ _ _ _)
      | (with_reducible exact extra_Decode.mono _ _)
      | (with_reducible exact LeO.refl _)
      | (with_reducible exact LeO.none _)
      | (with_reducible refine LeO.ite ?_ ?_)
      | (with_reducible refine LeO.bind ?_ (fun _ => ?_))
      | exact ih0 _ _ _ _ _ _
      | exact extra_Decode.mono _ _
      | exact LeO.none _
      | refine LeO.ite ?_ ?_
      | refine LeO.bind ?_ (fun _ => ?_)
set_option maxHeartbeats 8000000 in
set_option maxRecDepth 100000 in
theorem posthornlaw19_ExtraCodeBack.calls (k : Nat) (A0 : Option Addr) (c0 : Nat) (l0 : List Int) (r : Bool) (w : World) (hr0 : Kd.C (Kd.int .u8) w A0 l0.length l0) (hc0 : l0.length ≤ c0) (h : posthornlaw19_ExtraCodeBack.f k l0 = some r) (hr_ : Aside0 (r = true) := by first | exact ⟨rfl⟩ | assumption) (hG : Ex.Glob w) :
    Calls Tryd.prog 4 #[.slice A0 l0.length c0] w fun e w' => e = .returned (.bool r) ∧ Below w.heap.size w w' := by
  have HR0 := Aside0.mk hr0
  have HC0 := Aside0.mk hc0
  clear hr0 hc0
  have HB := Aside0.mk (Below.refl w.heap.size w)
  have HG := Aside0.mk hG
  clear hG
  have H : (if (l0.length : Int) > 1000 then ((posthornlaw19_alive.f).bind fun t255 => (some t255)) else ((extra_Code.f l0).bind fun t256 => ((extra_Decode.f k t256).bind fun bt257 => (posthornlaw19_ExtraCodeBack.l0 k l0 t256 bt257.1 bt257.2 0 0)))) = some r := h
  clear h
  by_cases c2 : (l0.length : Int) > 1000
  · rw [if_pos c2] at H
    have c2b0 : decide (1000 < (l0.length : Int)) = true := decide_eq_true c2
    have c2b1 : decide (1000 < l0.length) = true := decide_eq_true (by omega)
    clear c2
    replace H := Option.bind_eq_some_iff.mp H
    obtain ⟨t255, A30, H⟩ := H
    replace H : (some t255) = some r := H
    have A3 := Aside0.mk A30
    clear A30
    obtain rfl := Option.some.inj H
    go_enter Tryd.func4, Tryd.ntmps4
    go_wp2_with (first | ((with_reducible refine gate_callee (f := 5) rfl ?_); refine goesL_ (some 12) rfl rfl Tryd.func5 (by kernel_rfl) rfl #[] rfl (by (try simp only [List.map_toArray, List.map_cons, List.map_nil]); first | done | rfl | (simp only [List.length_drop, List.length_take]; rfl)) ?_; (with_reducible refine (posthornlaw19_alive.calls  t255 _ A3.out).mono ?_); rintro e w4 ⟨rfl, hb⟩; refine ⟨_, rfl, ?_⟩; have n0_ := Aside0.mk (below_step (by repeat (first | (with_reducible first | exact HB.out | apply below_alloc | apply pw_below_drewN | apply below_drew1) | exact HB.out)) hb); clear HB; have HB := n0_; clear n0_; (try clear hb); (try clear hb2); (try clear hk); (try clear hi)))
    go_ret
    exact ⟨by first | rfl | (simp [errW_none, errW_some] <;> rfl) | (simp [*, errW_none, errW_some] <;> rfl), by repeat (first | (with_reducible first | exact HB.out | apply below_alloc | apply pw_below_drewN | apply below_drew1) | exact HB.out)⟩
  · rw [if_neg c2] at H
    have c2b0 : decide (1000 < (l0.length : Int)) = false := decide_eq_false c2
    have c2b1 : decide (1000 < l0.length) = false := decide_eq_false (by omega)
    clear c2
    replace H := Option.bind_eq_some_iff.mp H
    obtain ⟨t256, A50, H⟩ := H
    replace H : ((extra_Decode.f k t256).bind fun bt257 => (posthornlaw19_ExtraCodeBack.l0 k l0 t256 bt257.1 bt257.2 0 0)) = some r := H
    have A5 := Aside0.mk A50
    clear A50
    replace H := Option.bind_eq_some_iff.mp H
    obtain ⟨⟨t257, t258⟩, A60, H⟩ := H
    replace H : (posthornlaw19_ExtraCodeBack.l0 k l0 t256 t257 t258 0 0) = some r := H
    have A6 := Aside0.mk A60
    clear A60
    have H' := Aside0.mk H
    clear H
    go_enter Tryd.func4, Tryd.ntmps4
    go_wp2_with (first | ((with_reducible refine gate_callee (f := 8) rfl ?_); refine goesL_ (some 14) rfl rfl Tryd.func8 (by kernel_rfl) rfl #[.slice A0 l0.length c0] rfl (by (try simp only [List.map_toArray, List.map_cons, List.map_nil]); first | done | rfl | (simp only [List.length_drop, List.length_take]; rfl)) ?_; (with_reducible refine (extra_Code.calls _ _ l0 t256 _ ?side1 ?side2 A5.out).mono ?_); (case side1 => repeat (first | exact HR0.out | (with_reducible refine Kd.C_alloc ?_ _) | (with_reducible refine Kd.C_drewN ?_ _) | (with_reducible refine Kd.C_drew ?_))); (case side2 => exact HC0.out); rintro e w7 ⟨rfl, hb⟩; refine ⟨_, rfl, ?_⟩; have n0_ := Aside0.mk (below_step (by repeat (first | (with_reducible first | exact HB.out | apply below_alloc | apply pw_below_drewN | apply below_drew1) | exact HB.out)) hb); clear HB; have HB := n0_; clear n0_; (try clear hb); (try clear hb2); (try clear hk); (try clear hi)) | ((with_reducible refine gate_callee (f := 6) rfl ?_); refine goesL_ (some 17) rfl rfl Tryd.func6 (by kernel_rfl) rfl #[.string t256] rfl (by (try simp only [List.map_toArray, List.map_cons, List.map_nil]); first | done | rfl | (simp only [List.length_drop, List.length_take]; rfl)) ?_; (with_reducible refine (extra_Decode.calls k t256 t257 t258 _ A6.out).mono ?_); rintro e w8 ⟨v259, rfl, ho0, hb⟩; refine ⟨_, rfl, ?_⟩; have n0_ := Aside0.mk (Kd.R_lower ho0 (below_size (by repeat (first | (with_reducible first | exact HB.out | apply below_alloc | apply pw_below_drewN | apply below_drew1) | exact HB.out)))); have n1_ := Aside0.mk (below_step (by repeat (first | (with_reducible first | exact HB.out | apply below_alloc | apply pw_below_drewN | apply below_drew1) | exact HB.out)) hb); clear HB; have HO260 := n0_; have HB := n1_; clear n0_ n1_; (try clear hb); (try clear hb2); (try clear hk); (try clear hi); (try clear ho0)))
    go_loopg [6, 7] k (fun kq v6 v7 w' => ∃ (x6_1 : Int) (x7_1 : Int), v6 = .int .i64 x6_1 ∧ v7 = .int .i64 x7_1 ∧ Aside0 (posthornlaw19_ExtraCodeBack.l0 kq l0 t256 t257 t258 x6_1 x7_1 = some r) ∧ Aside0 (kq ≤ k) ∧ Aside0 (Kd.R (Kd.int .u8) 5 w' w.heap.size (fun _ => True) v259 t257) ∧ Aside0 (Below w.heap.size w w'))
    case atStart => exact ⟨(0), (0), (by first | rfl | (simp; done) | (simp [*]; done)), (by first | rfl | (simp; done) | (simp [*]; done)), H', ⟨Nat.le_refl _⟩, ⟨by (with_reducible repeat (first | apply Kd.R_alloc | apply Kd.R_drewN | apply Kd.R_drew)); exact HO260.out⟩, ⟨by repeat (first | (with_reducible first | exact HB.out | apply below_alloc | apply pw_below_drewN | apply below_drew1) | exact HB.out)⟩⟩
    case round =>
      clear H'
      try clear c2
      try clear c2b0
      try clear c2b1
      try clear p2
      try clear c4
      try clear c5
      try clear c6
      try clear c8
      obtain ⟨x6_1, x7_1, rfl, rfl, HA, HK1, HO_4, HB⟩ := hrel
      cases gk with
      | zero => exact absurd HA.out (by simp [posthornlaw19_ExtraCodeBack.l0])
      | succ k1 =>
        have H := HA.out
        clear HA
        simp only [posthornlaw19_ExtraCodeBack.l0] at H
        by_cases c9 : x7_1 < (t256.size : Int)
        · rw [if_pos c9] at H
          have c9b0 : decide (x7_1 < (t256.size : Int)) = true := decide_eq_true c9
          clear c9
          by_cases c10 : 0 ≤ x7_1
          · rw [if_pos c10] at H
            have c10b0 : decide (0 ≤ x7_1) = true := decide_eq_true c10
            clear c10
            by_cases c12 : (bt t256 x7_1) = 37
            · rw [if_pos c12] at H
              have c12b0 : ((bt t256 x7_1) == 37) = true := beq_iff_eq.mpr c12
              have c12b1 : ((bt t256 x7_1) != 37) = false := bne_eq_false_iff_eq.mpr c12
              clear c12
              by_cases c13 : (bt t256 x7_1) ≥ 97
              · rw [if_pos c13] at H
                have c13b0 : decide (97 ≤ (bt t256 x7_1)) = true := decide_eq_true c13
                clear c13
                by_cases c14 : (bt t256 x7_1) ≤ 122
                · rw [if_pos c14] at H
                  have c14b0 : decide ((bt t256 x7_1) ≤ 122) = true := decide_eq_true c14
                  clear c14
                  have H' := Aside0.mk H
                  clear H
                  have p11 : 0 ≤ (x7_1 : Int) := of_decide_eq_true (by first | (with_reducible assumption) | assumption)
                  have q11 : x7_1 < (t256.size : Int) := of_decide_eq_true (by first | (with_reducible assumption) | assumption)
                  have hx11 := bt_at t256 x7_1
                  replace p11 := eq_true p11
                  replace q11 := eq_true q11
                  go_wp2
                  go_roundg k1
                  case measure => have := HK1.out; omega
                  case rel => exact ⟨(wrap64 (x6_1 + 1)), (wrap64 (x7_1 + 1)), (by first | rfl | (simp; done) | (simp [*]; done)), (by first | rfl | (simp; done) | (simp [*]; done)), H', ⟨by have := HK1.out; omega⟩, ⟨by (with_reducible repeat (first | apply Kd.R_alloc | apply Kd.R_drewN | apply Kd.R_drew)); exact HO_4.out⟩, ⟨by repeat (first | (with_reducible first | exact HB.out | apply below_alloc | apply pw_below_drewN | apply below_drew1) | exact HB.out)⟩⟩
                · rw [if_neg c14] at H
                  have c14b0 : decide ((bt t256 x7_1) ≤ 122) = false := decide_eq_false c14
                  clear c14
                  by_cases c15 : (bt t256 x7_1) ≥ 65
                  · rw [if_pos c15] at H
                    have c15b0 : decide (65 ≤ (bt t256 x7_1)) = true := decide_eq_true c15
                    clear c15
                    by_cases c16 : (bt t256 x7_1) ≤ 90
                    · rw [if_pos c16] at H
                      have c16b0 : decide ((bt t256 x7_1) ≤ 90) = true := decide_eq_true c16
                      clear c16
                      have H' := Aside0.mk H
                      clear H
                      have p11 : 0 ≤ (x7_1 : Int) := of_decide_eq_true (by first | (with_reducible assumption) | assumption)
                      have q11 : x7_1 < (t256.size : Int) := of_decide_eq_true (by first | (with_reducible assumption) | assumption)
                      have hx11 := bt_at t256 x7_1
                      replace p11 := eq_true p11
                      replace q11 := eq_true q11
                      go_wp2
                      go_roundg k1
                      case measure => have := HK1.out; omega
                      case rel => exact ⟨(wrap64 (x6_1 + 1)), (wrap64 (x7_1 + 1)), (by first | rfl | (simp; done) | (simp [*]; done)), (by first | rfl | (simp; done) | (simp [*]; done)), H', ⟨by have := HK1.out; omega⟩, ⟨by (with_reducible repeat (first | apply Kd.R_alloc | apply Kd.R_drewN | apply Kd.R_drew)); exact HO_4.out⟩, ⟨by repeat (first | (with_reducible first | exact HB.out | apply below_alloc | apply pw_below_drewN | apply below_drew1) | exact HB.out)⟩⟩
                    · rw [if_neg c16] at H
                      have c16b0 : decide ((bt t256 x7_1) ≤ 90) = false := decide_eq_false c16
                      clear c16
                      by_cases c17 : (bt t256 x7_1) ≥ 48
                      · rw [if_pos c17] at H
                        have c17b0 : decide (48 ≤ (bt t256 x7_1)) = true := decide_eq_true c17
                        clear c17
                        by_cases c18 : (bt t256 x7_1) ≤ 57
                        · rw [if_pos c18] at H
                          have c18b0 : decide ((bt t256 x7_1) ≤ 57) = true := decide_eq_true c18
                          clear c18
                          have H' := Aside0.mk H
                          clear H
                          have p11 : 0 ≤ (x7_1 : Int) := of_decide_eq_true (by first | (with_reducible assumption) | assumption)
                          have q11 : x7_1 < (t256.size : Int) := of_decide_eq_true (by first | (with_reducible assumption) | assumption)
                          have hx11 := bt_at t256 x7_1
                          replace p11 := eq_true p11
                          replace q11 := eq_true q11
                          go_wp2
                          go_roundg k1
                          case measure => have := HK1.out; omega
                          case rel => exact ⟨(wrap64 (x6_1 + 1)), (wrap64 (x7_1 + 1)), (by first | rfl | (simp; done) | (simp [*]; done)), (by first | rfl | (simp; done) | (simp [*]; done)), H', ⟨by have := HK1.out; omega⟩, ⟨by (with_reducible repeat (first | apply Kd.R_alloc | apply Kd.R_drewN | apply Kd.R_drew)); exact HO_4.out⟩, ⟨by repeat (first | (with_reducible first | exact HB.out | apply below_alloc | apply pw_below_drewN | apply below_drew1) | exact HB.out)⟩⟩
                        · rw [if_neg c18] at H
                          have c18b0 : decide ((bt t256 x7_1) ≤ 57) = false := decide_eq_false c18
                          clear c18
                          by_cases c19 : (bt t256 x7_1) = 45
                          · rw [if_pos c19] at H
                            have c19b0 : ((bt t256 x7_1) == 45) = true := beq_iff_eq.mpr c19
                            have c19b1 : ((bt t256 x7_1) != 45) = false := bne_eq_false_iff_eq.mpr c19
                            clear c19
                            have H' := Aside0.mk H
                            clear H
                            have p11 : 0 ≤ (x7_1 : Int) := of_decide_eq_true (by first | (with_reducible assumption) | assumption)
                            have q11 : x7_1 < (t256.size : Int) := of_decide_eq_true (by first | (with_reducible assumption) | assumption)
                            have hx11 := bt_at t256 x7_1
                            replace p11 := eq_true p11
                            replace q11 := eq_true q11
                            go_wp2
                            go_roundg k1
                            case measure => have := HK1.out; omega
                            case rel => exact ⟨(wrap64 (x6_1 + 1)), (wrap64 (x7_1 + 1)), (by first | rfl | (simp; done) | (simp [*]; done)), (by first | rfl | (simp; done) | (simp [*]; done)), H', ⟨by have := HK1.out; omega⟩, ⟨by (with_reducible repeat (first | apply Kd.R_alloc | apply Kd.R_drewN | apply Kd.R_drew)); exact HO_4.out⟩, ⟨by repeat (first | (with_reducible first | exact HB.out | apply below_alloc | apply pw_below_drewN | apply below_drew1) | exact HB.out)⟩⟩
                          · rw [if_neg c19] at H
                            have c19b0 : ((bt t256 x7_1) == 45) = false := beq_eq_false_iff_ne.mpr c19
                            have c19b1 : ((bt t256 x7_1) != 45) = true := bne_iff_ne.mpr c19
                            by_cases c20 : (bt t256 x7_1) = 46
                            · rw [if_pos c20] at H
                              have c20b0 : ((bt t256 x7_1) == 46) = true := beq_iff_eq.mpr c20
                              have c20b1 : ((bt t256 x7_1) != 46) = false := bne_eq_false_iff_eq.mpr c20
                              clear c20
                              have H' := Aside0.mk H
                              clear H
                              have p11 : 0 ≤ (x7_1 : Int) := of_decide_eq_true (by first | (with_reducible assumption) | assumption)
                              have q11 : x7_1 < (t256.size : Int) := of_decide_eq_true (by first | (with_reducible assumption) | assumption)
                              have hx11 := bt_at t256 x7_1
                              replace p11 := eq_true p11
                              replace q11 := eq_true q11
                              go_wp2
                              go_roundg k1
                              case measure => have := HK1.out; omega
                              case rel => exact ⟨(wrap64 (x6_1 + 1)), (wrap64 (x7_1 + 1)), (by first | rfl | (simp; done) | (simp [*]; done)), (by first | rfl | (simp; done) | (simp [*]; done)), H', ⟨by have := HK1.out; omega⟩, ⟨by (with_reducible repeat (first | apply Kd.R_alloc | apply Kd.R_drewN | apply Kd.R_drew)); exact HO_4.out⟩, ⟨by repeat (first | (with_reducible first | exact HB.out | apply below_alloc | apply pw_below_drewN | apply below_drew1) | exact HB.out)⟩⟩
                            · rw [if_neg c20] at H
                              have c20b0 : ((bt t256 x7_1) == 46) = false := beq_eq_false_iff_ne.mpr c20
                              have c20b1 : ((bt t256 x7_1) != 46) = true := bne_iff_ne.mpr c20
                              by_cases c21 : (bt t256 x7_1) = 95
                              · rw [if_pos c21] at H
                                have c21b0 : ((bt t256 x7_1) == 95) = true := beq_iff_eq.mpr c21
                                have c21b1 : ((bt t256 x7_1) != 95) = false := bne_eq_false_iff_eq.mpr c21
                                clear c21
                                have H' := Aside0.mk H
                                clear H
                                have p11 : 0 ≤ (x7_1 : Int) := of_decide_eq_true (by first | (with_reducible assumption) | assumption)
                                have q11 : x7_1 < (t256.size : Int) := of_decide_eq_true (by first | (with_reducible assumption) | assumption)
                                have hx11 := bt_at t256 x7_1
                                replace p11 := eq_true p11
                                replace q11 := eq_true q11
                                go_wp2
                                go_roundg k1
                                case measure => have := HK1.out; omega
                                case rel => exact ⟨(wrap64 (x6_1 + 1)), (wrap64 (x7_1 + 1)), (by first | rfl | (simp; done) | (simp [*]; done)), (by first | rfl | (simp; done) | (simp [*]; done)), H', ⟨by have := HK1.out; omega⟩, ⟨by (with_reducible repeat (first | apply Kd.R_alloc | apply Kd.R_drewN | apply Kd.R_drew)); exact HO_4.out⟩, ⟨by repeat (first | (with_reducible first | exact HB.out | apply below_alloc | apply pw_below_drewN | apply below_drew1) | exact HB.out)⟩⟩
                              · rw [if_neg c21] at H
                                have c21b0 : ((bt t256 x7_1) == 95) = false := beq_eq_false_iff_ne.mpr c21
                                have c21b1 : ((bt t256 x7_1) != 95) = true := bne_iff_ne.mpr c21
                                by_cases c22 : ((bt t256 x7_1) = 37)
                                · rw [if_pos c22] at H
                                  have c22b0 : ((bt t256 x7_1) == 37) = true := beq_iff_eq.mpr c22
                                  have c22b1 : ((bt t256 x7_1) != 37) = false := bne_eq_false_iff_eq.mpr c22
                                  clear c22
                                  have H' := Aside0.mk H
                                  clear H
                                  have p11 : 0 ≤ (x7_1 : Int) := of_decide_eq_true (by first | (with_reducible assumption) | assumption)
                                  have q11 : x7_1 < (t256.size : Int) := of_decide_eq_true (by first | (with_reducible assumption) | assumption)
                                  have hx11 := bt_at t256 x7_1
                                  replace p11 := eq_true p11
                                  replace q11 := eq_true q11
                                  go_wp2
                                  go_roundg k1
                                  case measure => have := HK1.out; omega
                                  case rel => exact ⟨(wrap64 (x6_1 + 1)), (wrap64 (x7_1 + 1)), (by first | rfl | (simp; done) | (simp [*]; done)), (by first | rfl | (simp; done) | (simp [*]; done)), H', ⟨by have := HK1.out; omega⟩, ⟨by (with_reducible repeat (first | apply Kd.R_alloc | apply Kd.R_drewN | apply Kd.R_drew)); exact HO_4.out⟩, ⟨by repeat (first | (with_reducible first | exact HB.out | apply below_alloc | apply pw_below_drewN | apply below_drew1) | exact HB.out)⟩⟩
                                · rw [if_neg c22] at H
                                  have c22b0 : ((bt t256 x7_1) == 37) = false := beq_eq_false_iff_ne.mpr c22
                                  have c22b1 : ((bt t256 x7_1) != 37) = true := bne_iff_ne.mpr c22
                                  exact absurd (Option.some.inj H) (by rw [hr_.out]; decide)
                      · rw [if_neg c17] at H
                        have c17b0 : decide (48 ≤ (bt t256 x7_1)) = false := decide_eq_false c17
                        clear c17
                        by_cases c23 : (bt t256 x7_1) = 45
                        · rw [if_pos c23] at H
                          have c23b0 : ((bt t256 x7_1) == 45) = true := beq_iff_eq.mpr c23
                          have c23b1 : ((bt t256 x7_1) != 45) = false := bne_eq_false_iff_eq.mpr c23
                          clear c23
                          have H' := Aside0.mk H
                          clear H
                          have p11 : 0 ≤ (x7_1 : Int) := of_decide_eq_true (by first | (with_reducible assumption) | assumption)
                          have q11 : x7_1 < (t256.size : Int) := of_decide_eq_true (by first | (with_reducible assumption) | assumption)
                          have hx11 := bt_at t256 x7_1
                          replace p11 := eq_true p11
                          replace q11 := eq_true q11
                          go_wp2
                          go_roundg k1
                          case measure => have := HK1.out; omega
                          case rel => exact ⟨(wrap64 (x6_1 + 1)), (wrap64 (x7_1 + 1)), (by first | rfl | (simp; done) | (simp [*]; done)), (by first | rfl | (simp; done) | (simp [*]; done)), H', ⟨by have := HK1.out; omega⟩, ⟨by (with_reducible repeat (first | apply Kd.R_alloc | apply Kd.R_drewN | apply Kd.R_drew)); exact HO_4.out⟩, ⟨by repeat (first | (with_reducible first | exact HB.out | apply below_alloc | apply pw_below_drewN | apply below_drew1) | exact HB.out)⟩⟩
                        · rw [if_neg c23] at H
                          have c23b0 : ((bt t256 x7_1) == 45) = false := beq_eq_false_iff_ne.mpr c23
                          have c23b1 : ((bt t256 x7_1) != 45) = true := bne_iff_ne.mpr c23
                          by_cases c24 : (bt t256 x7_1) = 46
                          · rw [if_pos c24] at H
                            have c24b0 : ((bt t256 x7_1) == 46) = true := beq_iff_eq.mpr c24
                            have c24b1 : ((bt t256 x7_1) != 46) = false := bne_eq_false_iff_eq.mpr c24
                            clear c24
                            have H' := Aside0.mk H
                            clear H
                            have p11 : 0 ≤ (x7_1 : Int) := of_decide_eq_true (by first | (with_reducible assumption) | assumption)
                            have q11 : x7_1 < (t256.size : Int) := of_decide_eq_true (by first | (with_reducible assumption) | assumption)
                            have hx11 := bt_at t256 x7_1
                            replace p11 := eq_true p11
                            replace q11 := eq_true q11
                            go_wp2
                            go_roundg k1
                            case measure => have := HK1.out; omega
                            case rel => exact ⟨(wrap64 (x6_1 + 1)), (wrap64 (x7_1 + 1)), (by first | rfl | (simp; done) | (simp [*]; done)), (by first | rfl | (simp; done) | (simp [*]; done)), H', ⟨by have := HK1.out; omega⟩, ⟨by (with_reducible repeat (first | apply Kd.R_alloc | apply Kd.R_drewN | apply Kd.R_drew)); exact HO_4.out⟩, ⟨by repeat (first | (with_reducible first | exact HB.out | apply below_alloc | apply pw_below_drewN | apply below_drew1) | exact HB.out)⟩⟩
                          · rw [if_neg c24] at H
                            have c24b0 : ((bt t256 x7_1) == 46) = false := beq_eq_false_iff_ne.mpr c24
                            have c24b1 : ((bt t256 x7_1) != 46) = true := bne_iff_ne.mpr c24
                            by_cases c25 : (bt t256 x7_1) = 95
                            · rw [if_pos c25] at H
                              have c25b0 : ((bt t256 x7_1) == 95) = true := beq_iff_eq.mpr c25
                              have c25b1 : ((bt t256 x7_1) != 95) = false := bne_eq_false_iff_eq.mpr c25
                              clear c25
                              have H' := Aside0.mk H
                              clear H
                              have p11 : 0 ≤ (x7_1 : Int) := of_decide_eq_true (by first | (with_reducible assumption) | assumption)
                              have q11 : x7_1 < (t256.size : Int) := of_decide_eq_true (by first | (with_reducible assumption) | assumption)
                              have hx11 := bt_at t256 x7_1
                              replace p11 := eq_true p11
                              replace q11 := eq_true q11
                              go_wp2
                              go_roundg k1
                              case measure => have := HK1.out; omega
                              case rel => exact ⟨(wrap64 (x6_1 + 1)), (wrap64 (x7_1 + 1)), (by first | rfl | (simp; done) | (simp [*]; done)), (by first | rfl | (simp; done) | (simp [*]; done)), H', ⟨by have := HK1.out; omega⟩, ⟨by (with_reducible repeat (first | apply Kd.R_alloc | apply Kd.R_drewN | apply Kd.R_drew)); exact HO_4.out⟩, ⟨by repeat (first | (with_reducible first | exact HB.out | apply below_alloc | apply pw_below_drewN | apply below_drew1) | exact HB.out)⟩⟩
                            · rw [if_neg c25] at H
                              have c25b0 : ((bt t256 x7_1) == 95) = false := beq_eq_false_iff_ne.mpr c25
                              have c25b1 : ((bt t256 x7_1) != 95) = true := bne_iff_ne.mpr c25
                              by_cases c26 : ((bt t256 x7_1) = 37)
                              · rw [if_pos c26] at H
                                have c26b0 : ((bt t256 x7_1) == 37) = true := beq_iff_eq.mpr c26
                                have c26b1 : ((bt t256 x7_1) != 37) = false := bne_eq_false_iff_eq.mpr c26
                                clear c26
                                have H' := Aside0.mk H
                                clear H
                                have p11 : 0 ≤ (x7_1 : Int) := of_decide_eq_true (by first | (with_reducible assumption) | assumption)
                                have q11 : x7_1 < (t256.size : Int) := of_decide_eq_true (by first | (with_reducible assumption) | assumption)
                                have hx11 := bt_at t256 x7_1
                                replace p11 := eq_true p11
                                replace q11 := eq_true q11
                                go_wp2
                                go_roundg k1
                                case measure => have := HK1.out; omega
                                case rel => exact ⟨(wrap64 (x6_1 + 1)), (wrap64 (x7_1 + 1)), (by first | rfl | (simp; done) | (simp [*]; done)), (by first | rfl | (simp; done) | (simp [*]; done)), H', ⟨by have := HK1.out; omega⟩, ⟨by (with_reducible repeat (first | apply Kd.R_alloc | apply Kd.R_drewN | apply Kd.R_drew)); exact HO_4.out⟩, ⟨by repeat (first | (with_reducible first | exact HB.out | apply below_alloc | apply pw_below_drewN | apply below_drew1) | exact HB.out)⟩⟩
                              · rw [if_neg c26] at H
                                have c26b0 : ((bt t256 x7_1) == 37) = false := beq_eq_false_iff_ne.mpr c26
                                have c26b1 : ((bt t256 x7_1) != 37) = true := bne_iff_ne.mpr c26
                                exact absurd (Option.some.inj H) (by rw [hr_.out]; decide)
                  · rw [if_neg c15] at H
                    have c15b0 : decide (65 ≤ (bt t256 x7_1)) = false := decide_eq_false c15
                    clear c15
                    by_cases c27 : (bt t256 x7_1) ≥ 48
                    · rw [if_pos c27] at H
                      have c27b0 : decide (48 ≤ (bt t256 x7_1)) = true := decide_eq_true c27
                      clear c27
                      by_cases c28 : (bt t256 x7_1) ≤ 57
                      · rw [if_pos c28] at H
                        have c28b0 : decide ((bt t256 x7_1) ≤ 57) = true := decide_eq_true c28
                        clear c28
                        have H' := Aside0.mk H
                        clear H
                        have p11 : 0 ≤ (x7_1 : Int) := of_decide_eq_true (by first | (with_reducible assumption) | assumption)
                        have q11 : x7_1 < (t256.size : Int) := of_decide_eq_true (by first | (with_reducible assumption) | assumption)
                        have hx11 := bt_at t256 x7_1
                        replace p11 := eq_true p11
                        replace q11 := eq_true q11
                        go_wp2
                        go_roundg k1
                        case measure => have := HK1.out; omega
                        case rel => exact ⟨(wrap64 (x6_1 + 1)), (wrap64 (x7_1 + 1)), (by first | rfl | (simp; done) | (simp [*]; done)), (by first | rfl | (simp; done) | (simp [*]; done)), H', ⟨by have := HK1.out; omega⟩, ⟨by (with_reducible repeat (first | apply Kd.R_alloc | apply Kd.R_drewN | apply Kd.R_drew)); exact HO_4.out⟩, ⟨by repeat (first | (with_reducible first | exact HB.out | apply below_alloc | apply pw_below_drewN | apply below_drew1) | exact HB.out)⟩⟩
                      · rw [if_neg c28] at H
                        have c28b0 : decide ((bt t256 x7_1) ≤ 57) = false := decide_eq_false c28
                        clear c28
                        by_cases c29 : (bt t256 x7_1) = 45
                        · rw [if_pos c29] at H
                          have c29b0 : ((bt t256 x7_1) == 45) = true := beq_iff_eq.mpr c29
                          have c29b1 : ((bt t256 x7_1) != 45) = false := bne_eq_false_iff_eq.mpr c29
                          clear c29
                          have H' := Aside0.mk H
                          clear H
                          have p11 : 0 ≤ (x7_1 : Int) := of_decide_eq_true (by first | (with_reducible assumption) | assumption)
                          have q11 : x7_1 < (t256.size : Int) := of_decide_eq_true (by first | (with_reducible assumption) | assumption)
                          have hx11 := bt_at t256 x7_1
                          replace p11 := eq_true p11
                          replace q11 := eq_true q11
                          go_wp2
                          go_roundg k1
                          case measure => have := HK1.out; omega
                          case rel => exact ⟨(wrap64 (x6_1 + 1)), (wrap64 (x7_1 + 1)), (by first | rfl | (simp; done) | (simp [*]; done)), (by first | rfl | (simp; done) | (simp [*]; done)), H', ⟨by have := HK1.out; omega⟩, ⟨by (with_reducible repeat (first | apply Kd.R_alloc | apply Kd.R_drewN | apply Kd.R_drew)); exact HO_4.out⟩, ⟨by repeat (first | (with_reducible first | exact HB.out | apply below_alloc | apply pw_below_drewN | apply below_drew1) | exact HB.out)⟩⟩
                        · rw [if_neg c29] at H
                          have c29b0 : ((bt t256 x7_1) == 45) = false := beq_eq_false_iff_ne.mpr c29
                          have c29b1 : ((bt t256 x7_1) != 45) = true := bne_iff_ne.mpr c29
                          by_cases c30 : (bt t256 x7_1) = 46
                          · rw [if_pos c30] at H
                            have c30b0 : ((bt t256 x7_1) == 46) = true := beq_iff_eq.mpr c30
                            have c30b1 : ((bt t256 x7_1) != 46) = false := bne_eq_false_iff_eq.mpr c30
                            clear c30
                            have H' := Aside0.mk H
                            clear H
                            have p11 : 0 ≤ (x7_1 : Int) := of_decide_eq_true (by first | (with_reducible assumption) | assumption)
                            have q11 : x7_1 < (t256.size : Int) := of_decide_eq_true (by first | (with_reducible assumption) | assumption)
                            have hx11 := bt_at t256 x7_1
                            replace p11 := eq_true p11
                            replace q11 := eq_true q11
                            go_wp2
                            go_roundg k1
                            case measure => have := HK1.out; omega
                            case rel => exact ⟨(wrap64 (x6_1 + 1)), (wrap64 (x7_1 + 1)), (by first | rfl | (simp; done) | (simp [*]; done)), (by first | rfl | (simp; done) | (simp [*]; done)), H', ⟨by have := HK1.out; omega⟩, ⟨by (with_reducible repeat (first | apply Kd.R_alloc | apply Kd.R_drewN | apply Kd.R_drew)); exact HO_4.out⟩, ⟨by repeat (first | (with_reducible first | exact HB.out | apply below_alloc | apply pw_below_drewN | apply below_drew1) | exact HB.out)⟩⟩
                          · rw [if_neg c30] at H
                            have c30b0 : ((bt t256 x7_1) == 46) = false := beq_eq_false_iff_ne.mpr c30
                            have c30b1 : ((bt t256 x7_1) != 46) = true := bne_iff_ne.mpr c30
                            by_cases c31 : (bt t256 x7_1) = 95
                            · rw [if_pos c31] at H
                              have c31b0 : ((bt t256 x7_1) == 95) = true := beq_iff_eq.mpr c31
                              have c31b1 : ((bt t256 x7_1) != 95) = false := bne_eq_false_iff_eq.mpr c31
                              clear c31
                              have H' := Aside0.mk H
                              clear H
                              have p11 : 0 ≤ (x7_1 : Int) := of_decide_eq_true (by first | (with_reducible assumption) | assumption)
                              have q11 : x7_1 < (t256.size : Int) := of_decide_eq_true (by first | (with_reducible assumption) | assumption)
                              have hx11 := bt_at t256 x7_1
                              replace p11 := eq_true p11
                              replace q11 := eq_true q11
                              go_wp2
                              go_roundg k1
                              case measure => have := HK1.out; omega
                              case rel => exact ⟨(wrap64 (x6_1 + 1)), (wrap64 (x7_1 + 1)), (by first | rfl | (simp; done) | (simp [*]; done)), (by first | rfl | (simp; done) | (simp [*]; done)), H', ⟨by have := HK1.out; omega⟩, ⟨by (with_reducible repeat (first | apply Kd.R_alloc | apply Kd.R_drewN | apply Kd.R_drew)); exact HO_4.out⟩, ⟨by repeat (first | (with_reducible first | exact HB.out | apply below_alloc | apply pw_below_drewN | apply below_drew1) | exact HB.out)⟩⟩
                            · rw [if_neg c31] at H
                              have c31b0 : ((bt t256 x7_1) == 95) = false := beq_eq_false_iff_ne.mpr c31
                              have c31b1 : ((bt t256 x7_1) != 95) = true := bne_iff_ne.mpr c31
                              by_cases c32 : ((bt t256 x7_1) = 37)
                              · rw [if_pos c32] at H
                                have c32b0 : ((bt t256 x7_1) == 37) = true := beq_iff_eq.mpr c32
                                have c32b1 : ((bt t256 x7_1) != 37) = false := bne_eq_false_iff_eq.mpr c32
                                clear c32
                                have H' := Aside0.mk H
                                clear H
                                have p11 : 0 ≤ (x7_1 : Int) := of_decide_eq_true (by first | (with_reducible assumption) | assumption)
                                have q11 : x7_1 < (t256.size : Int) := of_decide_eq_true (by first | (with_reducible assumption) | assumption)
                                have hx11 := bt_at t256 x7_1
                                replace p11 := eq_true p11
                                replace q11 := eq_true q11
                                go_wp2
                                go_roundg k1
                                case measure => have := HK1.out; omega
                                case rel => exact ⟨(wrap64 (x6_1 + 1)), (wrap64 (x7_1 + 1)), (by first | rfl | (simp; done) | (simp [*]; done)), (by first | rfl | (simp; done) | (simp [*]; done)), H', ⟨by have := HK1.out; omega⟩, ⟨by (with_reducible repeat (first | apply Kd.R_alloc | apply Kd.R_drewN | apply Kd.R_drew)); exact HO_4.out⟩, ⟨by repeat (first | (with_reducible first | exact HB.out | apply below_alloc | apply pw_below_drewN | apply below_drew1) | exact HB.out)⟩⟩
                              · rw [if_neg c32] at H
                                have c32b0 : ((bt t256 x7_1) == 37) = false := beq_eq_false_iff_ne.mpr c32
                                have c32b1 : ((bt t256 x7_1) != 37) = true := bne_iff_ne.mpr c32
                                exact absurd (Option.some.inj H) (by rw [hr_.out]; decide)
                    · rw [if_neg c27] at H
                      have c27b0 : decide (48 ≤ (bt t256 x7_1)) = false := decide_eq_false c27
                      clear c27
                      by_cases c33 : (bt t256 x7_1) = 45
                      · rw [if_pos c33] at H
                        have c33b0 : ((bt t256 x7_1) == 45) = true := beq_iff_eq.mpr c33
                        have c33b1 : ((bt t256 x7_1) != 45) = false := bne_eq_false_iff_eq.mpr c33
                        clear c33
                        have H' := Aside0.mk H
                        clear H
                        have p11 : 0 ≤ (x7_1 : Int) := of_decide_eq_true (by first | (with_reducible assumption) | assumption)
                        have q11 : x7_1 < (t256.size : Int) := of_decide_eq_true (by first | (with_reducible assumption) | assumption)
                        have hx11 := bt_at t256 x7_1
                        replace p11 := eq_true p11
                        replace q11 := eq_true q11
                        go_wp2
                        go_roundg k1
                        case measure => have := HK1.out; omega
                        case rel => exact ⟨(wrap64 (x6_1 + 1)), (wrap64 (x7_1 + 1)), (by first | rfl | (simp; done) | (simp [*]; done)), (by first | rfl | (simp; done) | (simp [*]; done)), H', ⟨by have := HK1.out; omega⟩, ⟨by (with_reducible repeat (first | apply Kd.R_alloc | apply Kd.R_drewN | apply Kd.R_drew)); exact HO_4.out⟩, ⟨by repeat (first | (with_reducible first | exact HB.out | apply below_alloc | apply pw_below_drewN | apply below_drew1) | exact HB.out)⟩⟩
                      · rw [if_neg c33] at H
                        have c33b0 : ((bt t256 x7_1) == 45) = false := beq_eq_false_iff_ne.mpr c33
                        have c33b1 : ((bt t256 x7_1) != 45) = true := bne_iff_ne.mpr c33
                        by_cases c34 : (bt t256 x7_1) = 46
                        · rw [if_pos c34] at H
                          have c34b0 : ((bt t256 x7_1) == 46) = true := beq_iff_eq.mpr c34
                          have c34b1 : ((bt t256 x7_1) != 46) = false := bne_eq_false_iff_eq.mpr c34
                          clear c34
                          have H' := Aside0.mk H
                          clear H
                          have p11 : 0 ≤ (x7_1 : Int) := of_decide_eq_true (by first | (with_reducible assumption) | assumption)
                          have q11 : x7_1 < (t256.size : Int) := of_decide_eq_true (by first | (with_reducible assumption) | assumption)
                          have hx11 := bt_at t256 x7_1
                          replace p11 := eq_true p11
                          replace q11 := eq_true q11
                          go_wp2
                          go_roundg k1
                          case measure => have := HK1.out; omega
                          case rel => exact ⟨(wrap64 (x6_1 + 1)), (wrap64 (x7_1 + 1)), (by first | rfl | (simp; done) | (simp [*]; done)), (by first | rfl | (simp; done) | (simp [*]; done)), H', ⟨by have := HK1.out; omega⟩, ⟨by (with_reducible repeat (first | apply Kd.R_alloc | apply Kd.R_drewN | apply Kd.R_drew)); exact HO_4.out⟩, ⟨by repeat (first | (with_reducible first | exact HB.out | apply below_alloc | apply pw_below_drewN | apply below_drew1) | exact HB.out)⟩⟩
                        · rw [if_neg c34] at H
                          have c34b0 : ((bt t256 x7_1) == 46) = false := beq_eq_false_iff_ne.mpr c34
                          have c34b1 : ((bt t256 x7_1) != 46) = true := bne_iff_ne.mpr c34
                          by_cases c35 : (bt t256 x7_1) = 95
                          · rw [if_pos c35] at H
                            have c35b0 : ((bt t256 x7_1) == 95) = true := beq_iff_eq.mpr c35
                            have c35b1 : ((bt t256 x7_1) != 95) = false := bne_eq_false_iff_eq.mpr c35
                            clear c35
                            have H' := Aside0.mk H
                            clear H
                            have p11 : 0 ≤ (x7_1 : Int) := of_decide_eq_true (by first | (with_reducible assumption) | assumption)
                            have q11 : x7_1 < (t256.size : Int) := of_decide_eq_true (by first | (with_reducible assumption) | assumption)
                            have hx11 := bt_at t256 x7_1
                            replace p11 := eq_true p11
                            replace q11 := eq_true q11
                            go_wp2
                            go_roundg k1
                            case measure => have := HK1.out; omega
                            case rel => exact ⟨(wrap64 (x6_1 + 1)), (wrap64 (x7_1 + 1)), (by first | rfl | (simp; done) | (simp [*]; done)), (by first | rfl | (simp; done) | (simp [*]; done)), H', ⟨by have := HK1.out; omega⟩, ⟨by (with_reducible repeat (first | apply Kd.R_alloc | apply Kd.R_drewN | apply Kd.R_drew)); exact HO_4.out⟩, ⟨by repeat (first | (with_reducible first | exact HB.out | apply below_alloc | apply pw_below_drewN | apply below_drew1) | exact HB.out)⟩⟩
                          · rw [if_neg c35] at H
                            have c35b0 : ((bt t256 x7_1) == 95) = false := beq_eq_false_iff_ne.mpr c35
                            have c35b1 : ((bt t256 x7_1) != 95) = true := bne_iff_ne.mpr c35
                            by_cases c36 : ((bt t256 x7_1) = 37)
                            · rw [if_pos c36] at H
                              have c36b0 : ((bt t256 x7_1) == 37) = true := beq_iff_eq.mpr c36
                              have c36b1 : ((bt t256 x7_1) != 37) = false := bne_eq_false_iff_eq.mpr c36
                              clear c36
                              have H' := Aside0.mk H
                              clear H
                              have p11 : 0 ≤ (x7_1 : Int) := of_decide_eq_true (by first | (with_reducible assumption) | assumption)
                              have q11 : x7_1 < (t256.size : Int) := of_decide_eq_true (by first | (with_reducible assumption) | assumption)
                              have hx11 := bt_at t256 x7_1
                              replace p11 := eq_true p11
                              replace q11 := eq_true q11
                              go_wp2
                              go_roundg k1
                              case measure => have := HK1.out; omega
                              case rel => exact ⟨(wrap64 (x6_1 + 1)), (wrap64 (x7_1 + 1)), (by first | rfl | (simp; done) | (simp [*]; done)), (by first | rfl | (simp; done) | (simp [*]; done)), H', ⟨by have := HK1.out; omega⟩, ⟨by (with_reducible repeat (first | apply Kd.R_alloc | apply Kd.R_drewN | apply Kd.R_drew)); exact HO_4.out⟩, ⟨by repeat (first | (with_reducible first | exact HB.out | apply below_alloc | apply pw_below_drewN | apply below_drew1) | exact HB.out)⟩⟩
                            · rw [if_neg c36] at H
                              have c36b0 : ((bt t256 x7_1) == 37) = false := beq_eq_false_iff_ne.mpr c36
                              have c36b1 : ((bt t256 x7_1) != 37) = true := bne_iff_ne.mpr c36
                              exact absurd (Option.some.inj H) (by rw [hr_.out]; decide)
              · rw [if_neg c13] at H
                have c13b0 : decide (97 ≤ (bt t256 x7_1)) = false := decide_eq_false c13
                clear c13
                by_cases c37 : (bt t256 x7_1) ≥ 65
                · rw [if_pos c37] at H
                  have c37b0 : decide (65 ≤ (bt t256 x7_1)) = true := decide_eq_true c37
                  clear c37
                  by_cases c38 : (bt t256 x7_1) ≤ 90
                  · rw [if_pos c38] at H
                    have c38b0 : decide ((bt t256 x7_1) ≤ 90) = true := decide_eq_true c38
                    clear c38
                    have H' := Aside0.mk H
                    clear H
                    have p11 : 0 ≤ (x7_1 : Int) := of_decide_eq_true (by first | (with_reducible assumption) | assumption)
                    have q11 : x7_1 < (t256.size : Int) := of_decide_eq_true (by first | (with_reducible assumption) | assumption)
                    have hx11 := bt_at t256 x7_1
                    replace p11 := eq_true p11
                    replace q11 := eq_true q11
                    go_wp2
                    go_roundg k1
                    case measure => have := HK1.out; omega
                    case rel => exact ⟨(wrap64 (x6_1 + 1)), (wrap64 (x7_1 + 1)), (by first | rfl | (simp; done) | (simp [*]; done)), (by first | rfl | (simp; done) | (simp [*]; done)), H', ⟨by have := HK1.out; omega⟩, ⟨by (with_reducible repeat (first | apply Kd.R_alloc | apply Kd.R_drewN | apply Kd.R_drew)); exact HO_4.out⟩, ⟨by repeat (first | (with_reducible first | exact HB.out | apply below_alloc | apply pw_below_drewN | apply below_drew1) | exact HB.out)⟩⟩
                  · rw [if_neg c38] at H
                    have c38b0 : decide ((bt t256 x7_1) ≤ 90) = false := decide_eq_false c38
                    clear c38
                    by_cases c39 : (bt t256 x7_1) ≥ 48
                    · rw [if_pos c39] at H
                      have c39b0 : decide (48 ≤ (bt t256 x7_1)) = true := decide_eq_true c39
                      clear c39
                      by_cases c40 : (bt t256 x7_1) ≤ 57
                      · rw [if_pos c40] at H
                        have c40b0 : decide ((bt t256 x7_1) ≤ 57) = true := decide_eq_true c40
                        clear c40
                        have H' := Aside0.mk H
                        clear H
                        have p11 : 0 ≤ (x7_1 : Int) := of_decide_eq_true (by first | (with_reducible assumption) | assumption)
                        have q11 : x7_1 < (t256.size : Int) := of_decide_eq_true (by first | (with_reducible assumption) | assumption)
                        have hx11 := bt_at t256 x7_1
                        replace p11 := eq_true p11
                        replace q11 := eq_true q11
                        go_wp2
                        go_roundg k1
                        case measure => have := HK1.out; omega
                        case rel => exact ⟨(wrap64 (x6_1 + 1)), (wrap64 (x7_1 + 1)), (by first | rfl | (simp; done) | (simp [*]; done)), (by first | rfl | (simp; done) | (simp [*]; done)), H', ⟨by have := HK1.out; omega⟩, ⟨by (with_reducible repeat (first | apply Kd.R_alloc | apply Kd.R_drewN | apply Kd.R_drew)); exact HO_4.out⟩, ⟨by repeat (first | (with_reducible first | exact HB.out | apply below_alloc | apply pw_below_drewN | apply below_drew1) | exact HB.out)⟩⟩
                      · rw [if_neg c40] at H
                        have c40b0 : decide ((bt t256 x7_1) ≤ 57) = false := decide_eq_false c40
                        clear c40
                        by_cases c41 : (bt t256 x7_1) = 45
                        · rw [if_pos c41] at H
                          have c41b0 : ((bt t256 x7_1) == 45) = true := beq_iff_eq.mpr c41
                          have c41b1 : ((bt t256 x7_1) != 45) = false := bne_eq_false_iff_eq.mpr c41
                          clear c41
                          have H' := Aside0.mk H
                          clear H
                          have p11 : 0 ≤ (x7_1 : Int) := of_decide_eq_true (by first | (with_reducible assumption) | assumption)
                          have q11 : x7_1 < (t256.size : Int) := of_decide_eq_true (by first | (with_reducible assumption) | assumption)
                          have hx11 := bt_at t256 x7_1
                          replace p11 := eq_true p11
                          replace q11 := eq_true q11
                          go_wp2
                          go_roundg k1
                          case measure => have := HK1.out; omega
                          case rel => exact ⟨(wrap64 (x6_1 + 1)), (wrap64 (x7_1 + 1)), (by first | rfl | (simp; done) | (simp [*]; done)), (by first | rfl | (simp; done) | (simp [*]; done)), H', ⟨by have := HK1.out; omega⟩, ⟨by (with_reducible repeat (first | apply Kd.R_alloc | apply Kd.R_drewN | apply Kd.R_drew)); exact HO_4.out⟩, ⟨by repeat (first | (with_reducible first | exact HB.out | apply below_alloc | apply pw_below_drewN | apply below_drew1) | exact HB.out)⟩⟩
                        · rw [if_neg c41] at H
                          have c41b0 : ((bt t256 x7_1) == 45) = false := beq_eq_false_iff_ne.mpr c41
                          have c41b1 : ((bt t256 x7_1) != 45) = true := bne_iff_ne.mpr c41
                          by_cases c42 : (bt t256 x7_1) = 46
                          · rw [if_pos c42] at H
                            have c42b0 : ((bt t256 x7_1) == 46) = true := beq_iff_eq.mpr c42
                            have c42b1 : ((bt t256 x7_1) != 46) = false := bne_eq_false_iff_eq.mpr c42
                            clear c42
                            have H' := Aside0.mk H
                            clear H
                            have p11 : 0 ≤ (x7_1 : Int) := of_decide_eq_true (by first | (with_reducible assumption) | assumption)
                            have q11 : x7_1 < (t256.size : Int) := of_decide_eq_true (by first | (with_reducible assumption) | assumption)
                            have hx11 := bt_at t256 x7_1
                            replace p11 := eq_true p11
                            replace q11 := eq_true q11
                            go_wp2
                            go_roundg k1
                            case measure => have := HK1.out; omega
                            case rel => exact ⟨(wrap64 (x6_1 + 1)), (wrap64 (x7_1 + 1)), (by first | rfl | (simp; done) | (simp [*]; done)), (by first | rfl | (simp; done) | (simp [*]; done)), H', ⟨by have := HK1.out; omega⟩, ⟨by (with_reducible repeat (first | apply Kd.R_alloc | apply Kd.R_drewN | apply Kd.R_drew)); exact HO_4.out⟩, ⟨by repeat (first | (with_reducible first | exact HB.out | apply below_alloc | apply pw_below_drewN | apply below_drew1) | exact HB.out)⟩⟩
                          · rw [if_neg c42] at H
                            have c42b0 : ((bt t256 x7_1) == 46) = false := beq_eq_false_iff_ne.mpr c42
                            have c42b1 : ((bt t256 x7_1) != 46) = true := bne_iff_ne.mpr c42
                            by_cases c43 : (bt t256 x7_1) = 95
                            · rw [if_pos c43] at H
                              have c43b0 : ((bt t256 x7_1) == 95) = true := beq_iff_eq.mpr c43
                              have c43b1 : ((bt t256 x7_1) != 95) = false := bne_eq_false_iff_eq.mpr c43
                              clear c43
                              have H' := Aside0.mk H
                              clear H
                              have p11 : 0 ≤ (x7_1 : Int) := of_decide_eq_true (by first | (with_reducible assumption) | assumption)
                              have q11 : x7_1 < (t256.size : Int) := of_decide_eq_true (by first | (with_reducible assumption) | assumption)
                              have hx11 := bt_at t256 x7_1
                              replace p11 := eq_true p11
                              replace q11 := eq_true q11
                              go_wp2
                              go_roundg k1
                              case measure => have := HK1.out; omega
                              case rel => exact ⟨(wrap64 (x6_1 + 1)), (wrap64 (x7_1 + 1)), (by first | rfl | (simp; done) | (simp [*]; done)), (by first | rfl | (simp; done) | (simp [*]; done)), H', ⟨by have := HK1.out; omega⟩, ⟨by (with_reducible repeat (first | apply Kd.R_alloc | apply Kd.R_drewN | apply Kd.R_drew)); exact HO_4.out⟩, ⟨by repeat (first | (with_reducible first | exact HB.out | apply below_alloc | apply pw_below_drewN | apply below_drew1) | exact HB.out)⟩⟩
                            · rw [if_neg c43] at H
                              have c43b0 : ((bt t256 x7_1) == 95) = false := beq_eq_false_iff_ne.mpr c43
                              have c43b1 : ((bt t256 x7_1) != 95) = true := bne_iff_ne.mpr c43
                              by_cases c44 : ((bt t256 x7_1) = 37)
                              · rw [if_pos c44] at H
                                have c44b0 : ((bt t256 x7_1) == 37) = true := beq_iff_eq.mpr c44
                                have c44b1 : ((bt t256 x7_1) != 37) = false := bne_eq_false_iff_eq.mpr c44
                                clear c44
                                have H' := Aside0.mk H
                                clear H
                                have p11 : 0 ≤ (x7_1 : Int) := of_decide_eq_true (by first | (with_reducible assumption) | assumption)
                                have q11 : x7_1 < (t256.size : Int) := of_decide_eq_true (by first | (with_reducible assumption) | assumption)
                                have hx11 := bt_at t256 x7_1
                                replace p11 := eq_true p11
                                replace q11 := eq_true q11
                                go_wp2
                                go_roundg k1
                                case measure => have := HK1.out; omega
                                case rel => exact ⟨(wrap64 (x6_1 + 1)), (wrap64 (x7_1 + 1)), (by first | rfl | (simp; done) | (simp [*]; done)), (by first | rfl | (simp; done) | (simp [*]; done)), H', ⟨by have := HK1.out; omega⟩, ⟨by (with_reducible repeat (first | apply Kd.R_alloc | apply Kd.R_drewN | apply Kd.R_drew)); exact HO_4.out⟩, ⟨by repeat (first | (with_reducible first | exact HB.out | apply below_alloc | apply pw_below_drewN | apply below_drew1) | exact HB.out)⟩⟩
                              · rw [if_neg c44] at H
                                have c44b0 : ((bt t256 x7_1) == 37) = false := beq_eq_false_iff_ne.mpr c44
                                have c44b1 : ((bt t256 x7_1) != 37) = true := bne_iff_ne.mpr c44
                                exact absurd (Option.some.inj H) (by rw [hr_.out]; decide)
                    · rw [if_neg c39] at H
                      have c39b0 : decide (48 ≤ (bt t256 x7_1)) = false := decide_eq_false c39
                      clear c39
                      by_cases c45 : (bt t256 x7_1) = 45
                      · rw [if_pos c45] at H
                        have c45b0 : ((bt t256 x7_1) == 45) = true := beq_iff_eq.mpr c45
                        have c45b1 : ((bt t256 x7_1) != 45) = false := bne_eq_false_iff_eq.mpr c45
                        clear c45
                        have H' := Aside0.mk H
                        clear H
                        have p11 : 0 ≤ (x7_1 : Int) := of_decide_eq_true (by first | (with_reducible assumption) | assumption)
                        have q11 : x7_1 < (t256.size : Int) := of_decide_eq_true (by first | (with_reducible assumption) | assumption)
                        have hx11 := bt_at t256 x7_1
                        replace p11 := eq_true p11
                        replace q11 := eq_true q11
                        go_wp2
                        go_roundg k1
                        case measure => have := HK1.out; omega
                        case rel => exact ⟨(wrap64 (x6_1 + 1)), (wrap64 (x7_1 + 1)), (by first | rfl | (simp; done) | (simp [*]; done)), (by first | rfl | (simp; done) | (simp [*]; done)), H', ⟨by have := HK1.out; omega⟩, ⟨by (with_reducible repeat (first | apply Kd.R_alloc | apply Kd.R_drewN | apply Kd.R_drew)); exact HO_4.out⟩, ⟨by repeat (first | (with_reducible first | exact HB.out | apply below_alloc | apply pw_below_drewN | apply below_drew1) | exact HB.out)⟩⟩
                      · rw [if_neg c45] at H
                        have c45b0 : ((bt t256 x7_1) == 45) = false := beq_eq_false_iff_ne.mpr c45
                        have c45b1 : ((bt t256 x7_1) != 45) = true := bne_iff_ne.mpr c45
                        by_cases c46 : (bt t256 x7_1) = 46
                        · rw [if_pos c46] at H
                          have c46b0 : ((bt t256 x7_1) == 46) = true := beq_iff_eq.mpr c46
                          have c46b1 : ((bt t256 x7_1) != 46) = false := bne_eq_false_iff_eq.mpr c46
                          clear c46
                          have H' := Aside0.mk H
                          clear H
                          have p11 : 0 ≤ (x7_1 : Int) := of_decide_eq_true (by first | (with_reducible assumption) | assumption)
                          have q11 : x7_1 < (t256.size : Int) := of_decide_eq_true (by first | (with_reducible assumption) | assumption)
                          have hx11 := bt_at t256 x7_1
                          replace p11 := eq_true p11
                          replace q11 := eq_true q11
                          go_wp2
                          go_roundg k1
                          case measure => have := HK1.out; omega
                          case rel => exact ⟨(wrap64 (x6_1 + 1)), (wrap64 (x7_1 + 1)), (by first | rfl | (simp; done) | (simp [*]; done)), (by first | rfl | (simp; done) | (simp [*]; done)), H', ⟨by have := HK1.out; omega⟩, ⟨by (with_reducible repeat (first | apply Kd.R_alloc | apply Kd.R_drewN | apply Kd.R_drew)); exact HO_4.out⟩, ⟨by repeat (first | (with_reducible first | exact HB.out | apply below_alloc | apply pw_below_drewN | apply below_drew1) | exact HB.out)⟩⟩
                        · rw [if_neg c46] at H
                          have c46b0 : ((bt t256 x7_1) == 46) = false := beq_eq_false_iff_ne.mpr c46
                          have c46b1 : ((bt t256 x7_1) != 46) = true := bne_iff_ne.mpr c46
                          by_cases c47 : (bt t256 x7_1) = 95
                          · rw [if_pos c47] at H
                            have c47b0 : ((bt t256 x7_1) == 95) = true := beq_iff_eq.mpr c47
                            have c47b1 : ((bt t256 x7_1) != 95) = false := bne_eq_false_iff_eq.mpr c47
                            clear c47
                            have H' := Aside0.mk H
                            clear H
                            have p11 : 0 ≤ (x7_1 : Int) := of_decide_eq_true (by first | (with_reducible assumption) | assumption)
                            have q11 : x7_1 < (t256.size : Int) := of_decide_eq_true (by first | (with_reducible assumption) | assumption)
                            have hx11 := bt_at t256 x7_1
                            replace p11 := eq_true p11
                            replace q11 := eq_true q11
                            go_wp2
                            go_roundg k1
                            case measure => have := HK1.out; omega
                            case rel => exact ⟨(wrap64 (x6_1 + 1)), (wrap64 (x7_1 + 1)), (by first | rfl | (simp; done) | (simp [*]; done)), (by first | rfl | (simp; done) | (simp [*]; done)), H', ⟨by have := HK1.out; omega⟩, ⟨by (with_reducible repeat (first | apply Kd.R_alloc | apply Kd.R_drewN | apply Kd.R_drew)); exact HO_4.out⟩, ⟨by repeat (first | (with_reducible first | exact HB.out | apply below_alloc | apply pw_below_drewN | apply below_drew1) | exact HB.out)⟩⟩
                          · rw [if_neg c47] at H
                            have c47b0 : ((bt t256 x7_1) == 95) = false := beq_eq_false_iff_ne.mpr c47
                            have c47b1 : ((bt t256 x7_1) != 95) = true := bne_iff_ne.mpr c47
                            by_cases c48 : ((bt t256 x7_1) = 37)
                            · rw [if_pos c48] at H
                              have c48b0 : ((bt t256 x7_1) == 37) = true := beq_iff_eq.mpr c48
                              have c48b1 : ((bt t256 x7_1) != 37) = false := bne_eq_false_iff_eq.mpr c48
                              clear c48
                              have H' := Aside0.mk H
                              clear H
                              have p11 : 0 ≤ (x7_1 : Int) := of_decide_eq_true (by first | (with_reducible assumption) | assumption)
                              have q11 : x7_1 < (t256.size : Int) := of_decide_eq_true (by first | (with_reducible assumption) | assumption)
                              have hx11 := bt_at t256 x7_1
                              replace p11 := eq_true p11
                              replace q11 := eq_true q11
                              go_wp2
                              go_roundg k1
                              case measure => have := HK1.out; omega
                              case rel => exact ⟨(wrap64 (x6_1 + 1)), (wrap64 (x7_1 + 1)), (by first | rfl | (simp; done) | (simp [*]; done)), (by first | rfl | (simp; done) | (simp [*]; done)), H', ⟨by have := HK1.out; omega⟩, ⟨by (with_reducible repeat (first | apply Kd.R_alloc | apply Kd.R_drewN | apply Kd.R_drew)); exact HO_4.out⟩, ⟨by repeat (first | (with_reducible first | exact HB.out | apply below_alloc | apply pw_below_drewN | apply below_drew1) | exact HB.out)⟩⟩
                            · rw [if_neg c48] at H
                              have c48b0 : ((bt t256 x7_1) == 37) = false := beq_eq_false_iff_ne.mpr c48
                              have c48b1 : ((bt t256 x7_1) != 37) = true := bne_iff_ne.mpr c48
                              exact absurd (Option.some.inj H) (by rw [hr_.out]; decide)
                · rw [if_neg c37] at H
                  have c37b0 : decide (65 ≤ (bt t256 x7_1)) = false := decide_eq_false c37
                  clear c37
                  by_cases c49 : (bt t256 x7_1) ≥ 48
                  · rw [if_pos c49] at H
                    have c49b0 : decide (48 ≤ (bt t256 x7_1)) = true := decide_eq_true c49
                    clear c49
                    by_cases c50 : (bt t256 x7_1) ≤ 57
                    · rw [if_pos c50] at H
                      have c50b0 : decide ((bt t256 x7_1) ≤ 57) = true := decide_eq_true c50
                      clear c50
                      have H' := Aside0.mk H
                      clear H
                      have p11 : 0 ≤ (x7_1 : Int) := of_decide_eq_true (by first | (with_reducible assumption) | assumption)
                      have q11 : x7_1 < (t256.size : Int) := of_decide_eq_true (by first | (with_reducible assumption) | assumption)
                      have hx11 := bt_at t256 x7_1
                      replace p11 := eq_true p11
                      replace q11 := eq_true q11
                      go_wp2
                      go_roundg k1
                      case measure => have := HK1.out; omega
                      case rel => exact ⟨(wrap64 (x6_1 + 1)), (wrap64 (x7_1 + 1)), (by first | rfl | (simp; done) | (simp [*]; done)), (by first | rfl | (simp; done) | (simp [*]; done)), H', ⟨by have := HK1.out; omega⟩, ⟨by (with_reducible repeat (first | apply Kd.R_alloc | apply Kd.R_drewN | apply Kd.R_drew)); exact HO_4.out⟩, ⟨by repeat (first | (with_reducible first | exact HB.out | apply below_alloc | apply pw_below_drewN | apply below_drew1) | exact HB.out)⟩⟩
                    · rw [if_neg c50] at H
                      have c50b0 : decide ((bt t256 x7_1) ≤ 57) = false := decide_eq_false c50
                      clear c50
                      by_cases c51 : (bt t256 x7_1) = 45
                      · rw [if_pos c51] at H
                        have c51b0 : ((bt t256 x7_1) == 45) = true := beq_iff_eq.mpr c51
                        have c51b1 : ((bt t256 x7_1) != 45) = false := bne_eq_false_iff_eq.mpr c51
                        clear c51
                        have H' := Aside0.mk H
                        clear H
                        have p11 : 0 ≤ (x7_1 : Int) := of_decide_eq_true (by first | (with_reducible assumption) | assumption)
                        have q11 : x7_1 < (t256.size : Int) := of_decide_eq_true (by first | (with_reducible assumption) | assumption)
                        have hx11 := bt_at t256 x7_1
                        replace p11 := eq_true p11
                        replace q11 := eq_true q11
                        go_wp2
                        go_roundg k1
                        case measure => have := HK1.out; omega
                        case rel => exact ⟨(wrap64 (x6_1 + 1)), (wrap64 (x7_1 + 1)), (by first | rfl | (simp; done) | (simp [*]; done)), (by first | rfl | (simp; done) | (simp [*]; done)), H', ⟨by have := HK1.out; omega⟩, ⟨by (with_reducible repeat (first | apply Kd.R_alloc | apply Kd.R_drewN | apply Kd.R_drew)); exact HO_4.out⟩, ⟨by repeat (first | (with_reducible first | exact HB.out | apply below_alloc | apply pw_below_drewN | apply below_drew1) | exact HB.out)⟩⟩
                      · rw [if_neg c51] at H
                        have c51b0 : ((bt t256 x7_1) == 45) = false := beq_eq_false_iff_ne.mpr c51
                        have c51b1 : ((bt t256 x7_1) != 45) = true := bne_iff_ne.mpr c51
                        by_cases c52 : (bt t256 x7_1) = 46
                        · rw [if_pos c52] at H
                          have c52b0 : ((bt t256 x7_1) == 46) = true := beq_iff_eq.mpr c52
                          have c52b1 : ((bt t256 x7_1) != 46) = false := bne_eq_false_iff_eq.mpr c52
                          clear c52
                          have H' := Aside0.mk H
                          clear H
                          have p11 : 0 ≤ (x7_1 : Int) := of_decide_eq_true (by first | (with_reducible assumption) | assumption)
                          have q11 : x7_1 < (t256.size : Int) := of_decide_eq_true (by first | (with_reducible assumption) | assumption)
                          have hx11 := bt_at t256 x7_1
                          replace p11 := eq_true p11
                          replace q11 := eq_true q11
                          go_wp2
                          go_roundg k1
                          case measure => have := HK1.out; omega
                          case rel => exact ⟨(wrap64 (x6_1 + 1)), (wrap64 (x7_1 + 1)), (by first | rfl | (simp; done) | (simp [*]; done)), (by first | rfl | (simp; done) | (simp [*]; done)), H', ⟨by have := HK1.out; omega⟩, ⟨by (with_reducible repeat (first | apply Kd.R_alloc | apply Kd.R_drewN | apply Kd.R_drew)); exact HO_4.out⟩, ⟨by repeat (first | (with_reducible first | exact HB.out | apply below_alloc | apply pw_below_drewN | apply below_drew1) | exact HB.out)⟩⟩
                        · rw [if_neg c52] at H
                          have c52b0 : ((bt t256 x7_1) == 46) = false := beq_eq_false_iff_ne.mpr c52
                          have c52b1 : ((bt t256 x7_1) != 46) = true := bne_iff_ne.mpr c52
                          by_cases c53 : (bt t256 x7_1) = 95
                          · rw [if_pos c53] at H
                            have c53b0 : ((bt t256 x7_1) == 95) = true := beq_iff_eq.mpr c53
                            have c53b1 : ((bt t256 x7_1) != 95) = false := bne_eq_false_iff_eq.mpr c53
                            clear c53
                            have H' := Aside0.mk H
                            clear H
                            have p11 : 0 ≤ (x7_1 : Int) := of_decide_eq_true (by first | (with_reducible assumption) | assumption)
                            have q11 : x7_1 < (t256.size : Int) := of_decide_eq_true (by first | (with_reducible assumption) | assumption)
                            have hx11 := bt_at t256 x7_1
                            replace p11 := eq_true p11
                            replace q11 := eq_true q11
                            go_wp2
                            go_roundg k1
                            case measure => have := HK1.out; omega
                            case rel => exact ⟨(wrap64 (x6_1 + 1)), (wrap64 (x7_1 + 1)), (by first | rfl | (simp; done) | (simp [*]; done)), (by first | rfl | (simp; done) | (simp [*]; done)), H', ⟨by have := HK1.out; omega⟩, ⟨by (with_reducible repeat (first | apply Kd.R_alloc | apply Kd.R_drewN | apply Kd.R_drew)); exact HO_4.out⟩, ⟨by repeat (first | (with_reducible first | exact HB.out | apply below_alloc | apply pw_below_drewN | apply below_drew1) | exact HB.out)⟩⟩
                          · rw [if_neg c53] at H
                            have c53b0 : ((bt t256 x7_1) == 95) = false := beq_eq_false_iff_ne.mpr c53
                            have c53b1 : ((bt t256 x7_1) != 95) = true := bne_iff_ne.mpr c53
                            by_cases c54 : ((bt t256 x7_1) = 37)
                            · rw [if_pos c54] at H
                              have c54b0 : ((bt t256 x7_1) == 37) = true := beq_iff_eq.mpr c54
                              have c54b1 : ((bt t256 x7_1) != 37) = false := bne_eq_false_iff_eq.mpr c54
                              clear c54
                              have H' := Aside0.mk H
                              clear H
                              have p11 : 0 ≤ (x7_1 : Int) := of_decide_eq_true (by first | (with_reducible assumption) | assumption)
                              have q11 : x7_1 < (t256.size : Int) := of_decide_eq_true (by first | (with_reducible assumption) | assumption)
                              have hx11 := bt_at t256 x7_1
                              replace p11 := eq_true p11
                              replace q11 := eq_true q11
                              go_wp2
                              go_roundg k1
                              case measure => have := HK1.out; omega
                              case rel => exact ⟨(wrap64 (x6_1 + 1)), (wrap64 (x7_1 + 1)), (by first | rfl | (simp; done) | (simp [*]; done)), (by first | rfl | (simp; done) | (simp [*]; done)), H', ⟨by have := HK1.out; omega⟩, ⟨by (with_reducible repeat (first | apply Kd.R_alloc | apply Kd.R_drewN | apply Kd.R_drew)); exact HO_4.out⟩, ⟨by repeat (first | (with_reducible first | exact HB.out | apply below_alloc | apply pw_below_drewN | apply below_drew1) | exact HB.out)⟩⟩
                            · rw [if_neg c54] at H
                              have c54b0 : ((bt t256 x7_1) == 37) = false := beq_eq_false_iff_ne.mpr c54
                              have c54b1 : ((bt t256 x7_1) != 37) = true := bne_iff_ne.mpr c54
                              exact absurd (Option.some.inj H) (by rw [hr_.out]; decide)
                  · rw [if_neg c49] at H
                    have c49b0 : decide (48 ≤ (bt t256 x7_1)) = false := decide_eq_false c49
                    clear c49
                    by_cases c55 : (bt t256 x7_1) = 45
                    · rw [if_pos c55] at H
                      have c55b0 : ((bt t256 x7_1) == 45) = true := beq_iff_eq.mpr c55
                      have c55b1 : ((bt t256 x7_1) != 45) = false := bne_eq_false_iff_eq.mpr c55
                      clear c55
                      have H' := Aside0.mk H
                      clear H
                      have p11 : 0 ≤ (x7_1 : Int) := of_decide_eq_true (by first | (with_reducible assumption) | assumption)
                      have q11 : x7_1 < (t256.size : Int) := of_decide_eq_true (by first | (with_reducible assumption) | assumption)
                      have hx11 := bt_at t256 x7_1
                      replace p11 := eq_true p11
                      replace q11 := eq_true q11
                      go_wp2
                      go_roundg k1
                      case measure => have := HK1.out; omega
                      case rel => exact ⟨(wrap64 (x6_1 + 1)), (wrap64 (x7_1 + 1)), (by first | rfl | (simp; done) | (simp [*]; done)), (by first | rfl | (simp; done) | (simp [*]; done)), H', ⟨by have := HK1.out; omega⟩, ⟨by (with_reducible repeat (first | apply Kd.R_alloc | apply Kd.R_drewN | apply Kd.R_drew)); exact HO_4.out⟩, ⟨by repeat (first | (with_reducible first | exact HB.out | apply below_alloc | apply pw_below_drewN | apply below_drew1) | exact HB.out)⟩⟩
                    · rw [if_neg c55] at H
                      have c55b0 : ((bt t256 x7_1) == 45) = false := beq_eq_false_iff_ne.mpr c55
                      have c55b1 : ((bt t256 x7_1) != 45) = true := bne_iff_ne.mpr c55
                      by_cases c56 : (bt t256 x7_1) = 46
                      · rw [if_pos c56] at H
                        have c56b0 : ((bt t256 x7_1) == 46) = true := beq_iff_eq.mpr c56
                        have c56b1 : ((bt t256 x7_1) != 46) = false := bne_eq_false_iff_eq.mpr c56
                        clear c56
                        have H' := Aside0.mk H
                        clear H
                        have p11 : 0 ≤ (x7_1 : Int) := of_decide_eq_true (by first | (with_reducible assumption) | assumption)
                        have q11 : x7_1 < (t256.size : Int) := of_decide_eq_true (by first | (with_reducible assumption) | assumption)
                        have hx11 := bt_at t256 x7_1
                        replace p11 := eq_true p11
                        replace q11 := eq_true q11
                        go_wp2
                        go_roundg k1
                        case measure => have := HK1.out; omega
                        case rel => exact ⟨(wrap64 (x6_1 + 1)), (wrap64 (x7_1 + 1)), (by first | rfl | (simp; done) | (simp [*]; done)), (by first | rfl | (simp; done) | (simp [*]; done)), H', ⟨by have := HK1.out; omega⟩, ⟨by (with_reducible repeat (first | apply Kd.R_alloc | apply Kd.R_drewN | apply Kd.R_drew)); exact HO_4.out⟩, ⟨by repeat (first | (with_reducible first | exact HB.out | apply below_alloc | apply pw_below_drewN | apply below_drew1) | exact HB.out)⟩⟩
                      · rw [if_neg c56] at H
                        have c56b0 : ((bt t256 x7_1) == 46) = false := beq_eq_false_iff_ne.mpr c56
                        have c56b1 : ((bt t256 x7_1) != 46) = true := bne_iff_ne.mpr c56
                        by_cases c57 : (bt t256 x7_1) = 95
                        · rw [if_pos c57] at H
                          have c57b0 : ((bt t256 x7_1) == 95) = true := beq_iff_eq.mpr c57
                          have c57b1 : ((bt t256 x7_1) != 95) = false := bne_eq_false_iff_eq.mpr c57
                          clear c57
                          have H' := Aside0.mk H
                          clear H
                          have p11 : 0 ≤ (x7_1 : Int) := of_decide_eq_true (by first | (with_reducible assumption) | assumption)
                          have q11 : x7_1 < (t256.size : Int) := of_decide_eq_true (by first | (with_reducible assumption) | assumption)
                          have hx11 := bt_at t256 x7_1
                          replace p11 := eq_true p11
                          replace q11 := eq_true q11
                          go_wp2
                          go_roundg k1
                          case measure => have := HK1.out; omega
                          case rel => exact ⟨(wrap64 (x6_1 + 1)), (wrap64 (x7_1 + 1)), (by first | rfl | (simp; done) | (simp [*]; done)), (by first | rfl | (simp; done) | (simp [*]; done)), H', ⟨by have := HK1.out; omega⟩, ⟨by (with_reducible repeat (first | apply Kd.R_alloc | apply Kd.R_drewN | apply Kd.R_drew)); exact HO_4.out⟩, ⟨by repeat (first | (with_reducible first | exact HB.out | apply below_alloc | apply pw_below_drewN | apply below_drew1) | exact HB.out)⟩⟩
                        · rw [if_neg c57] at H
                          have c57b0 : ((bt t256 x7_1) == 95) = false := beq_eq_false_iff_ne.mpr c57
                          have c57b1 : ((bt t256 x7_1) != 95) = true := bne_iff_ne.mpr c57
                          by_cases c58 : ((bt t256 x7_1) = 37)
                          · rw [if_pos c58] at H
                            have c58b0 : ((bt t256 x7_1) == 37) = true := beq_iff_eq.mpr c58
                            have c58b1 : ((bt t256 x7_1) != 37) = false := bne_eq_false_iff_eq.mpr c58
                            clear c58
                            have H' := Aside0.mk H
                            clear H
                            have p11 : 0 ≤ (x7_1 : Int) := of_decide_eq_true (by first | (with_reducible assumption) | assumption)
                            have q11 : x7_1 < (t256.size : Int) := of_decide_eq_true (by first | (with_reducible assumption) | assumption)
                            have hx11 := bt_at t256 x7_1
                            replace p11 := eq_true p11
                            replace q11 := eq_true q11
                            go_wp2
                            go_roundg k1
                            case measure => have := HK1.out; omega
                            case rel => exact ⟨(wrap64 (x6_1 + 1)), (wrap64 (x7_1 + 1)), (by first | rfl | (simp; done) | (simp [*]; done)), (by first | rfl | (simp; done) | (simp [*]; done)), H', ⟨by have := HK1.out; omega⟩, ⟨by (with_reducible repeat (first | apply Kd.R_alloc | apply Kd.R_drewN | apply Kd.R_drew)); exact HO_4.out⟩, ⟨by repeat (first | (with_reducible first | exact HB.out | apply below_alloc | apply pw_below_drewN | apply below_drew1) | exact HB.out)⟩⟩
                          · rw [if_neg c58] at H
                            have c58b0 : ((bt t256 x7_1) == 37) = false := beq_eq_false_iff_ne.mpr c58
                            have c58b1 : ((bt t256 x7_1) != 37) = true := bne_iff_ne.mpr c58
                            exact absurd (Option.some.inj H) (by rw [hr_.out]; decide)
            · rw [if_neg c12] at H
              have c12b0 : ((bt t256 x7_1) == 37) = false := beq_eq_false_iff_ne.mpr c12
              have c12b1 : ((bt t256 x7_1) != 37) = true := bne_iff_ne.mpr c12
              by_cases c59 : (bt t256 x7_1) ≥ 97
              · rw [if_pos c59] at H
                have c59b0 : decide (97 ≤ (bt t256 x7_1)) = true := decide_eq_true c59
                clear c59
                by_cases c60 : (bt t256 x7_1) ≤ 122
                · rw [if_pos c60] at H
                  have c60b0 : decide ((bt t256 x7_1) ≤ 122) = true := decide_eq_true c60
                  clear c60
                  have H' := Aside0.mk H
                  clear H
                  have p11 : 0 ≤ (x7_1 : Int) := of_decide_eq_true (by first | (with_reducible assumption) | assumption)
                  have q11 : x7_1 < (t256.size : Int) := of_decide_eq_true (by first | (with_reducible assumption) | assumption)
                  have hx11 := bt_at t256 x7_1
                  replace p11 := eq_true p11
                  replace q11 := eq_true q11
                  go_wp2
                  go_roundg k1
                  case measure => have := HK1.out; omega
                  case rel => exact ⟨(x6_1), (wrap64 (x7_1 + 1)), (by first | rfl | (simp; done) | (simp [*]; done)), (by first | rfl | (simp; done) | (simp [*]; done)), H', ⟨by have := HK1.out; omega⟩, ⟨by (with_reducible repeat (first | apply Kd.R_alloc | apply Kd.R_drewN | apply Kd.R_drew)); exact HO_4.out⟩, ⟨by repeat (first | (with_reducible first | exact HB.out | apply below_alloc | apply pw_below_drewN | apply below_drew1) | exact HB.out)⟩⟩
                · rw [if_neg c60] at H
                  have c60b0 : decide ((bt t256 x7_1) ≤ 122) = false := decide_eq_false c60
                  clear c60
                  by_cases c61 : (bt t256 x7_1) ≥ 65
                  · rw [if_pos c61] at H
                    have c61b0 : decide (65 ≤ (bt t256 x7_1)) = true := decide_eq_true c61
                    clear c61
                    by_cases c62 : (bt t256 x7_1) ≤ 90
                    · rw [if_pos c62] at H
                      have c62b0 : decide ((bt t256 x7_1) ≤ 90) = true := decide_eq_true c62
                      clear c62
                      have H' := Aside0.mk H
                      clear H
                      have p11 : 0 ≤ (x7_1 : Int) := of_decide_eq_true (by first | (with_reducible assumption) | assumption)
                      have q11 : x7_1 < (t256.size : Int) := of_decide_eq_true (by first | (with_reducible assumption) | assumption)
                      have hx11 := bt_at t256 x7_1
                      replace p11 := eq_true p11
                      replace q11 := eq_true q11
                      go_wp2
                      go_roundg k1
                      case measure => have := HK1.out; omega
                      case rel => exact ⟨(x6_1), (wrap64 (x7_1 + 1)), (by first | rfl | (simp; done) | (simp [*]; done)), (by first | rfl | (simp; done) | (simp [*]; done)), H', ⟨by have := HK1.out; omega⟩, ⟨by (with_reducible repeat (first | apply Kd.R_alloc | apply Kd.R_drewN | apply Kd.R_drew)); exact HO_4.out⟩, ⟨by repeat (first | (with_reducible first | exact HB.out | apply below_alloc | apply pw_below_drewN | apply below_drew1) | exact HB.out)⟩⟩
                    · rw [if_neg c62] at H
                      have c62b0 : decide ((bt t256 x7_1) ≤ 90) = false := decide_eq_false c62
                      clear c62
                      by_cases c63 : (bt t256 x7_1) ≥ 48
                      · rw [if_pos c63] at H
                        have c63b0 : decide (48 ≤ (bt t256 x7_1)) = true := decide_eq_true c63
                        clear c63
                        by_cases c64 : (bt t256 x7_1) ≤ 57
                        · rw [if_pos c64] at H
                          have c64b0 : decide ((bt t256 x7_1) ≤ 57) = true := decide_eq_true c64
                          clear c64
                          have H' := Aside0.mk H
                          clear H
                          have p11 : 0 ≤ (x7_1 : Int) := of_decide_eq_true (by first | (with_reducible assumption) | assumption)
                          have q11 : x7_1 < (t256.size : Int) := of_decide_eq_true (by first | (with_reducible assumption) | assumption)
                          have hx11 := bt_at t256 x7_1
                          replace p11 := eq_true p11
                          replace q11 := eq_true q11
                          go_wp2
                          go_roundg k1
                          case measure => have := HK1.out; omega
                          case rel => exact ⟨(x6_1), (wrap64 (x7_1 + 1)), (by first | rfl | (simp; done) | (simp [*]; done)), (by first | rfl | (simp; done) | (simp [*]; done)), H', ⟨by have := HK1.out; omega⟩, ⟨by (with_reducible repeat (first | apply Kd.R_alloc | apply Kd.R_drewN | apply Kd.R_drew)); exact HO_4.out⟩, ⟨by repeat (first | (with_reducible first | exact HB.out | apply below_alloc | apply pw_below_drewN | apply below_drew1) | exact HB.out)⟩⟩
                        · rw [if_neg c64] at H
                          have c64b0 : decide ((bt t256 x7_1) ≤ 57) = false := decide_eq_false c64
                          clear c64
                          by_cases c65 : (bt t256 x7_1) = 45
                          · rw [if_pos c65] at H
                            have c65b0 : ((bt t256 x7_1) == 45) = true := beq_iff_eq.mpr c65
                            have c65b1 : ((bt t256 x7_1) != 45) = false := bne_eq_false_iff_eq.mpr c65
                            clear c65
                            have H' := Aside0.mk H
                            clear H
                            have p11 : 0 ≤ (x7_1 : Int) := of_decide_eq_true (by first | (with_reducible assumption) | assumption)
                            have q11 : x7_1 < (t256.size : Int) := of_decide_eq_true (by first | (with_reducible assumption) | assumption)
                            have hx11 := bt_at t256 x7_1
                            replace p11 := eq_true p11
                            replace q11 := eq_true q11
                            go_wp2
                            go_roundg k1
                            case measure => have := HK1.out; omega
                            case rel => exact ⟨(x6_1), (wrap64 (x7_1 + 1)), (by first | rfl | (simp; done) | (simp [*]; done)), (by first | rfl | (simp; done) | (simp [*]; done)), H', ⟨by have := HK1.out; omega⟩, ⟨by (with_reducible repeat (first | apply Kd.R_alloc | apply Kd.R_drewN | apply Kd.R_drew)); exact HO_4.out⟩, ⟨by repeat (first | (with_reducible first | exact HB.out | apply below_alloc | apply pw_below_drewN | apply below_drew1) | exact HB.out)⟩⟩
                          · rw [if_neg c65] at H
                            have c65b0 : ((bt t256 x7_1) == 45) = false := beq_eq_false_iff_ne.mpr c65
                            have c65b1 : ((bt t256 x7_1) != 45) = true := bne_iff_ne.mpr c65
                            by_cases c66 : (bt t256 x7_1) = 46
                            · rw [if_pos c66] at H
                              have c66b0 : ((bt t256 x7_1) == 46) = true := beq_iff_eq.mpr c66
                              have c66b1 : ((bt t256 x7_1) != 46) = false := bne_eq_false_iff_eq.mpr c66
                              clear c66
                              have H' := Aside0.mk H
                              clear H
                              have p11 : 0 ≤ (x7_1 : Int) := of_decide_eq_true (by first | (with_reducible assumption) | assumption)
                              have q11 : x7_1 < (t256.size : Int) := of_decide_eq_true (by first | (with_reducible assumption) | assumption)
                              have hx11 := bt_at t256 x7_1
                              replace p11 := eq_true p11
                              replace q11 := eq_true q11
                              go_wp2
                              go_roundg k1
                              case measure => have := HK1.out; omega
                              case rel => exact ⟨(x6_1), (wrap64 (x7_1 + 1)), (by first | rfl | (simp; done) | (simp [*]; done)), (by first | rfl | (simp; done) | (simp [*]; done)), H', ⟨by have := HK1.out; omega⟩, ⟨by (with_reducible repeat (first | apply Kd.R_alloc | apply Kd.R_drewN | apply Kd.R_drew)); exact HO_4.out⟩, ⟨by repeat (first | (with_reducible first | exact HB.out | apply below_alloc | apply pw_below_drewN | apply below_drew1) | exact HB.out)⟩⟩
                            · rw [if_neg c66] at H
                              have c66b0 : ((bt t256 x7_1) == 46) = false := beq_eq_false_iff_ne.mpr c66
                              have c66b1 : ((bt t256 x7_1) != 46) = true := bne_iff_ne.mpr c66
                              by_cases c67 : (bt t256 x7_1) = 95
                              · rw [if_pos c67] at H
                                have c67b0 : ((bt t256 x7_1) == 95) = true := beq_iff_eq.mpr c67
                                have c67b1 : ((bt t256 x7_1) != 95) = false := bne_eq_false_iff_eq.mpr c67
                                clear c67
                                have H' := Aside0.mk H
                                clear H
                                have p11 : 0 ≤ (x7_1 : Int) := of_decide_eq_true (by first | (with_reducible assumption) | assumption)
                                have q11 : x7_1 < (t256.size : Int) := of_decide_eq_true (by first | (with_reducible assumption) | assumption)
                                have hx11 := bt_at t256 x7_1
                                replace p11 := eq_true p11
                                replace q11 := eq_true q11
                                go_wp2
                                go_roundg k1
                                case measure => have := HK1.out; omega
                                case rel => exact ⟨(x6_1), (wrap64 (x7_1 + 1)), (by first | rfl | (simp; done) | (simp [*]; done)), (by first | rfl | (simp; done) | (simp [*]; done)), H', ⟨by have := HK1.out; omega⟩, ⟨by (with_reducible repeat (first | apply Kd.R_alloc | apply Kd.R_drewN | apply Kd.R_drew)); exact HO_4.out⟩, ⟨by repeat (first | (with_reducible first | exact HB.out | apply below_alloc | apply pw_below_drewN | apply below_drew1) | exact HB.out)⟩⟩
                              · rw [if_neg c67] at H
                                have c67b0 : ((bt t256 x7_1) == 95) = false := beq_eq_false_iff_ne.mpr c67
                                have c67b1 : ((bt t256 x7_1) != 95) = true := bne_iff_ne.mpr c67
                                by_cases c68 : ((bt t256 x7_1) = 37)
                                · rw [if_pos c68] at H
                                  have c68b0 : ((bt t256 x7_1) == 37) = true := beq_iff_eq.mpr c68
                                  exact absurd (c68b0.symm.trans c12b0) (by decide)
                                · rw [if_neg c68] at H
                                  have c68b0 : ((bt t256 x7_1) == 37) = false := beq_eq_false_iff_ne.mpr c68
                                  have c68b1 : ((bt t256 x7_1) != 37) = true := bne_iff_ne.mpr c68
                                  exact absurd (Option.some.inj H) (by rw [hr_.out]; decide)
                      · rw [if_neg c63] at H
                        have c63b0 : decide (48 ≤ (bt t256 x7_1)) = false := decide_eq_false c63
                        clear c63
                        by_cases c69 : (bt t256 x7_1) = 45
                        · rw [if_pos c69] at H
                          have c69b0 : ((bt t256 x7_1) == 45) = true := beq_iff_eq.mpr c69
                          have c69b1 : ((bt t256 x7_1) != 45) = false := bne_eq_false_iff_eq.mpr c69
                          clear c69
                          have H' := Aside0.mk H
                          clear H
                          have p11 : 0 ≤ (x7_1 : Int) := of_decide_eq_true (by first | (with_reducible assumption) | assumption)
                          have q11 : x7_1 < (t256.size : Int) := of_decide_eq_true (by first | (with_reducible assumption) | assumption)
                          have hx11 := bt_at t256 x7_1
                          replace p11 := eq_true p11
                          replace q11 := eq_true q11
                          go_wp2
                          go_roundg k1
                          case measure => have := HK1.out; omega
                          case rel => exact ⟨(x6_1), (wrap64 (x7_1 + 1)), (by first | rfl | (simp; done) | (simp [*]; done)), (by first | rfl | (simp; done) | (simp [*]; done)), H', ⟨by have := HK1.out; omega⟩, ⟨by (with_reducible repeat (first | apply Kd.R_alloc | apply Kd.R_drewN | apply Kd.R_drew)); exact HO_4.out⟩, ⟨by repeat (first | (with_reducible first | exact HB.out | apply below_alloc | apply pw_below_drewN | apply below_drew1) | exact HB.out)⟩⟩
                        · rw [if_neg c69] at H
                          have c69b0 : ((bt t256 x7_1) == 45) = false := beq_eq_false_iff_ne.mpr c69
                          have c69b1 : ((bt t256 x7_1) != 45) = true := bne_iff_ne.mpr c69
                          by_cases c70 : (bt t256 x7_1) = 46
                          · rw [if_pos c70] at H
                            have c70b0 : ((bt t256 x7_1) == 46) = true := beq_iff_eq.mpr c70
                            have c70b1 : ((bt t256 x7_1) != 46) = false := bne_eq_false_iff_eq.mpr c70
                            clear c70
                            have H' := Aside0.mk H
                            clear H
                            have p11 : 0 ≤ (x7_1 : Int) := of_decide_eq_true (by first | (with_reducible assumption) | assumption)
                            have q11 : x7_1 < (t256.size : Int) := of_decide_eq_true (by first | (with_reducible assumption) | assumption)
                            have hx11 := bt_at t256 x7_1
                            replace p11 := eq_true p11
                            replace q11 := eq_true q11
                            go_wp2
                            go_roundg k1
                            case measure => have := HK1.out; omega
                            case rel => exact ⟨(x6_1), (wrap64 (x7_1 + 1)), (by first | rfl | (simp; done) | (simp [*]; done)), (by first | rfl | (simp; done) | (simp [*]; done)), H', ⟨by have := HK1.out; omega⟩, ⟨by (with_reducible repeat (first | apply Kd.R_alloc | apply Kd.R_drewN | apply Kd.R_drew)); exact HO_4.out⟩, ⟨by repeat (first | (with_reducible first | exact HB.out | apply below_alloc | apply pw_below_drewN | apply below_drew1) | exact HB.out)⟩⟩
                          · rw [if_neg c70] at H
                            have c70b0 : ((bt t256 x7_1) == 46) = false := beq_eq_false_iff_ne.mpr c70
                            have c70b1 : ((bt t256 x7_1) != 46) = true := bne_iff_ne.mpr c70
                            by_cases c71 : (bt t256 x7_1) = 95
                            · rw [if_pos c71] at H
                              have c71b0 : ((bt t256 x7_1) == 95) = true := beq_iff_eq.mpr c71
                              have c71b1 : ((bt t256 x7_1) != 95) = false := bne_eq_false_iff_eq.mpr c71
                              clear c71
                              have H' := Aside0.mk H
                              clear H
                              have p11 : 0 ≤ (x7_1 : Int) := of_decide_eq_true (by first | (with_reducible assumption) | assumption)
                              have q11 : x7_1 < (t256.size : Int) := of_decide_eq_true (by first | (with_reducible assumption) | assumption)
                              have hx11 := bt_at t256 x7_1
                              replace p11 := eq_true p11
                              replace q11 := eq_true q11
                              go_wp2
                              go_roundg k1
                              case measure => have := HK1.out; omega
                              case rel => exact ⟨(x6_1), (wrap64 (x7_1 + 1)), (by first | rfl | (simp; done) | (simp [*]; done)), (by first | rfl | (simp; done) | (simp [*]; done)), H', ⟨by have := HK1.out; omega⟩, ⟨by (with_reducible repeat (first | apply Kd.R_alloc | apply Kd.R_drewN | apply Kd.R_drew)); exact HO_4.out⟩, ⟨by repeat (first | (with_reducible first | exact HB.out | apply below_alloc | apply pw_below_drewN | apply below_drew1) | exact HB.out)⟩⟩
                            · rw [if_neg c71] at H
                              have c71b0 : ((bt t256 x7_1) == 95) = false := beq_eq_false_iff_ne.mpr c71
                              have c71b1 : ((bt t256 x7_1) != 95) = true := bne_iff_ne.mpr c71
                              by_cases c72 : ((bt t256 x7_1) = 37)
                              · rw [if_pos c72] at H
                                have c72b0 : ((bt t256 x7_1) == 37) = true := beq_iff_eq.mpr c72
                                exact absurd (c72b0.symm.trans c12b0) (by decide)
                              · rw [if_neg c72] at H
                                have c72b0 : ((bt t256 x7_1) == 37) = false := beq_eq_false_iff_ne.mpr c72
                                have c72b1 : ((bt t256 x7_1) != 37) = true := bne_iff_ne.mpr c72
                                exact absurd (Option.some.inj H) (by rw [hr_.out]; decide)
                  · rw [if_neg c61] at H
                    have c61b0 : decide (65 ≤ (bt t256 x7_1)) = false := decide_eq_false c61
                    clear c61
                    by_cases c73 : (bt t256 x7_1) ≥ 48
                    · rw [if_pos c73] at H
                      have c73b0 : decide (48 ≤ (bt t256 x7_1)) = true := decide_eq_true c73
                      clear c73
                      by_cases c74 : (bt t256 x7_1) ≤ 57
                      · rw [if_pos c74] at H
                        have c74b0 : decide ((bt t256 x7_1) ≤ 57) = true := decide_eq_true c74
                        clear c74
                        have H' := Aside0.mk H
                        clear H
                        have p11 : 0 ≤ (x7_1 : Int) := of_decide_eq_true (by first | (with_reducible assumption) | assumption)
                        have q11 : x7_1 < (t256.size : Int) := of_decide_eq_true (by first | (with_reducible assumption) | assumption)
                        have hx11 := bt_at t256 x7_1
                        replace p11 := eq_true p11
                        replace q11 := eq_true q11
                        go_wp2
                        go_roundg k1
                        case measure => have := HK1.out; omega
                        case rel => exact ⟨(x6_1), (wrap64 (x7_1 + 1)), (by first | rfl | (simp; done) | (simp [*]; done)), (by first | rfl | (simp; done) | (simp [*]; done)), H', ⟨by have := HK1.out; omega⟩, ⟨by (with_reducible repeat (first | apply Kd.R_alloc | apply Kd.R_drewN | apply Kd.R_drew)); exact HO_4.out⟩, ⟨by repeat (first | (with_reducible first | exact HB.out | apply below_alloc | apply pw_below_drewN | apply below_drew1) | exact HB.out)⟩⟩
                      · rw [if_neg c74] at H
                        have c74b0 : decide ((bt t256 x7_1) ≤ 57) = false := decide_eq_false c74
                        clear c74
                        by_cases c75 : (bt t256 x7_1) = 45
                        · rw [if_pos c75] at H
                          have c75b0 : ((bt t256 x7_1) == 45) = true := beq_iff_eq.mpr c75
                          have c75b1 : ((bt t256 x7_1) != 45) = false := bne_eq_false_iff_eq.mpr c75
                          clear c75
                          have H' := Aside0.mk H
                          clear H
                          have p11 : 0 ≤ (x7_1 : Int) := of_decide_eq_true (by first | (with_reducible assumption) | assumption)
                          have q11 : x7_1 < (t256.size : Int) := of_decide_eq_true (by first | (with_reducible assumption) | assumption)
                          have hx11 := bt_at t256 x7_1
                          replace p11 := eq_true p11
                          replace q11 := eq_true q11
                          go_wp2
                          go_roundg k1
                          case measure => have := HK1.out; omega
                          case rel => exact ⟨(x6_1), (wrap64 (x7_1 + 1)), (by first | rfl | (simp; done) | (simp [*]; done)), (by first | rfl | (simp; done) | (simp [*]; done)), H', ⟨by have := HK1.out; omega⟩, ⟨by (with_reducible repeat (first | apply Kd.R_alloc | apply Kd.R_drewN | apply Kd.R_drew)); exact HO_4.out⟩, ⟨by repeat (first | (with_reducible first | exact HB.out | apply below_alloc | apply pw_below_drewN | apply below_drew1) | exact HB.out)⟩⟩
                        · rw [if_neg c75] at H
                          have c75b0 : ((bt t256 x7_1) == 45) = false := beq_eq_false_iff_ne.mpr c75
                          have c75b1 : ((bt t256 x7_1) != 45) = true := bne_iff_ne.mpr c75
                          by_cases c76 : (bt t256 x7_1) = 46
                          · rw [if_pos c76] at H
                            have c76b0 : ((bt t256 x7_1) == 46) = true := beq_iff_eq.mpr c76
                            have c76b1 : ((bt t256 x7_1) != 46) = false := bne_eq_false_iff_eq.mpr c76
                            clear c76
                            have H' := Aside0.mk H
                            clear H
                            have p11 : 0 ≤ (x7_1 : Int) := of_decide_eq_true (by first | (with_reducible assumption) | assumption)
                            have q11 : x7_1 < (t256.size : Int) := of_decide_eq_true (by first | (with_reducible assumption) | assumption)
                            have hx11 := bt_at t256 x7_1
                            replace p11 := eq_true p11
                            replace q11 := eq_true q11
                            go_wp2
                            go_roundg k1
                            case measure => have := HK1.out; omega
                            case rel => exact ⟨(x6_1), (wrap64 (x7_1 + 1)), (by first | rfl | (simp; done) | (simp [*]; done)), (by first | rfl | (simp; done) | (simp [*]; done)), H', ⟨by have := HK1.out; omega⟩, ⟨by (with_reducible repeat (first | apply Kd.R_alloc | apply Kd.R_drewN | apply Kd.R_drew)); exact HO_4.out⟩, ⟨by repeat (first | (with_reducible first | exact HB.out | apply below_alloc | apply pw_below_drewN | apply below_drew1) | exact HB.out)⟩⟩
                          · rw [if_neg c76] at H
                            have c76b0 : ((bt t256 x7_1) == 46) = false := beq_eq_false_iff_ne.mpr c76
                            have c76b1 : ((bt t256 x7_1) != 46) = true := bne_iff_ne.mpr c76
                            by_cases c77 : (bt t256 x7_1) = 95
                            · rw [if_pos c77] at H
                              have c77b0 : ((bt t256 x7_1) == 95) = true := beq_iff_eq.mpr c77
                              have c77b1 : ((bt t256 x7_1) != 95) = false := bne_eq_false_iff_eq.mpr c77
                              clear c77
                              have H' := Aside0.mk H
                              clear H
                              have p11 : 0 ≤ (x7_1 : Int) := of_decide_eq_true (by first | (with_reducible assumption) | assumption)
                              have q11 : x7_1 < (t256.size : Int) := of_decide_eq_true (by first | (with_reducible assumption) | assumption)
                              have hx11 := bt_at t256 x7_1
                              replace p11 := eq_true p11
                              replace q11 := eq_true q11
                              go_wp2
                              go_roundg k1
                              case measure => have := HK1.out; omega
                              case rel => exact ⟨(x6_1), (wrap64 (x7_1 + 1)), (by first | rfl | (simp; done) | (simp [*]; done)), (by first | rfl | (simp; done) | (simp [*]; done)), H', ⟨by have := HK1.out; omega⟩, ⟨by (with_reducible repeat (first | apply Kd.R_alloc | apply Kd.R_drewN | apply Kd.R_drew)); exact HO_4.out⟩, ⟨by repeat (first | (with_reducible first | exact HB.out | apply below_alloc | apply pw_below_drewN | apply below_drew1) | exact HB.out)⟩⟩
                            · rw [if_neg c77] at H
                              have c77b0 : ((bt t256 x7_1) == 95) = false := beq_eq_false_iff_ne.mpr c77
                              have c77b1 : ((bt t256 x7_1) != 95) = true := bne_iff_ne.mpr c77
                              by_cases c78 : ((bt t256 x7_1) = 37)
                              · rw [if_pos c78] at H
                                have c78b0 : ((bt t256 x7_1) == 37) = true := beq_iff_eq.mpr c78
                                exact absurd (c78b0.symm.trans c12b0) (by decide)
                              · rw [if_neg c78] at H
                                have c78b0 : ((bt t256 x7_1) == 37) = false := beq_eq_false_iff_ne.mpr c78
                                have c78b1 : ((bt t256 x7_1) != 37) = true := bne_iff_ne.mpr c78
                                exact absurd (Option.some.inj H) (by rw [hr_.out]; decide)
                    · rw [if_neg c73] at H
                      have c73b0 : decide (48 ≤ (bt t256 x7_1)) = false := decide_eq_false c73
                      clear c73
                      by_cases c79 : (bt t256 x7_1) = 45
                      · rw [if_pos c79] at H
                        have c79b0 : ((bt t256 x7_1) == 45) = true := beq_iff_eq.mpr c79
                        have c79b1 : ((bt t256 x7_1) != 45) = false := bne_eq_false_iff_eq.mpr c79
                        clear c79
                        have H' := Aside0.mk H
                        clear H
                        have p11 : 0 ≤ (x7_1 : Int) := of_decide_eq_true (by first | (with_reducible assumption) | assumption)
                        have q11 : x7_1 < (t256.size : Int) := of_decide_eq_true (by first | (with_reducible assumption) | assumption)
                        have hx11 := bt_at t256 x7_1
                        replace p11 := eq_true p11
                        replace q11 := eq_true q11
                        go_wp2
                        go_roundg k1
                        case measure => have := HK1.out; omega
                        case rel => exact ⟨(x6_1), (wrap64 (x7_1 + 1)), (by first | rfl | (simp; done) | (simp [*]; done)), (by first | rfl | (simp; done) | (simp [*]; done)), H', ⟨by have := HK1.out; omega⟩, ⟨by (with_reducible repeat (first | apply Kd.R_alloc | apply Kd.R_drewN | apply Kd.R_drew)); exact HO_4.out⟩, ⟨by repeat (first | (with_reducible first | exact HB.out | apply below_alloc | apply pw_below_drewN | apply below_drew1) | exact HB.out)⟩⟩
                      · rw [if_neg c79] at H
                        have c79b0 : ((bt t256 x7_1) == 45) = false := beq_eq_false_iff_ne.mpr c79
                        have c79b1 : ((bt t256 x7_1) != 45) = true := bne_iff_ne.mpr c79
                        by_cases c80 : (bt t256 x7_1) = 46
                        · rw [if_pos c80] at H
                          have c80b0 : ((bt t256 x7_1) == 46) = true := beq_iff_eq.mpr c80
                          have c80b1 : ((bt t256 x7_1) != 46) = false := bne_eq_false_iff_eq.mpr c80
                          clear c80
                          have H' := Aside0.mk H
                          clear H
                          have p11 : 0 ≤ (x7_1 : Int) := of_decide_eq_true (by first | (with_reducible assumption) | assumption)
                          have q11 : x7_1 < (t256.size : Int) := of_decide_eq_true (by first | (with_reducible assumption) | assumption)
                          have hx11 := bt_at t256 x7_1
                          replace p11 := eq_true p11
                          replace q11 := eq_true q11
                          go_wp2
                          go_roundg k1
                          case measure => have := HK1.out; omega
                          case rel => exact ⟨(x6_1), (wrap64 (x7_1 + 1)), (by first | rfl | (simp; done) | (simp [*]; done)), (by first | rfl | (simp; done) | (simp [*]; done)), H', ⟨by have := HK1.out; omega⟩, ⟨by (with_reducible repeat (first | apply Kd.R_alloc | apply Kd.R_drewN | apply Kd.R_drew)); exact HO_4.out⟩, ⟨by repeat (first | (with_reducible first | exact HB.out | apply below_alloc | apply pw_below_drewN | apply below_drew1) | exact HB.out)⟩⟩
                        · rw [if_neg c80] at H
                          have c80b0 : ((bt t256 x7_1) == 46) = false := beq_eq_false_iff_ne.mpr c80
                          have c80b1 : ((bt t256 x7_1) != 46) = true := bne_iff_ne.mpr c80
                          by_cases c81 : (bt t256 x7_1) = 95
                          · rw [if_pos c81] at H
                            have c81b0 : ((bt t256 x7_1) == 95) = true := beq_iff_eq.mpr c81
                            have c81b1 : ((bt t256 x7_1) != 95) = false := bne_eq_false_iff_eq.mpr c81
                            clear c81
                            have H' := Aside0.mk H
                            clear H
                            have p11 : 0 ≤ (x7_1 : Int) := of_decide_eq_true (by first | (with_reducible assumption) | assumption)
                            have q11 : x7_1 < (t256.size : Int) := of_decide_eq_true (by first | (with_reducible assumption) | assumption)
                            have hx11 := bt_at t256 x7_1
                            replace p11 := eq_true p11
                            replace q11 := eq_true q11
                            go_wp2
                            go_roundg k1
                            case measure => have := HK1.out; omega
                            case rel => exact ⟨(x6_1), (wrap64 (x7_1 + 1)), (by first | rfl | (simp; done) | (simp [*]; done)), (by first | rfl | (simp; done) | (simp [*]; done)), H', ⟨by have := HK1.out; omega⟩, ⟨by (with_reducible repeat (first | apply Kd.R_alloc | apply Kd.R_drewN | apply Kd.R_drew)); exact HO_4.out⟩, ⟨by repeat (first | (with_reducible first | exact HB.out | apply below_alloc | apply pw_below_drewN | apply below_drew1) | exact HB.out)⟩⟩
                          · rw [if_neg c81] at H
                            have c81b0 : ((bt t256 x7_1) == 95) = false := beq_eq_false_iff_ne.mpr c81
                            have c81b1 : ((bt t256 x7_1) != 95) = true := bne_iff_ne.mpr c81
                            by_cases c82 : ((bt t256 x7_1) = 37)
                            · rw [if_pos c82] at H
                              have c82b0 : ((bt t256 x7_1) == 37) = true := beq_iff_eq.mpr c82
                              exact absurd (c82b0.symm.trans c12b0) (by decide)
                            · rw [if_neg c82] at H
                              have c82b0 : ((bt t256 x7_1) == 37) = false := beq_eq_false_iff_ne.mpr c82
                              have c82b1 : ((bt t256 x7_1) != 37) = true := bne_iff_ne.mpr c82
                              exact absurd (Option.some.inj H) (by rw [hr_.out]; decide)
              · rw [if_neg c59] at H
                have c59b0 : decide (97 ≤ (bt t256 x7_1)) = false := decide_eq_false c59
                clear c59
                by_cases c83 : (bt t256 x7_1) ≥ 65
                · rw [if_pos c83] at H
                  have c83b0 : decide (65 ≤ (bt t256 x7_1)) = true := decide_eq_true c83
                  clear c83
                  by_cases c84 : (bt t256 x7_1) ≤ 90
                  · rw [if_pos c84] at H
                    have c84b0 : decide ((bt t256 x7_1) ≤ 90) = true := decide_eq_true c84
                    clear c84
                    have H' := Aside0.mk H
                    clear H
                    have p11 : 0 ≤ (x7_1 : Int) := of_decide_eq_true (by first | (with_reducible assumption) | assumption)
                    have q11 : x7_1 < (t256.size : Int) := of_decide_eq_true (by first | (with_reducible assumption) | assumption)
                    have hx11 := bt_at t256 x7_1
                    replace p11 := eq_true p11
                    replace q11 := eq_true q11
                    go_wp2
                    go_roundg k1
                    case measure => have := HK1.out; omega
                    case rel => exact ⟨(x6_1), (wrap64 (x7_1 + 1)), (by first | rfl | (simp; done) | (simp [*]; done)), (by first | rfl | (simp; done) | (simp [*]; done)), H', ⟨by have := HK1.out; omega⟩, ⟨by (with_reducible repeat (first | apply Kd.R_alloc | apply Kd.R_drewN | apply Kd.R_drew)); exact HO_4.out⟩, ⟨by repeat (first | (with_reducible first | exact HB.out | apply below_alloc | apply pw_below_drewN | apply below_drew1) | exact HB.out)⟩⟩
                  · rw [if_neg c84] at H
                    have c84b0 : decide ((bt t256 x7_1) ≤ 90) = false := decide_eq_false c84
                    clear c84
                    by_cases c85 : (bt t256 x7_1) ≥ 48
                    · rw [if_pos c85] at H
                      have c85b0 : decide (48 ≤ (bt t256 x7_1)) = true := decide_eq_true c85
                      clear c85
                      by_cases c86 : (bt t256 x7_1) ≤ 57
                      · rw [if_pos c86] at H
                        have c86b0 : decide ((bt t256 x7_1) ≤ 57) = true := decide_eq_true c86
                        clear c86
                        have H' := Aside0.mk H
                        clear H
                        have p11 : 0 ≤ (x7_1 : Int) := of_decide_eq_true (by first | (with_reducible assumption) | assumption)
                        have q11 : x7_1 < (t256.size : Int) := of_decide_eq_true (by first | (with_reducible assumption) | assumption)
                        have hx11 := bt_at t256 x7_1
                        replace p11 := eq_true p11
                        replace q11 := eq_true q11
                        go_wp2
                        go_roundg k1
                        case measure => have := HK1.out; omega
                        case rel => exact ⟨(x6_1), (wrap64 (x7_1 + 1)), (by first | rfl | (simp; done) | (simp [*]; done)), (by first | rfl | (simp; done) | (simp [*]; done)), H', ⟨by have := HK1.out; omega⟩, ⟨by (with_reducible repeat (first | apply Kd.R_alloc | apply Kd.R_drewN | apply Kd.R_drew)); exact HO_4.out⟩, ⟨by repeat (first | (with_reducible first | exact HB.out | apply below_alloc | apply pw_below_drewN | apply below_drew1) | exact HB.out)⟩⟩
                      · rw [if_neg c86] at H
                        have c86b0 : decide ((bt t256 x7_1) ≤ 57) = false := decide_eq_false c86
                        clear c86
                        by_cases c87 : (bt t256 x7_1) = 45
                        · rw [if_pos c87] at H
                          have c87b0 : ((bt t256 x7_1) == 45) = true := beq_iff_eq.mpr c87
                          have c87b1 : ((bt t256 x7_1) != 45) = false := bne_eq_false_iff_eq.mpr c87
                          clear c87
                          have H' := Aside0.mk H
                          clear H
                          have p11 : 0 ≤ (x7_1 : Int) := of_decide_eq_true (by first | (with_reducible assumption) | assumption)
                          have q11 : x7_1 < (t256.size : Int) := of_decide_eq_true (by first | (with_reducible assumption) | assumption)
                          have hx11 := bt_at t256 x7_1
                          replace p11 := eq_true p11
                          replace q11 := eq_true q11
                          go_wp2
                          go_roundg k1
                          case measure => have := HK1.out; omega
                          case rel => exact ⟨(x6_1), (wrap64 (x7_1 + 1)), (by first | rfl | (simp; done) | (simp [*]; done)), (by first | rfl | (simp; done) | (simp [*]; done)), H', ⟨by have := HK1.out; omega⟩, ⟨by (with_reducible repeat (first | apply Kd.R_alloc | apply Kd.R_drewN | apply Kd.R_drew)); exact HO_4.out⟩, ⟨by repeat (first | (with_reducible first | exact HB.out | apply below_alloc | apply pw_below_drewN | apply below_drew1) | exact HB.out)⟩⟩
                        · rw [if_neg c87] at H
                          have c87b0 : ((bt t256 x7_1) == 45) = false := beq_eq_false_iff_ne.mpr c87
                          have c87b1 : ((bt t256 x7_1) != 45) = true := bne_iff_ne.mpr c87
                          by_cases c88 : (bt t256 x7_1) = 46
                          · rw [if_pos c88] at H
                            have c88b0 : ((bt t256 x7_1) == 46) = true := beq_iff_eq.mpr c88
                            have c88b1 : ((bt t256 x7_1) != 46) = false := bne_eq_false_iff_eq.mpr c88
                            clear c88
                            have H' := Aside0.mk H
                            clear H
                            have p11 : 0 ≤ (x7_1 : Int) := of_decide_eq_true (by first | (with_reducible assumption) | assumption)
                            have q11 : x7_1 < (t256.size : Int) := of_decide_eq_true (by first | (with_reducible assumption) | assumption)
                            have hx11 := bt_at t256 x7_1
                            replace p11 := eq_true p11
                            replace q11 := eq_true q11
                            go_wp2
                            go_roundg k1
                            case measure => have := HK1.out; omega
                            case rel => exact ⟨(x6_1), (wrap64 (x7_1 + 1)), (by first | rfl | (simp; done) | (simp [*]; done)), (by first | rfl | (simp; done) | (simp [*]; done)), H', ⟨by have := HK1.out; omega⟩, ⟨by (with_reducible repeat (first | apply Kd.R_alloc | apply Kd.R_drewN | apply Kd.R_drew)); exact HO_4.out⟩, ⟨by repeat (first | (with_reducible first | exact HB.out | apply below_alloc | apply pw_below_drewN | apply below_drew1) | exact HB.out)⟩⟩
                          · rw [if_neg c88] at H
                            have c88b0 : ((bt t256 x7_1) == 46) = false := beq_eq_false_iff_ne.mpr c88
                            have c88b1 : ((bt t256 x7_1) != 46) = true := bne_iff_ne.mpr c88
                            by_cases c89 : (bt t256 x7_1) = 95
                            · rw [if_pos c89] at H
                              have c89b0 : ((bt t256 x7_1) == 95) = true := beq_iff_eq.mpr c89
                              have c89b1 : ((bt t256 x7_1) != 95) = false := bne_eq_false_iff_eq.mpr c89
                              clear c89
                              have H' := Aside0.mk H
                              clear H
                              have p11 : 0 ≤ (x7_1 : Int) := of_decide_eq_true (by first | (with_reducible assumption) | assumption)
                              have q11 : x7_1 < (t256.size : Int) := of_decide_eq_true (by first | (with_reducible assumption) | assumption)
                              have hx11 := bt_at t256 x7_1
                              replace p11 := eq_true p11
                              replace q11 := eq_true q11
                              go_wp2
                              go_roundg k1
                              case measure => have := HK1.out; omega
                              case rel => exact ⟨(x6_1), (wrap64 (x7_1 + 1)), (by first | rfl | (simp; done) | (simp [*]; done)), (by first | rfl | (simp; done) | (simp [*]; done)), H', ⟨by have := HK1.out; omega⟩, ⟨by (with_reducible repeat (first | apply Kd.R_alloc | apply Kd.R_drewN | apply Kd.R_drew)); exact HO_4.out⟩, ⟨by repeat (first | (with_reducible first | exact HB.out | apply below_alloc | apply pw_below_drewN | apply below_drew1) | exact HB.out)⟩⟩
                            · rw [if_neg c89] at H
                              have c89b0 : ((bt t256 x7_1) == 95) = false := beq_eq_false_iff_ne.mpr c89
                              have c89b1 : ((bt t256 x7_1) != 95) = true := bne_iff_ne.mpr c89
                              by_cases c90 : ((bt t256 x7_1) = 37)
                              · rw [if_pos c90] at H
                                have c90b0 : ((bt t256 x7_1) == 37) = true := beq_iff_eq.mpr c90
                                exact absurd (c90b0.symm.trans c12b0) (by decide)
                              · rw [if_neg c90] at H
                                have c90b0 : ((bt t256 x7_1) == 37) = false := beq_eq_false_iff_ne.mpr c90
                                have c90b1 : ((bt t256 x7_1) != 37) = true := bne_iff_ne.mpr c90
                                exact absurd (Option.some.inj H) (by rw [hr_.out]; decide)
                    · rw [if_neg c85] at H
                      have c85b0 : decide (48 ≤ (bt t256 x7_1)) = false := decide_eq_false c85
                      clear c85
                      by_cases c91 : (bt t256 x7_1) = 45
                      · rw [if_pos c91] at H
                        have c91b0 : ((bt t256 x7_1) == 45) = true := beq_iff_eq.mpr c91
                        have c91b1 : ((bt t256 x7_1) != 45) = false := bne_eq_false_iff_eq.mpr c91
                        clear c91
                        have H' := Aside0.mk H
                        clear H
                        have p11 : 0 ≤ (x7_1 : Int) := of_decide_eq_true (by first | (with_reducible assumption) | assumption)
                        have q11 : x7_1 < (t256.size : Int) := of_decide_eq_true (by first | (with_reducible assumption) | assumption)
                        have hx11 := bt_at t256 x7_1
                        replace p11 := eq_true p11
                        replace q11 := eq_true q11
                        go_wp2
                        go_roundg k1
                        case measure => have := HK1.out; omega
                        case rel => exact ⟨(x6_1), (wrap64 (x7_1 + 1)), (by first | rfl | (simp; done) | (simp [*]; done)), (by first | rfl | (simp; done) | (simp [*]; done)), H', ⟨by have := HK1.out; omega⟩, ⟨by (with_reducible repeat (first | apply Kd.R_alloc | apply Kd.R_drewN | apply Kd.R_drew)); exact HO_4.out⟩, ⟨by repeat (first | (with_reducible first | exact HB.out | apply below_alloc | apply pw_below_drewN | apply below_drew1) | exact HB.out)⟩⟩
                      · rw [if_neg c91] at H
                        have c91b0 : ((bt t256 x7_1) == 45) = false := beq_eq_false_iff_ne.mpr c91
                        have c91b1 : ((bt t256 x7_1) != 45) = true := bne_iff_ne.mpr c91
                        by_cases c92 : (bt t256 x7_1) = 46
                        · rw [if_pos c92] at H
                          have c92b0 : ((bt t256 x7_1) == 46) = true := beq_iff_eq.mpr c92
                          have c92b1 : ((bt t256 x7_1) != 46) = false := bne_eq_false_iff_eq.mpr c92
                          clear c92
                          have H' := Aside0.mk H
                          clear H
                          have p11 : 0 ≤ (x7_1 : Int) := of_decide_eq_true (by first | (with_reducible assumption) | assumption)
                          have q11 : x7_1 < (t256.size : Int) := of_decide_eq_true (by first | (with_reducible assumption) | assumption)
                          have hx11 := bt_at t256 x7_1
                          replace p11 := eq_true p11
                          replace q11 := eq_true q11
                          go_wp2
                          go_roundg k1
                          case measure => have := HK1.out; omega
                          case rel => exact ⟨(x6_1), (wrap64 (x7_1 + 1)), (by first | rfl | (simp; done) | (simp [*]; done)), (by first | rfl | (simp; done) | (simp [*]; done)), H', ⟨by have := HK1.out; omega⟩, ⟨by (with_reducible repeat (first | apply Kd.R_alloc | apply Kd.R_drewN | apply Kd.R_drew)); exact HO_4.out⟩, ⟨by repeat (first | (with_reducible first | exact HB.out | apply below_alloc | apply pw_below_drewN | apply below_drew1) | exact HB.out)⟩⟩
                        · rw [if_neg c92] at H
                          have c92b0 : ((bt t256 x7_1) == 46) = false := beq_eq_false_iff_ne.mpr c92
                          have c92b1 : ((bt t256 x7_1) != 46) = true := bne_iff_ne.mpr c92
                          by_cases c93 : (bt t256 x7_1) = 95
                          · rw [if_pos c93] at H
                            have c93b0 : ((bt t256 x7_1) == 95) = true := beq_iff_eq.mpr c93
                            have c93b1 : ((bt t256 x7_1) != 95) = false := bne_eq_false_iff_eq.mpr c93
                            clear c93
                            have H' := Aside0.mk H
                            clear H
                            have p11 : 0 ≤ (x7_1 : Int) := of_decide_eq_true (by first | (with_reducible assumption) | assumption)
                            have q11 : x7_1 < (t256.size : Int) := of_decide_eq_true (by first | (with_reducible assumption) | assumption)
                            have hx11 := bt_at t256 x7_1
                            replace p11 := eq_true p11
                            replace q11 := eq_true q11
                            go_wp2
                            go_roundg k1
                            case measure => have := HK1.out; omega
                            case rel => exact ⟨(x6_1), (wrap64 (x7_1 + 1)), (by first | rfl | (simp; done) | (simp [*]; done)), (by first | rfl | (simp; done) | (simp [*]; done)), H', ⟨by have := HK1.out; omega⟩, ⟨by (with_reducible repeat (first | apply Kd.R_alloc | apply Kd.R_drewN | apply Kd.R_drew)); exact HO_4.out⟩, ⟨by repeat (first | (with_reducible first | exact HB.out | apply below_alloc | apply pw_below_drewN | apply below_drew1) | exact HB.out)⟩⟩
                          · rw [if_neg c93] at H
                            have c93b0 : ((bt t256 x7_1) == 95) = false := beq_eq_false_iff_ne.mpr c93
                            have c93b1 : ((bt t256 x7_1) != 95) = true := bne_iff_ne.mpr c93
                            by_cases c94 : ((bt t256 x7_1) = 37)
                            · rw [if_pos c94] at H
                              have c94b0 : ((bt t256 x7_1) == 37) = true := beq_iff_eq.mpr c94
                              exact absurd (c94b0.symm.trans c12b0) (by decide)
                            · rw [if_neg c94] at H
                              have c94b0 : ((bt t256 x7_1) == 37) = false := beq_eq_false_iff_ne.mpr c94
                              have c94b1 : ((bt t256 x7_1) != 37) = true := bne_iff_ne.mpr c94
                              exact absurd (Option.some.inj H) (by rw [hr_.out]; decide)
                · rw [if_neg c83] at H
                  have c83b0 : decide (65 ≤ (bt t256 x7_1)) = false := decide_eq_false c83
                  clear c83
                  by_cases c95 : (bt t256 x7_1) ≥ 48
                  · rw [if_pos c95] at H
                    have c95b0 : decide (48 ≤ (bt t256 x7_1)) = true := decide_eq_true c95
                    clear c95
                    by_cases c96 : (bt t256 x7_1) ≤ 57
                    · rw [if_pos c96] at H
                      have c96b0 : decide ((bt t256 x7_1) ≤ 57) = true := decide_eq_true c96
                      clear c96
                      have H' := Aside0.mk H
                      clear H
                      have p11 : 0 ≤ (x7_1 : Int) := of_decide_eq_true (by first | (with_reducible assumption) | assumption)
                      have q11 : x7_1 < (t256.size : Int) := of_decide_eq_true (by first | (with_reducible assumption) | assumption)
                      have hx11 := bt_at t256 x7_1
                      replace p11 := eq_true p11
                      replace q11 := eq_true q11
                      go_wp2
                      go_roundg k1
                      case measure => have := HK1.out; omega
                      case rel => exact ⟨(x6_1), (wrap64 (x7_1 + 1)), (by first | rfl | (simp; done) | (simp [*]; done)), (by first | rfl | (simp; done) | (simp [*]; done)), H', ⟨by have := HK1.out; omega⟩, ⟨by (with_reducible repeat (first | apply Kd.R_alloc | apply Kd.R_drewN | apply Kd.R_drew)); exact HO_4.out⟩, ⟨by repeat (first | (with_reducible first | exact HB.out | apply below_alloc | apply pw_below_drewN | apply below_drew1) | exact HB.out)⟩⟩
                    · rw [if_neg c96] at H
                      have c96b0 : decide ((bt t256 x7_1) ≤ 57) = false := decide_eq_false c96
                      clear c96
                      by_cases c97 : (bt t256 x7_1) = 45
                      · rw [if_pos c97] at H
                        have c97b0 : ((bt t256 x7_1) == 45) = true := beq_iff_eq.mpr c97
                        have c97b1 : ((bt t256 x7_1) != 45) = false := bne_eq_false_iff_eq.mpr c97
                        clear c97
                        have H' := Aside0.mk H
                        clear H
                        have p11 : 0 ≤ (x7_1 : Int) := of_decide_eq_true (by first | (with_reducible assumption) | assumption)
                        have q11 : x7_1 < (t256.size : Int) := of_decide_eq_true (by first | (with_reducible assumption) | assumption)
                        have hx11 := bt_at t256 x7_1
                        replace p11 := eq_true p11
                        replace q11 := eq_true q11
                        go_wp2
                        go_roundg k1
                        case measure => have := HK1.out; omega
                        case rel => exact ⟨(x6_1), (wrap64 (x7_1 + 1)), (by first | rfl | (simp; done) | (simp [*]; done)), (by first | rfl | (simp; done) | (simp [*]; done)), H', ⟨by have := HK1.out; omega⟩, ⟨by (with_reducible repeat (first | apply Kd.R_alloc | apply Kd.R_drewN | apply Kd.R_drew)); exact HO_4.out⟩, ⟨by repeat (first | (with_reducible first | exact HB.out | apply below_alloc | apply pw_below_drewN | apply below_drew1) | exact HB.out)⟩⟩
                      · rw [if_neg c97] at H
                        have c97b0 : ((bt t256 x7_1) == 45) = false := beq_eq_false_iff_ne.mpr c97
                        have c97b1 : ((bt t256 x7_1) != 45) = true := bne_iff_ne.mpr c97
                        by_cases c98 : (bt t256 x7_1) = 46
                        · rw [if_pos c98] at H
                          have c98b0 : ((bt t256 x7_1) == 46) = true := beq_iff_eq.mpr c98
                          have c98b1 : ((bt t256 x7_1) != 46) = false := bne_eq_false_iff_eq.mpr c98
                          clear c98
                          have H' := Aside0.mk H
                          clear H
                          have p11 : 0 ≤ (x7_1 : Int) := of_decide_eq_true (by first | (with_reducible assumption) | assumption)
                          have q11 : x7_1 < (t256.size : Int) := of_decide_eq_true (by first | (with_reducible assumption) | assumption)
                          have hx11 := bt_at t256 x7_1
                          replace p11 := eq_true p11
                          replace q11 := eq_true q11
                          go_wp2
                          go_roundg k1
                          case measure => have := HK1.out; omega
                          case rel => exact ⟨(x6_1), (wrap64 (x7_1 + 1)), (by first | rfl | (simp; done) | (simp [*]; done)), (by first | rfl | (simp; done) | (simp [*]; done)), H', ⟨by have := HK1.out; omega⟩, ⟨by (with_reducible repeat (first | apply Kd.R_alloc | apply Kd.R_drewN | apply Kd.R_drew)); exact HO_4.out⟩, ⟨by repeat (first | (with_reducible first | exact HB.out | apply below_alloc | apply pw_below_drewN | apply below_drew1) | exact HB.out)⟩⟩
                        · rw [if_neg c98] at H
                          have c98b0 : ((bt t256 x7_1) == 46) = false := beq_eq_false_iff_ne.mpr c98
                          have c98b1 : ((bt t256 x7_1) != 46) = true := bne_iff_ne.mpr c98
                          by_cases c99 : (bt t256 x7_1) = 95
                          · rw [if_pos c99] at H
                            have c99b0 : ((bt t256 x7_1) == 95) = true := beq_iff_eq.mpr c99
                            have c99b1 : ((bt t256 x7_1) != 95) = false := bne_eq_false_iff_eq.mpr c99
                            clear c99
                            have H' := Aside0.mk H
                            clear H
                            have p11 : 0 ≤ (x7_1 : Int) := of_decide_eq_true (by first | (with_reducible assumption) | assumption)
                            have q11 : x7_1 < (t256.size : Int) := of_decide_eq_true (by first | (with_reducible assumption) | assumption)
                            have hx11 := bt_at t256 x7_1
                            replace p11 := eq_true p11
                            replace q11 := eq_true q11
                            go_wp2
                            go_roundg k1
                            case measure => have := HK1.out; omega
                            case rel => exact ⟨(x6_1), (wrap64 (x7_1 + 1)), (by first | rfl | (simp; done) | (simp [*]; done)), (by first | rfl | (simp; done) | (simp [*]; done)), H', ⟨by have := HK1.out; omega⟩, ⟨by (with_reducible repeat (first | apply Kd.R_alloc | apply Kd.R_drewN | apply Kd.R_drew)); exact HO_4.out⟩, ⟨by repeat (first | (with_reducible first | exact HB.out | apply below_alloc | apply pw_below_drewN | apply below_drew1) | exact HB.out)⟩⟩
                          · rw [if_neg c99] at H
                            have c99b0 : ((bt t256 x7_1) == 95) = false := beq_eq_false_iff_ne.mpr c99
                            have c99b1 : ((bt t256 x7_1) != 95) = true := bne_iff_ne.mpr c99
                            by_cases c100 : ((bt t256 x7_1) = 37)
                            · rw [if_pos c100] at H
                              have c100b0 : ((bt t256 x7_1) == 37) = true := beq_iff_eq.mpr c100
                              exact absurd (c100b0.symm.trans c12b0) (by decide)
                            · rw [if_neg c100] at H
                              have c100b0 : ((bt t256 x7_1) == 37) = false := beq_eq_false_iff_ne.mpr c100
                              have c100b1 : ((bt t256 x7_1) != 37) = true := bne_iff_ne.mpr c100
                              exact absurd (Option.some.inj H) (by rw [hr_.out]; decide)
                  · rw [if_neg c95] at H
                    have c95b0 : decide (48 ≤ (bt t256 x7_1)) = false := decide_eq_false c95
                    clear c95
                    by_cases c101 : (bt t256 x7_1) = 45
                    · rw [if_pos c101] at H
                      have c101b0 : ((bt t256 x7_1) == 45) = true := beq_iff_eq.mpr c101
                      have c101b1 : ((bt t256 x7_1) != 45) = false := bne_eq_false_iff_eq.mpr c101
                      clear c101
                      have H' := Aside0.mk H
                      clear H
                      have p11 : 0 ≤ (x7_1 : Int) := of_decide_eq_true (by first | (with_reducible assumption) | assumption)
                      have q11 : x7_1 < (t256.size : Int) := of_decide_eq_true (by first | (with_reducible assumption) | assumption)
                      have hx11 := bt_at t256 x7_1
                      replace p11 := eq_true p11
                      replace q11 := eq_true q11
                      go_wp2
                      go_roundg k1
                      case measure => have := HK1.out; omega
                      case rel => exact ⟨(x6_1), (wrap64 (x7_1 + 1)), (by first | rfl | (simp; done) | (simp [*]; done)), (by first | rfl | (simp; done) | (simp [*]; done)), H', ⟨by have := HK1.out; omega⟩, ⟨by (with_reducible repeat (first | apply Kd.R_alloc | apply Kd.R_drewN | apply Kd.R_drew)); exact HO_4.out⟩, ⟨by repeat (first | (with_reducible first | exact HB.out | apply below_alloc | apply pw_below_drewN | apply below_drew1) | exact HB.out)⟩⟩
                    · rw [if_neg c101] at H
                      have c101b0 : ((bt t256 x7_1) == 45) = false := beq_eq_false_iff_ne.mpr c101
                      have c101b1 : ((bt t256 x7_1) != 45) = true := bne_iff_ne.mpr c101
                      by_cases c102 : (bt t256 x7_1) = 46
                      · rw [if_pos c102] at H
                        have c102b0 : ((bt t256 x7_1) == 46) = true := beq_iff_eq.mpr c102
                        have c102b1 : ((bt t256 x7_1) != 46) = false := bne_eq_false_iff_eq.mpr c102
                        clear c102
                        have H' := Aside0.mk H
                        clear H
                        have p11 : 0 ≤ (x7_1 : Int) := of_decide_eq_true (by first | (with_reducible assumption) | assumption)
                        have q11 : x7_1 < (t256.size : Int) := of_decide_eq_true (by first | (with_reducible assumption) | assumption)
                        have hx11 := bt_at t256 x7_1
                        replace p11 := eq_true p11
                        replace q11 := eq_true q11
                        go_wp2
                        go_roundg k1
                        case measure => have := HK1.out; omega
                        case rel => exact ⟨(x6_1), (wrap64 (x7_1 + 1)), (by first | rfl | (simp; done) | (simp [*]; done)), (by first | rfl | (simp; done) | (simp [*]; done)), H', ⟨by have := HK1.out; omega⟩, ⟨by (with_reducible repeat (first | apply Kd.R_alloc | apply Kd.R_drewN | apply Kd.R_drew)); exact HO_4.out⟩, ⟨by repeat (first | (with_reducible first | exact HB.out | apply below_alloc | apply pw_below_drewN | apply below_drew1) | exact HB.out)⟩⟩
                      · rw [if_neg c102] at H
                        have c102b0 : ((bt t256 x7_1) == 46) = false := beq_eq_false_iff_ne.mpr c102
                        have c102b1 : ((bt t256 x7_1) != 46) = true := bne_iff_ne.mpr c102
                        by_cases c103 : (bt t256 x7_1) = 95
                        · rw [if_pos c103] at H
                          have c103b0 : ((bt t256 x7_1) == 95) = true := beq_iff_eq.mpr c103
                          have c103b1 : ((bt t256 x7_1) != 95) = false := bne_eq_false_iff_eq.mpr c103
                          clear c103
                          have H' := Aside0.mk H
                          clear H
                          have p11 : 0 ≤ (x7_1 : Int) := of_decide_eq_true (by first | (with_reducible assumption) | assumption)
                          have q11 : x7_1 < (t256.size : Int) := of_decide_eq_true (by first | (with_reducible assumption) | assumption)
                          have hx11 := bt_at t256 x7_1
                          replace p11 := eq_true p11
                          replace q11 := eq_true q11
                          go_wp2
                          go_roundg k1
                          case measure => have := HK1.out; omega
                          case rel => exact ⟨(x6_1), (wrap64 (x7_1 + 1)), (by first | rfl | (simp; done) | (simp [*]; done)), (by first | rfl | (simp; done) | (simp [*]; done)), H', ⟨by have := HK1.out; omega⟩, ⟨by (with_reducible repeat (first | apply Kd.R_alloc | apply Kd.R_drewN | apply Kd.R_drew)); exact HO_4.out⟩, ⟨by repeat (first | (with_reducible first | exact HB.out | apply below_alloc | apply pw_below_drewN | apply below_drew1) | exact HB.out)⟩⟩
                        · rw [if_neg c103] at H
                          have c103b0 : ((bt t256 x7_1) == 95) = false := beq_eq_false_iff_ne.mpr c103
                          have c103b1 : ((bt t256 x7_1) != 95) = true := bne_iff_ne.mpr c103
                          by_cases c104 : ((bt t256 x7_1) = 37)
                          · rw [if_pos c104] at H
                            have c104b0 : ((bt t256 x7_1) == 37) = true := beq_iff_eq.mpr c104
                            exact absurd (c104b0.symm.trans c12b0) (by decide)
                          · rw [if_neg c104] at H
                            have c104b0 : ((bt t256 x7_1) == 37) = false := beq_eq_false_iff_ne.mpr c104
                            have c104b1 : ((bt t256 x7_1) != 37) = true := bne_iff_ne.mpr c104
                            exact absurd (Option.some.inj H) (by rw [hr_.out]; decide)
          · rw [if_neg c10] at H
            exact absurd H (by simp)
        · rw [if_neg c9] at H
          have c9b0 : decide (x7_1 < (t256.size : Int)) = false := decide_eq_false c9
          clear c9
          replace H := Option.bind_eq_some_iff.mp H
          obtain ⟨t261, A1050, H⟩ := H
          replace H : (if t261 = true then (if t258 = 0 then (if (strOfNums t257).toList = (strOfNums l0).toList then (some ((t256.size : Int) == (wrap64 ((l0.length : Int) + (wrap64 (2 * x6_1)))))) else (some false)) else (some false)) else (some false)) = some r := H
          have A105 := Aside0.mk A1050
          clear A1050
          by_cases c106 : t261 = true
          · subst c106
            have H1 : (if t258 = 0 then (if (strOfNums t257).toList = (strOfNums l0).toList then (some ((t256.size : Int) == (wrap64 ((l0.length : Int) + (wrap64 (2 * x6_1)))))) else (some false)) else (some false)) = some r := by rw [if_pos rfl] at H; exact H
            clear H
            have H := H1
            clear H1
            by_cases c107 : t258 = 0
            · rw [if_pos c107] at H
              have c107b0 : (t258 == 0) = true := beq_iff_eq.mpr c107
              have c107b1 : (t258 != 0) = false := bne_eq_false_iff_eq.mpr c107
              clear c107
              by_cases c108 : (strOfNums t257).toList = (strOfNums l0).toList
              · rw [if_pos c108] at H
                have c108b0 : ((strOfNums t257).toList == (strOfNums l0).toList) = true := beq_iff_eq.mpr c108
                have c108b1 : ((strOfNums t257).toList != (strOfNums l0).toList) = false := bne_eq_false_iff_eq.mpr c108
                clear c108
                obtain rfl := Option.some.inj H
                go_wp2_with (first | ((with_reducible refine gate_callee (f := 5) rfl ?_); refine goesL_ (some 72) rfl rfl Tryd.func5 (by kernel_rfl) rfl #[] rfl (by (try simp only [List.map_toArray, List.map_cons, List.map_nil]); first | done | rfl | (simp only [List.length_drop, List.length_take]; rfl)) ?_; (with_reducible refine (posthornlaw19_alive.calls  true _ A105.out).mono ?_); rintro e w109 ⟨rfl, hb⟩; refine ⟨_, rfl, ?_⟩; have n0_ := Aside0.mk (Kd.R_below (by (with_reducible repeat (first | apply Kd.R_alloc | apply Kd.R_drewN | apply Kd.R_drew)); exact HO_4.out) hb); have n1_ := Aside0.mk (below_step (by repeat (first | (with_reducible first | exact HB.out | apply below_alloc | apply pw_below_drewN | apply below_drew1) | exact HB.out)) hb); clear HO_4; clear HB; have HO_4 := n0_; have HB := n1_; clear n0_ n1_; (try clear hb); (try clear hb2); (try clear hk); (try clear hi); have hcv110 := own_string (P := Tryd.prog) Tryd.underlying22 Tryd.underlying5 Tryd.underlying9 (Kd.own_of_R HO_4.out); have hcv111 := Kd.C_string (P := Tryd.prog) (A := A0) (c := c0) Tryd.underlying22 Tryd.underlying5 Tryd.underlying9 (Kd.C_below HR0.out HB.out)))
                go_ret
                exact ⟨by first | rfl | (simp [errW_none, errW_some] <;> rfl) | (simp [*, errW_none, errW_some] <;> rfl), by repeat (first | (with_reducible first | exact HB.out | apply below_alloc | apply pw_below_drewN | apply below_drew1) | exact HB.out)⟩
              · rw [if_neg c108] at H
                have c108b0 : ((strOfNums t257).toList == (strOfNums l0).toList) = false := beq_eq_false_iff_ne.mpr c108
                have c108b1 : ((strOfNums t257).toList != (strOfNums l0).toList) = true := bne_iff_ne.mpr c108
                exact absurd (Option.some.inj H) (by rw [hr_.out]; decide)
            · rw [if_neg c107] at H
              have c107b0 : (t258 == 0) = false := beq_eq_false_iff_ne.mpr c107
              have c107b1 : (t258 != 0) = true := bne_iff_ne.mpr c107
              exact absurd (Option.some.inj H) (by rw [hr_.out]; decide)
          · replace c106 := Bool.eq_false_iff.mpr c106
            subst c106
            have H1 : (some false) = some r := by rw [if_neg (show ¬ (false = true) by decide)] at H; exact H
            clear H
            have H := H1
            clear H1
            exact absurd (Option.some.inj H) (by rw [hr_.out]; decide)

/-- THE ONE PURE STATEMENT of posthornlaw19_ExtraCodeBack: yours. -/
def posthornlaw19_ExtraCodeBack.Pure : Prop := ∀ (l0 : List Int), l0.length ≤ maxLen → l0.length * 1 ≤ 140737488351232 → (∀ x ∈ l0, (Lit.int .u8 x).wf = true) → ∃ k, posthornlaw19_ExtraCodeBack.f k l0 = some true
theorem posthornlaw19_ExtraCodeBack.walk (P : posthornlaw19_ExtraCodeBack.Pure) (a0 : Option Addr) (len0 cap0 : Nat) (z0 : List Int) (w : World) (w0 : (a0 = none ∧ len0 = 0 ∧ cap0 = 0 ∧ z0 = []) ∨ ∃ x, a0 = some x ∧ len0 ≤ cap0 ∧ cap0 ≤ maxLen ∧ z0.length = cap0 ∧ (∀ i, i < z0.length → w.cell? (x.add i) = some (.int .u8 (z0.getD i 0))) ∧ ∀ n ∈ z0, (Lit.int .u8 n).wf = true) (y0 : len0 * 1 ≤ 140737488351232) (hG : Ex.Glob w) :
    Calls Tryd.prog 4 #[.slice a0 len0 cap0] w fun e w' => e = .returned (.bool true) ∧ Below w.heap.size w w' := by
  obtain ⟨l0, rfl, hr0, hm0, hw0, hc0⟩ := ReadsInt.ofRowC w0
  obtain ⟨k, h⟩ := P l0 hm0 y0 hw0
  refine (posthornlaw19_ExtraCodeBack.calls k _ _ l0 true w (Kd.C_of_reads (d := (0 : Int)) (h1 := fun _ => rfl) hr0) hc0 h (hG := hG)).mono ?_
  rintro e w' ⟨rfl, hd⟩
  exact ⟨rfl, hd⟩

end Go.Proofs.YtlkonnkglbfkbaaDoor.PE

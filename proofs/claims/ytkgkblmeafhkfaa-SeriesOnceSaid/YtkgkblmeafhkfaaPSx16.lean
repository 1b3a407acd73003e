-- Written by a program of the session (wip/tools).
import Derived.Test.YtkgkblmeafhkfaaPSx0
import Derived.Test.YtkgkblmeafhkfaaPSx4
import Derived.Test.YtkgkblmeafhkfaaPSx14
import Derived.Test.YtkgkblmeafhkfaaPSx15
namespace Go.Proofs.Ytkgkblmeafhkfaa.PS
open Go.RowKit Go.Proofs.YtkgkblmeafhkfaaW.PrintWords Go.Proofs.YtkgkblmeafhkfaaW.PrintLast Go.Proofs.YtkgkblmeafhkfaaW.PrintMore
attribute [local go_sem] max2_int min2_int max_two min_two max_three min_three max_four min_four   -- for this text's walks alone
set_option linter.unusedVariables false
set_option linter.unusedSimpArgs false

/-! ### posthornlaw23_SeriesOnce: function 3 -/
mutual
def posthornlaw23_SeriesOnce.j0 : Nat → Int → Int → Bool → Int → Int → Bool → Int → Int → Int → Int → List Int → List Int → List (S78) → List Int → List Int → List (S39) → Option (Bool)
 | 0, _, _, _, _, _, _, _, _, _, _, _, _, _, _, _, _ => none
 | k + 1, x1, x2, x20, x302000, x302001, x302002, x302003, x302004, x302005, x302006, x302007, x302008, x302009, x302010, x302011, x302012 => if x20 = true then ((posthornlaw23_alive.f k).bind fun t304 => (some t304)) else ((series_Instances.f k x302000 x302001 x302002 x302003 x302004 x302005 x302006 x302007 x302008 x302009 x302010 x302011 x302012 x1 x2).bind fun bt305 => (if bt305.2 = 0 then (posthornlaw23_SeriesOnce.l0 k x1 x2 bt305.1 0 x302000 x302001 x302002 x302003 x302004 x302005 x302006 x302007 x302008 x302009 x302010 x302011 x302012) else ((posthornlaw23_alive.f k).bind fun t309 => (if t309 = true then (some ((bt305.1.length : Int) == 0)) else (some false)))))
def posthornlaw23_SeriesOnce.l0 : Nat → Int → Int → List (S37) → Int → Int → Int → Bool → Int → Int → Int → Int → List Int → List Int → List (S78) → List Int → List Int → List (S39) → Option (Bool)
 | 0, _, _, _, _, _, _, _, _, _, _, _, _, _, _, _, _, _ => none
 | k + 1, x1, x2, x7, x9, x302000, x302001, x302002, x302003, x302004, x302005, x302006, x302007, x302008, x302009, x302010, x302011, x302012 => if x9 < (x7.length : Int) then (posthornlaw23_SeriesOnce.l1 k x1 x2 x7 x9 0 x302000 x302001 x302002 x302003 x302004 x302005 x302006 x302007 x302008 x302009 x302010 x302011 x302012) else ((posthornlaw23_alive.f k).bind fun t310 => (some t310))
def posthornlaw23_SeriesOnce.l1 : Nat → Int → Int → List (S37) → Int → Int → Int → Int → Bool → Int → Int → Int → Int → List Int → List Int → List (S78) → List Int → List Int → List (S39) → Option (Bool)
 | 0, _, _, _, _, _, _, _, _, _, _, _, _, _, _, _, _, _, _ => none
 | k + 1, x1, x2, x7, x9, x10, x302000, x302001, x302002, x302003, x302004, x302005, x302006, x302007, x302008, x302009, x302010, x302011, x302012 => if x10 < x9 then (if 0 ≤ x10 then (if x10 < (x7.length : Int) then (if 0 ≤ x9 then (if x9 < (x7.length : Int) then (if ((rd_T37 x7 x10).f0) = ((rd_T37 x7 x9).f0) then (some false) else (posthornlaw23_SeriesOnce.l1 k x1 x2 x7 x9 (wrap64 (x10 + 1)) x302000 x302001 x302002 x302003 x302004 x302005 x302006 x302007 x302008 x302009 x302010 x302011 x302012)) else (none)) else (none)) else (none)) else (none)) else (posthornlaw23_SeriesOnce.l2 k x1 x2 x7 x9 0 x302000 x302001 x302002 x302003 x302004 x302005 x302006 x302007 x302008 x302009 x302010 x302011 x302012)
def posthornlaw23_SeriesOnce.l2 : Nat → Int → Int → List (S37) → Int → Int → Int → Int → Bool → Int → Int → Int → Int → List Int → List Int → List (S78) → List Int → List Int → List (S39) → Option (Bool)
 | 0, _, _, _, _, _, _, _, _, _, _, _, _, _, _, _, _, _, _ => none
 | k + 1, x1, x2, x7, x9, x11, x302000, x302001, x302002, x302003, x302004, x302005, x302006, x302007, x302008, x302009, x302010, x302011, x302012 => if x11 < (x302010.length : Int) then (if 0 ≤ x11 then (if 0 ≤ x9 then (if x9 < (x7.length : Int) then (if (rd x302010 x11) = ((rd_T37 x7 x9).f0) then (some false) else (posthornlaw23_SeriesOnce.l2 k x1 x2 x7 x9 (wrap64 (x11 + 1)) x302000 x302001 x302002 x302003 x302004 x302005 x302006 x302007 x302008 x302009 x302010 x302011 x302012)) else (none)) else (none)) else (none)) else (posthornlaw23_SeriesOnce.l3 k x1 x2 x7 x9 0 x302000 x302001 x302002 x302003 x302004 x302005 x302006 x302007 x302008 x302009 x302010 x302011 x302012)
def posthornlaw23_SeriesOnce.l3 : Nat → Int → Int → List (S37) → Int → Int → Int → Int → Bool → Int → Int → Int → Int → List Int → List Int → List (S78) → List Int → List Int → List (S39) → Option (Bool)
 | 0, _, _, _, _, _, _, _, _, _, _, _, _, _, _, _, _, _, _ => none
 | k + 1, x1, x2, x7, x9, x12, x302000, x302001, x302002, x302003, x302004, x302005, x302006, x302007, x302008, x302009, x302010, x302011, x302012 => if x12 < (x302012.length : Int) then (if 0 ≤ x12 then (if 0 ≤ x9 then (if x9 < (x7.length : Int) then (if ((rd_T39 x302012 x12).f0) = ((rd_T37 x7 x9).f0) then (if (rd_T39 x302012 x12).f3 = true then (some false) else (if ((rd_T37 x7 x9).f3 = true) then (if ((rd_T37 x7 x9).f1) = ((rd_T39 x302012 x12).f1) then (posthornlaw23_SeriesOnce.l3 k x1 x2 x7 x9 (wrap64 (x12 + 1)) x302000 x302001 x302002 x302003 x302004 x302005 x302006 x302007 x302008 x302009 x302010 x302011 x302012) else (some false)) else (some false))) else (posthornlaw23_SeriesOnce.l3 k x1 x2 x7 x9 (wrap64 (x12 + 1)) x302000 x302001 x302002 x302003 x302004 x302005 x302006 x302007 x302008 x302009 x302010 x302011 x302012)) else (none)) else (none)) else (none)) else (if 0 ≤ x9 then (if x9 < (x7.length : Int) then (if ((rd_T37 x7 x9).f3 = true) then (if ((rd_T37 x7 x9).f1) ≥ x2 then (posthornlaw23_SeriesOnce.j5 k x1 x2 x7 x9 true x302000 x302001 x302002 x302003 x302004 x302005 x302006 x302007 x302008 x302009 x302010 x302011 x302012) else (posthornlaw23_SeriesOnce.j5 k x1 x2 x7 x9 (decide (((rd_T37 x7 x9).f2) < x1)) x302000 x302001 x302002 x302003 x302004 x302005 x302006 x302007 x302008 x302009 x302010 x302011 x302012)) else (if ((rd_T37 x7 x9).f1) = ((rd_T37 x7 x9).f0) then (if (wrap64 (((rd_T37 x7 x9).f2) - ((rd_T37 x7 x9).f1))) = x302001 then (if ((rd_T37 x7 x9).f1) ≥ x2 then (posthornlaw23_SeriesOnce.j5 k x1 x2 x7 x9 true x302000 x302001 x302002 x302003 x302004 x302005 x302006 x302007 x302008 x302009 x302010 x302011 x302012) else (posthornlaw23_SeriesOnce.j5 k x1 x2 x7 x9 (decide (((rd_T37 x7 x9).f2) < x1)) x302000 x302001 x302002 x302003 x302004 x302005 x302006 x302007 x302008 x302009 x302010 x302011 x302012)) else (posthornlaw23_SeriesOnce.j5 k x1 x2 x7 x9 true x302000 x302001 x302002 x302003 x302004 x302005 x302006 x302007 x302008 x302009 x302010 x302011 x302012)) else (posthornlaw23_SeriesOnce.j5 k x1 x2 x7 x9 true x302000 x302001 x302002 x302003 x302004 x302005 x302006 x302007 x302008 x302009 x302010 x302011 x302012))) else (none)) else (none))
def posthornlaw23_SeriesOnce.j5 : Nat → Int → Int → List (S37) → Int → Bool → Int → Int → Bool → Int → Int → Int → Int → List Int → List Int → List (S78) → List Int → List Int → List (S39) → Option (Bool)
 | 0, _, _, _, _, _, _, _, _, _, _, _, _, _, _, _, _, _, _ => none
 | k + 1, x1, x2, x7, x9, x178, x302000, x302001, x302002, x302003, x302004, x302005, x302006, x302007, x302008, x302009, x302010, x302011, x302012 => if x178 = true then (some false) else (if x9 > 0 then (if 0 ≤ (wrap64 (x9 - 1)) then (if (wrap64 (x9 - 1)) < (x7.length : Int) then (if 0 ≤ x9 then (if x9 < (x7.length : Int) then (if ((rd_T37 x7 (wrap64 (x9 - 1))).f1) > ((rd_T37 x7 x9).f1) then (some false) else (posthornlaw23_SeriesOnce.l0 k x1 x2 x7 (wrap64 (x9 + 1)) x302000 x302001 x302002 x302003 x302004 x302005 x302006 x302007 x302008 x302009 x302010 x302011 x302012)) else (none)) else (none)) else (none)) else (none)) else (posthornlaw23_SeriesOnce.l0 k x1 x2 x7 (wrap64 (x9 + 1)) x302000 x302001 x302002 x302003 x302004 x302005 x302006 x302007 x302008 x302009 x302010 x302011 x302012))
end
def posthornlaw23_SeriesOnce.f (k : Nat) (a0_0 : Int) (a0_1 : Int) (a0_2 : Bool) (a0_3 : Int) (a0_4 : Int) (a0_5 : Int) (a0_6 : Int) (l0_7 : List Int) (l0_8 : List Int) (l0_9 : List (S78)) (l0_10 : List Int) (l0_11 : List Int) (l0_12 : List (S39)) (a1 : Int) (a2 : Int) : Option (Bool) := (posthornlaw23_Great.f a0_0 a0_1 a0_2 a0_3 a0_4 a0_5 a0_6 l0_7 l0_8 l0_9 l0_10 l0_11 l0_12 a2).bind fun t302 => (if t302 = true then (posthornlaw23_SeriesOnce.j0 k a1 a2 true a0_0 a0_1 a0_2 a0_3 a0_4 a0_5 a0_6 l0_7 l0_8 l0_9 l0_10 l0_11 l0_12) else ((posthornlaw23_Great.f a0_0 a0_1 a0_2 a0_3 a0_4 a0_5 a0_6 l0_7 l0_8 l0_9 l0_10 l0_11 l0_12 a1).bind fun t303 => (posthornlaw23_SeriesOnce.j0 k a1 a2 t303 a0_0 a0_1 a0_2 a0_3 a0_4 a0_5 a0_6 l0_7 l0_8 l0_9 l0_10 l0_11 l0_12)))
theorem posthornlaw23_SeriesOnce.mono_l : ∀ k, (∀ y0 y1 y2 y3 y4 y5 y6 y7 y8 y9 y10 y11 y12 y13 y14 y15, LeO (posthornlaw23_SeriesOnce.j0 k y0 y1 y2 y3 y4 y5 y6 y7 y8 y9 y10 y11 y12 y13 y14 y15) (posthornlaw23_SeriesOnce.j0 (k + 1) y0 y1 y2 y3 y4 y5 y6 y7 y8 y9 y10 y11 y12 y13 y14 y15)) ∧ (∀ y0 y1 y2 y3 y4 y5 y6 y7 y8 y9 y10 y11 y12 y13 y14 y15 y16, LeO (posthornlaw23_SeriesOnce.l0 k y0 y1 y2 y3 y4 y5 y6 y7 y8 y9 y10 y11 y12 y13 y14 y15 y16) (posthornlaw23_SeriesOnce.l0 (k + 1) y0 y1 y2 y3 y4 y5 y6 y7 y8 y9 y10 y11 y12 y13 y14 y15 y16)) ∧ (∀ y0 y1 y2 y3 y4 y5 y6 y7 y8 y9 y10 y11 y12 y13 y14 y15 y16 y17, LeO (posthornlaw23_SeriesOnce.l1 k y0 y1 y2 y3 y4 y5 y6 y7 y8 y9 y10 y11 y12 y13 y14 y15 y16 y17) (posthornlaw23_SeriesOnce.l1 (k + 1) y0 y1 y2 y3 y4 y5 y6 y7 y8 y9 y10 y11 y12 y13 y14 y15 y16 y17)) ∧ (∀ y0 y1 y2 y3 y4 y5 y6 y7 y8 y9 y10 y11 y12 y13 y14 y15 y16 y17, LeO (posthornlaw23_SeriesOnce.l2 k y0 y1 y2 y3 y4 y5 y6 y7 y8 y9 y10 y11 y12 y13 y14 y15 y16 y17) (posthornlaw23_SeriesOnce.l2 (k + 1) y0 y1 y2 y3 y4 y5 y6 y7 y8 y9 y10 y11 y12 y13 y14 y15 y16 y17)) ∧ (∀ y0 y1 y2 y3 y4 y5 y6 y7 y8 y9 y10 y11 y12 y13 y14 y15 y16 y17, LeO (posthornlaw23_SeriesOnce.l3 k y0 y1 y2 y3 y4 y5 y6 y7 y8 y9 y10 y11 y12 y13 y14 y15 y16 y17) (posthornlaw23_SeriesOnce.l3 (k + 1) y0 y1 y2 y3 y4 y5 y6 y7 y8 y9 y10 y11 y12 y13 y14 y15 y16 y17)) ∧ (∀ y0 y1 y2 y3 y4 y5 y6 y7 y8 y9 y10 y11 y12 y13 y14 y15 y16 y17, LeO (posthornlaw23_SeriesOnce.j5 k y0 y1 y2 y3 y4 y5 y6 y7 y8 y9 y10 y11 y12 y13 y14 y15 y16 y17) (posthornlaw23_SeriesOnce.j5 (k + 1) y0 y1 y2 y3 y4 y5 y6 y7 y8 y9 y10 y11 y12 y13 y14 y15 y16 y17))
 | 0 => ⟨fun _ _ _ _ _ _ _ _ _ _ _ _ _ _ _ _ r h => by simp [posthornlaw23_SeriesOnce.j0] at h, fun _ _ _ _ _ _ _ _ _ _ _ _ _ _ _ _ _ r h => by simp [posthornlaw23_SeriesOnce.l0] at h, fun _ _ _ _ _ _ _ _ _ _ _ _ _ _ _ _ _ _ r h => by simp [posthornlaw23_SeriesOnce.l1] at h, fun _ _ _ _ _ _ _ _ _ _ _ _ _ _ _ _ _ _ r h => by simp [posthornlaw23_SeriesOnce.l2] at h, fun _ _ _ _ _ _ _ _ _ _ _ _ _ _ _ _ _ _ r h => by simp [posthornlaw23_SeriesOnce.l3] at h, fun _ _ _ _ _ _ _ _ _ _ _ _ _ _ _ _ _ _ r h => by simp [posthornlaw23_SeriesOnce.j5] at h⟩
 | k + 1 => by
  obtain ⟨ih0, ih1, ih2, ih3, ih4, ih5⟩ := posthornlaw23_SeriesOnce.mono_l k
  refine ⟨?_, ?_, ?_, ?_, ?_, ?_⟩
  all_goals
   intros
   first | unfold posthornlaw23_SeriesOnce.j0 | unfold posthornlaw23_SeriesOnce.l0 | unfold posthornlaw23_SeriesOnce.l1 | unfold posthornlaw23_SeriesOnce.l2 | unfold posthornlaw23_SeriesOnce.l3 | unfold posthornlaw23_SeriesOnce.j5
   repeat' first
   | (with_reducible exact ih0 ..)
   | (with_reducible exact ih1 ..)
   | (with_reducible exact ih2 ..)
   | (with_reducible exact ih3 ..)
   | (with_reducible exact ih4 ..)
   | (with_reducible exact ih5 ..)
   | (with_reducible exact posthornlaw23_alive.mono ..)
   | (with_reducible exact series_Instances.mono ..)
   | (with_reducible exact LeO.refl ..)
   | (with_reducible exact LeO.none ..)
   | (with_reducible refine LeO.ite ?_ ?_)
   | (with_reducible refine LeO.bind ?_ (fun _ => ?_))
   | exact ih0 ..
   | exact ih1 ..
   | exact ih2 ..
   | exact ih3 ..
   | exact ih4 ..
   | exact ih5 ..
   | exact posthornlaw23_alive.mono ..
   | exact series_Instances.mono ..
   | exact LeO.none ..
   | refine LeO.ite ?_ ?_
   | refine LeO.bind ?_ (fun _ => ?_)
theorem posthornlaw23_SeriesOnce.mono : ∀ a0 a1 a2 a3 a4 a5 a6 a7 a8 a9 a10 a11 a12 a13 a14 k, LeO (posthornlaw23_SeriesOnce.f k a0 a1 a2 a3 a4 a5 a6 a7 a8 a9 a10 a11 a12 a13 a14) (posthornlaw23_SeriesOnce.f (k + 1) a0 a1 a2 a3 a4 a5 a6 a7 a8 a9 a10 a11 a12 a13 a14) := by
 intro a0 a1 a2 a3 a4 a5 a6 a7 a8 a9 a10 a11 a12 a13 a14 k
 obtain ⟨ih0, ih1, ih2, ih3, ih4, ih5⟩ := posthornlaw23_SeriesOnce.mono_l k
 unfold posthornlaw23_SeriesOnce.f
 repeat' first
   | (with_reducible exact ih0 ..)
   | (with_reducible exact ih1 ..)
   | (with_reducible exact ih2 ..)
   | (with_reducible exact ih3 ..)
   | (with_reducible exact ih4 ..)
   | (with_reducible exact ih5 ..)
   | (with_reducible exact posthornlaw23_alive.mono ..)
   | (with_reducible exact series_Instances.mono ..)
   | (with_reducible exact LeO.refl ..)
   | (with_reducible exact LeO.none ..)
   | (with_reducible refine LeO.ite ?_ ?_)
   | (with_reducible refine LeO.bind ?_ (fun _ => ?_))
   | exact ih0 ..
   | exact ih1 ..
   | exact ih2 ..
   | exact ih3 ..
   | exact ih4 ..
   | exact ih5 ..
   | exact posthornlaw23_alive.mono ..
   | exact series_Instances.mono ..
   | exact LeO.none ..
   | refine LeO.ite ?_ ?_
   | refine LeO.bind ?_ (fun _ => ?_)
set_option maxHeartbeats 8000000 in
set_option maxRecDepth 100000 in
theorem posthornlaw23_SeriesOnce.calls (k : Nat) (a0_0 : Int) (a0_1 : Int) (a0_2 : Bool) (a0_3 : Int) (a0_4 : Int) (a0_5 : Int) (a0_6 : Int) (A0_7 : Option Addr) (c0_7 : Nat) (l0_7 : List Int) (A0_8 : Option Addr) (c0_8 : Nat) (l0_8 : List Int) (A0_9 : Option Addr) (c0_9 : Nat) (l0_9 : List (S78)) (A0_10 : Option Addr) (c0_10 : Nat) (l0_10 : List Int) (A0_11 : Option Addr) (c0_11 : Nat) (l0_11 : List Int) (A0_12 : Option Addr) (c0_12 : Nat) (l0_12 : List (S39)) (a1 : Int) (a2 : Int) (r : Bool) (w : World) (hr0_7 : Kd.C (Kd.int .i64) w A0_7 l0_7.length l0_7) (hc0_7 : l0_7.length ≤ c0_7) (hr0_8 : Kd.C (Kd.int .i64) w A0_8 l0_8.length l0_8) (hc0_8 : l0_8.length ≤ c0_8) (hr0_9 : Kd.C k78 w A0_9 l0_9.length l0_9) (hc0_9 : l0_9.length ≤ c0_9) (hr0_10 : Kd.C (Kd.int .i64) w A0_10 l0_10.length l0_10) (hc0_10 : l0_10.length ≤ c0_10) (hr0_11 : Kd.C (Kd.int .i64) w A0_11 l0_11.length l0_11) (hc0_11 : l0_11.length ≤ c0_11) (hr0_12 : Kd.C k39 w A0_12 l0_12.length l0_12) (hc0_12 : l0_12.length ≤ c0_12) (h : posthornlaw23_SeriesOnce.f k a0_0 a0_1 a0_2 a0_3 a0_4 a0_5 a0_6 l0_7 l0_8 l0_9 l0_10 l0_11 l0_12 a1 a2 = some r) (hr_ : Aside0 (r = true) := by first | exact ⟨rfl⟩ | assumption) :
  Calls Try.prog 3 #[.agg #[.int .i64 a0_0, .int .i64 a0_1, .bool a0_2, .int .i64 a0_3, .int .i64 a0_4, .int .i64 a0_5, .int .i64 a0_6, .slice A0_7 l0_7.length c0_7, .slice A0_8 l0_8.length c0_8, .slice A0_9 l0_9.length c0_9, .slice A0_10 l0_10.length c0_10, .slice A0_11 l0_11.length c0_11, .slice A0_12 l0_12.length c0_12], .int .i64 a1, .int .i64 a2] w fun e w' => e = .returned (.bool r) ∧ Below w.heap.size w w' := by
 have hu29 := Try.underlying29
 have HR0_7 := Aside0.mk hr0_7
 have HC0_7 := Aside0.mk hc0_7
 clear hr0_7 hc0_7
 have HR0_8 := Aside0.mk hr0_8
 have HC0_8 := Aside0.mk hc0_8
 clear hr0_8 hc0_8
 have HR0_9 := Aside0.mk hr0_9
 have HC0_9 := Aside0.mk hc0_9
 clear hr0_9 hc0_9
 have HR0_10 := Aside0.mk hr0_10
 have HC0_10 := Aside0.mk hc0_10
 clear hr0_10 hc0_10
 have HR0_11 := Aside0.mk hr0_11
 have HC0_11 := Aside0.mk hc0_11
 clear hr0_11 hc0_11
 have HR0_12 := Aside0.mk hr0_12
 have HC0_12 := Aside0.mk hc0_12
 clear hr0_12 hc0_12
 have HB := ad_ (Below.refl w.heap.size w)
 have H : ((posthornlaw23_Great.f a0_0 a0_1 a0_2 a0_3 a0_4 a0_5 a0_6 l0_7 l0_8 l0_9 l0_10 l0_11 l0_12 a2).bind fun t302 => (if t302 = true then (posthornlaw23_SeriesOnce.j0 k a1 a2 true a0_0 a0_1 a0_2 a0_3 a0_4 a0_5 a0_6 l0_7 l0_8 l0_9 l0_10 l0_11 l0_12) else ((posthornlaw23_Great.f a0_0 a0_1 a0_2 a0_3 a0_4 a0_5 a0_6 l0_7 l0_8 l0_9 l0_10 l0_11 l0_12 a1).bind fun t303 => (posthornlaw23_SeriesOnce.j0 k a1 a2 t303 a0_0 a0_1 a0_2 a0_3 a0_4 a0_5 a0_6 l0_7 l0_8 l0_9 l0_10 l0_11 l0_12)))) = some r := h
 clear h
 have HC4 := Aside0.mk H
 clear H
 go_enter Try.func3, Try.ntmps3
 go_upto_region 1 with (first | ((with_reducible refine gate_dst (N := 3) rfl ?_); (try (refine gate_guard (by rfl) ?_; dsimp only)); refine box_event ?hg (N := 3) ?hd (cs := #[.int .i64 a0_0, .int .i64 a0_1, .bool a0_2, .int .i64 a0_3, .int .i64 a0_4, .int .i64 a0_5, .int .i64 a0_6, .slice A0_7 l0_7.length c0_7, .slice A0_8 l0_8.length c0_8, .slice A0_9 l0_9.length c0_9, .slice A0_10 l0_10.length c0_10, .slice A0_11 l0_11.length c0_11, .slice A0_12 l0_12.length c0_12]) (t := 29) ?hr ?_; (case hd => rfl); (case hg => rfl); (case hr => first | (go_simp; done) | (go_simp; rfl)); intro gb301 hg w5 hbox hb; have n0_ := ad_ (below_step bel_ hb); have n1_ := ad_ (hbox); have n2_ := ad_ ((by rw [hg]; exact (below_size bel_) : w.heap.size ≤ gb301)); have n3_ := ad_ ((by rw [hg]; exact (below_size bel_) : w.heap.size ≤ gb301)); clear HB; have HB := n0_; have BK301 := n1_; have GW301 := n2_; have GE301 := n3_; clear n0_ n1_ n2_ n3_; clear hb hbox hg))
 repeat (go_quiet (first | ((with_reducible refine gate_dst (N := 3) rfl ?_); (try (refine gate_guard (by rfl) ?_; dsimp only)); refine box_event ?hg (N := 3) ?hd (cs := #[.int .i64 a0_0, .int .i64 a0_1, .bool a0_2, .int .i64 a0_3, .int .i64 a0_4, .int .i64 a0_5, .int .i64 a0_6, .slice A0_7 l0_7.length c0_7, .slice A0_8 l0_8.length c0_8, .slice A0_9 l0_9.length c0_9, .slice A0_10 l0_10.length c0_10, .slice A0_11 l0_11.length c0_11, .slice A0_12 l0_12.length c0_12]) (t := 29) ?hr ?_; (case hd => rfl); (case hg => rfl); (case hr => first | (go_simp; done) | (go_simp; rfl)); intro gb301 hg w5 hbox hb; have n0_ := ad_ (below_step bel_ hb); have n1_ := ad_ (hbox); have n2_ := ad_ ((by rw [hg]; exact (below_size bel_) : w.heap.size ≤ gb301)); have n3_ := ad_ ((by rw [hg]; exact (below_size bel_) : w.heap.size ≤ gb301)); clear HB; have HB := n0_; have BK301 := n1_; have GW301 := n2_; have GE301 := n3_; clear n0_ n1_ n2_ n3_; clear hb hbox hg)); go_upto_region 1 with (first | ((with_reducible refine gate_dst (N := 3) rfl ?_); (try (refine gate_guard (by rfl) ?_; dsimp only)); refine box_event ?hg (N := 3) ?hd (cs := #[.int .i64 a0_0, .int .i64 a0_1, .bool a0_2, .int .i64 a0_3, .int .i64 a0_4, .int .i64 a0_5, .int .i64 a0_6, .slice A0_7 l0_7.length c0_7, .slice A0_8 l0_8.length c0_8, .slice A0_9 l0_9.length c0_9, .slice A0_10 l0_10.length c0_10, .slice A0_11 l0_11.length c0_11, .slice A0_12 l0_12.length c0_12]) (t := 29) ?hr ?_; (case hd => rfl); (case hg => rfl); (case hr => first | (go_simp; done) | (go_simp; rfl)); intro gb301 hg w5 hbox hb; have n0_ := ad_ (below_step bel_ hb); have n1_ := ad_ (hbox); have n2_ := ad_ ((by rw [hg]; exact (below_size bel_) : w.heap.size ≤ gb301)); have n3_ := ad_ ((by rw [hg]; exact (below_size bel_) : w.heap.size ≤ gb301)); clear HB; have HB := n0_; have BK301 := n1_; have GW301 := n2_; have GE301 := n3_; clear n0_ n1_ n2_ n3_; clear hb hbox hg)))
 (try simp only [Act.put, List.setIfInBounds_toArray, List.set_cons_zero, List.set_cons_succ])
 go_cut [20] (fun v20 wc => ∃ (kq : Nat) (x20_3 : Bool), v20 = .bool x20_3 ∧ Aside0 (posthornlaw23_SeriesOnce.j0 kq a1 a2 x20_3 a0_0 a0_1 a0_2 a0_3 a0_4 a0_5 a0_6 l0_7 l0_8 l0_9 l0_10 l0_11 l0_12 = some r) ∧ Aside0 (kq ≤ k) ∧ Aside0 (wc.heap[gb301]? = some (.cells #[.int .i64 a0_0, .int .i64 a0_1, .bool a0_2, .int .i64 a0_3, .int .i64 a0_4, .int .i64 a0_5, .int .i64 a0_6, (.slice A0_7 l0_7.length c0_7), (.slice A0_8 l0_8.length c0_8), (.slice A0_9 l0_9.length c0_9), (.slice A0_10 l0_10.length c0_10), (.slice A0_11 l0_11.length c0_11), (.slice A0_12 l0_12.length c0_12)] 29 (0, 0))) ∧ Aside0 (Below w.heap.size w wc))
 case first =>
  as_aux_lemma =>
  have H := HC4.out
  clear HC4
  replace H := Option.bind_eq_some_iff.mp H
  obtain ⟨t302, A60, H⟩ := H
  try dsimp only at H
  have A6 := Aside0.mk A60
  clear A60
  by_cases c7 : t302 = true
  ·subst c7
   have H1 := ifp_ H
   clear H
   have H := H1
   clear H1
   have H' := Aside0.mk H
   clear H
   have hcz8_ := cells13_ BK301.out
   go_wp2_with (first | (go_at_call 7; (with_reducible refine (posthornlaw23_Great.calls a0_0 a0_1 a0_2 a0_3 a0_4 a0_5 a0_6 _ _ l0_7 _ _ l0_8 _ _ l0_9 _ _ l0_10 _ _ l0_11 _ _ l0_12 a2 true _ ?side1 ?side2 ?side3 ?side4 ?side5 ?side6 ?side7 ?side8 ?side9 ?side10 ?side11 ?side12 A6.out).mono ?_); (case side1 => exact cop_ (Kd.C_below HR0_7.out HB.out)); (case side2 => exact HC0_7.out); (case side3 => exact cop_ (Kd.C_below HR0_8.out HB.out)); (case side4 => exact HC0_8.out); (case side5 => exact cop_ (Kd.C_below HR0_9.out HB.out)); (case side6 => exact HC0_9.out); (case side7 => exact cop_ (Kd.C_below HR0_10.out HB.out)); (case side8 => exact HC0_10.out); (case side9 => exact cop_ (Kd.C_below HR0_11.out HB.out)); (case side10 => exact HC0_11.out); (case side11 => exact cop_ (Kd.C_below HR0_12.out HB.out)); (case side12 => exact HC0_12.out); rintro e w9 ⟨rfl, hb⟩; have n0_ := ad_ (blk_below (g := gb301) (o := .cells #[.int .i64 a0_0, .int .i64 a0_1, .bool a0_2, .int .i64 a0_3, .int .i64 a0_4, .int .i64 a0_5, .int .i64 a0_6, .slice A0_7 l0_7.length c0_7, .slice A0_8 l0_8.length c0_8, .slice A0_9 l0_9.length c0_9, .slice A0_10 l0_10.length c0_10, .slice A0_11 l0_11.length c0_11, .slice A0_12 l0_12.length c0_12] 29 (0, 0)) (blo_ BK301.out) hb); have n1_ := ad_ (below_step belg_ hb); clear BK301; clear HB; have BK301 := n0_; have HB := n1_; clear n0_ n1_; (try clear hb); (try clear hb2); (try clear hk); (try clear hi)))
   repeat (go_quiet (first | (go_at_call 7; (with_reducible refine (posthornlaw23_Great.calls a0_0 a0_1 a0_2 a0_3 a0_4 a0_5 a0_6 _ _ l0_7 _ _ l0_8 _ _ l0_9 _ _ l0_10 _ _ l0_11 _ _ l0_12 a2 true _ ?side1 ?side2 ?side3 ?side4 ?side5 ?side6 ?side7 ?side8 ?side9 ?side10 ?side11 ?side12 A6.out).mono ?_); (case side1 => exact cop_ (Kd.C_below HR0_7.out HB.out)); (case side2 => exact HC0_7.out); (case side3 => exact cop_ (Kd.C_below HR0_8.out HB.out)); (case side4 => exact HC0_8.out); (case side5 => exact cop_ (Kd.C_below HR0_9.out HB.out)); (case side6 => exact HC0_9.out); (case side7 => exact cop_ (Kd.C_below HR0_10.out HB.out)); (case side8 => exact HC0_10.out); (case side9 => exact cop_ (Kd.C_below HR0_11.out HB.out)); (case side10 => exact HC0_11.out); (case side11 => exact cop_ (Kd.C_below HR0_12.out HB.out)); (case side12 => exact HC0_12.out); rintro e w9 ⟨rfl, hb⟩; have n0_ := ad_ (blk_below (g := gb301) (o := .cells #[.int .i64 a0_0, .int .i64 a0_1, .bool a0_2, .int .i64 a0_3, .int .i64 a0_4, .int .i64 a0_5, .int .i64 a0_6, .slice A0_7 l0_7.length c0_7, .slice A0_8 l0_8.length c0_8, .slice A0_9 l0_9.length c0_9, .slice A0_10 l0_10.length c0_10, .slice A0_11 l0_11.length c0_11, .slice A0_12 l0_12.length c0_12] 29 (0, 0)) (blo_ BK301.out) hb); have n1_ := ad_ (below_step belg_ hb); clear BK301; clear HB; have BK301 := n0_; have HB := n1_; clear n0_ n1_; (try clear hb); (try clear hb2); (try clear hk); (try clear hi))); try go_wp2_with (first | (go_at_call 7; (with_reducible refine (posthornlaw23_Great.calls a0_0 a0_1 a0_2 a0_3 a0_4 a0_5 a0_6 _ _ l0_7 _ _ l0_8 _ _ l0_9 _ _ l0_10 _ _ l0_11 _ _ l0_12 a2 true _ ?side1 ?side2 ?side3 ?side4 ?side5 ?side6 ?side7 ?side8 ?side9 ?side10 ?side11 ?side12 A6.out).mono ?_); (case side1 => exact cop_ (Kd.C_below HR0_7.out HB.out)); (case side2 => exact HC0_7.out); (case side3 => exact cop_ (Kd.C_below HR0_8.out HB.out)); (case side4 => exact HC0_8.out); (case side5 => exact cop_ (Kd.C_below HR0_9.out HB.out)); (case side6 => exact HC0_9.out); (case side7 => exact cop_ (Kd.C_below HR0_10.out HB.out)); (case side8 => exact HC0_10.out); (case side9 => exact cop_ (Kd.C_below HR0_11.out HB.out)); (case side10 => exact HC0_11.out); (case side11 => exact cop_ (Kd.C_below HR0_12.out HB.out)); (case side12 => exact HC0_12.out); rintro e w9 ⟨rfl, hb⟩; have n0_ := ad_ (blk_below (g := gb301) (o := .cells #[.int .i64 a0_0, .int .i64 a0_1, .bool a0_2, .int .i64 a0_3, .int .i64 a0_4, .int .i64 a0_5, .int .i64 a0_6, .slice A0_7 l0_7.length c0_7, .slice A0_8 l0_8.length c0_8, .slice A0_9 l0_9.length c0_9, .slice A0_10 l0_10.length c0_10, .slice A0_11 l0_11.length c0_11, .slice A0_12 l0_12.length c0_12] 29 (0, 0)) (blo_ BK301.out) hb); have n1_ := ad_ (below_step belg_ hb); clear BK301; clear HB; have BK301 := n0_; have HB := n1_; clear n0_ n1_; (try clear hb); (try clear hb2); (try clear hk); (try clear hi))))
   go_meet
   case rel => exact ⟨_, (true), val_, H', ⟨by first | omega | exact Nat.le_refl _⟩, ⟨blo_ BK301.out⟩, ⟨belg_⟩⟩
  ·as_aux_lemma =>
   replace c7 := Bool.eq_false_iff.mpr c7
   subst c7
   have H1 := ifn_ H
   clear H
   have H := H1
   clear H1
   replace H := Option.bind_eq_some_iff.mp H
   obtain ⟨t303, A100, H⟩ := H
   try dsimp only at H
   have A10 := Aside0.mk A100
   clear A100
   have H' := Aside0.mk H
   clear H
   have hcz11_ := cells13_ BK301.out
   go_wp2_with (first | (go_at_call 7; (with_reducible refine (posthornlaw23_Great.calls a0_0 a0_1 a0_2 a0_3 a0_4 a0_5 a0_6 _ _ l0_7 _ _ l0_8 _ _ l0_9 _ _ l0_10 _ _ l0_11 _ _ l0_12 a2 false _ ?side1 ?side2 ?side3 ?side4 ?side5 ?side6 ?side7 ?side8 ?side9 ?side10 ?side11 ?side12 A6.out).mono ?_); (case side1 => exact cop_ (Kd.C_below HR0_7.out HB.out)); (case side2 => exact HC0_7.out); (case side3 => exact cop_ (Kd.C_below HR0_8.out HB.out)); (case side4 => exact HC0_8.out); (case side5 => exact cop_ (Kd.C_below HR0_9.out HB.out)); (case side6 => exact HC0_9.out); (case side7 => exact cop_ (Kd.C_below HR0_10.out HB.out)); (case side8 => exact HC0_10.out); (case side9 => exact cop_ (Kd.C_below HR0_11.out HB.out)); (case side10 => exact HC0_11.out); (case side11 => exact cop_ (Kd.C_below HR0_12.out HB.out)); (case side12 => exact HC0_12.out); rintro e w12 ⟨rfl, hb⟩; have n0_ := ad_ (blk_below (g := gb301) (o := .cells #[.int .i64 a0_0, .int .i64 a0_1, .bool a0_2, .int .i64 a0_3, .int .i64 a0_4, .int .i64 a0_5, .int .i64 a0_6, .slice A0_7 l0_7.length c0_7, .slice A0_8 l0_8.length c0_8, .slice A0_9 l0_9.length c0_9, .slice A0_10 l0_10.length c0_10, .slice A0_11 l0_11.length c0_11, .slice A0_12 l0_12.length c0_12] 29 (0, 0)) (blo_ BK301.out) hb); have n1_ := ad_ (below_step belg_ hb); clear BK301; clear HB; have BK301 := n0_; have HB := n1_; clear n0_ n1_; (try clear hb); (try clear hb2); (try clear hk); (try clear hi); have hcz13_ := cells13_ BK301.out) | (go_at_call 7; (with_reducible refine (posthornlaw23_Great.calls a0_0 a0_1 a0_2 a0_3 a0_4 a0_5 a0_6 _ _ l0_7 _ _ l0_8 _ _ l0_9 _ _ l0_10 _ _ l0_11 _ _ l0_12 a1 t303 _ ?side1 ?side2 ?side3 ?side4 ?side5 ?side6 ?side7 ?side8 ?side9 ?side10 ?side11 ?side12 A10.out).mono ?_); (case side1 => exact cop_ (Kd.C_below HR0_7.out HB.out)); (case side2 => exact HC0_7.out); (case side3 => exact cop_ (Kd.C_below HR0_8.out HB.out)); (case side4 => exact HC0_8.out); (case side5 => exact cop_ (Kd.C_below HR0_9.out HB.out)); (case side6 => exact HC0_9.out); (case side7 => exact cop_ (Kd.C_below HR0_10.out HB.out)); (case side8 => exact HC0_10.out); (case side9 => exact cop_ (Kd.C_below HR0_11.out HB.out)); (case side10 => exact HC0_11.out); (case side11 => exact cop_ (Kd.C_below HR0_12.out HB.out)); (case side12 => exact HC0_12.out); rintro e w14 ⟨rfl, hb⟩; have n0_ := ad_ (blk_below (g := gb301) (o := .cells #[.int .i64 a0_0, .int .i64 a0_1, .bool a0_2, .int .i64 a0_3, .int .i64 a0_4, .int .i64 a0_5, .int .i64 a0_6, .slice A0_7 l0_7.length c0_7, .slice A0_8 l0_8.length c0_8, .slice A0_9 l0_9.length c0_9, .slice A0_10 l0_10.length c0_10, .slice A0_11 l0_11.length c0_11, .slice A0_12 l0_12.length c0_12] 29 (0, 0)) (blo_ BK301.out) hb); have n1_ := ad_ (below_step belg_ hb); clear BK301; clear HB; have BK301 := n0_; have HB := n1_; clear n0_ n1_; (try clear hb); (try clear hb2); (try clear hk); (try clear hi)))
   repeat (go_quiet (first | (go_at_call 7; (with_reducible refine (posthornlaw23_Great.calls a0_0 a0_1 a0_2 a0_3 a0_4 a0_5 a0_6 _ _ l0_7 _ _ l0_8 _ _ l0_9 _ _ l0_10 _ _ l0_11 _ _ l0_12 a2 false _ ?side1 ?side2 ?side3 ?side4 ?side5 ?side6 ?side7 ?side8 ?side9 ?side10 ?side11 ?side12 A6.out).mono ?_); (case side1 => exact cop_ (Kd.C_below HR0_7.out HB.out)); (case side2 => exact HC0_7.out); (case side3 => exact cop_ (Kd.C_below HR0_8.out HB.out)); (case side4 => exact HC0_8.out); (case side5 => exact cop_ (Kd.C_below HR0_9.out HB.out)); (case side6 => exact HC0_9.out); (case side7 => exact cop_ (Kd.C_below HR0_10.out HB.out)); (case side8 => exact HC0_10.out); (case side9 => exact cop_ (Kd.C_below HR0_11.out HB.out)); (case side10 => exact HC0_11.out); (case side11 => exact cop_ (Kd.C_below HR0_12.out HB.out)); (case side12 => exact HC0_12.out); rintro e w12 ⟨rfl, hb⟩; have n0_ := ad_ (blk_below (g := gb301) (o := .cells #[.int .i64 a0_0, .int .i64 a0_1, .bool a0_2, .int .i64 a0_3, .int .i64 a0_4, .int .i64 a0_5, .int .i64 a0_6, .slice A0_7 l0_7.length c0_7, .slice A0_8 l0_8.length c0_8, .slice A0_9 l0_9.length c0_9, .slice A0_10 l0_10.length c0_10, .slice A0_11 l0_11.length c0_11, .slice A0_12 l0_12.length c0_12] 29 (0, 0)) (blo_ BK301.out) hb); have n1_ := ad_ (below_step belg_ hb); clear BK301; clear HB; have BK301 := n0_; have HB := n1_; clear n0_ n1_; (try clear hb); (try clear hb2); (try clear hk); (try clear hi); have hcz13_ := cells13_ BK301.out) | (go_at_call 7; (with_reducible refine (posthornlaw23_Great.calls a0_0 a0_1 a0_2 a0_3 a0_4 a0_5 a0_6 _ _ l0_7 _ _ l0_8 _ _ l0_9 _ _ l0_10 _ _ l0_11 _ _ l0_12 a1 t303 _ ?side1 ?side2 ?side3 ?side4 ?side5 ?side6 ?side7 ?side8 ?side9 ?side10 ?side11 ?side12 A10.out).mono ?_); (case side1 => exact cop_ (Kd.C_below HR0_7.out HB.out)); (case side2 => exact HC0_7.out); (case side3 => exact cop_ (Kd.C_below HR0_8.out HB.out)); (case side4 => exact HC0_8.out); (case side5 => exact cop_ (Kd.C_below HR0_9.out HB.out)); (case side6 => exact HC0_9.out); (case side7 => exact cop_ (Kd.C_below HR0_10.out HB.out)); (case side8 => exact HC0_10.out); (case side9 => exact cop_ (Kd.C_below HR0_11.out HB.out)); (case side10 => exact HC0_11.out); (case side11 => exact cop_ (Kd.C_below HR0_12.out HB.out)); (case side12 => exact HC0_12.out); rintro e w14 ⟨rfl, hb⟩; have n0_ := ad_ (blk_below (g := gb301) (o := .cells #[.int .i64 a0_0, .int .i64 a0_1, .bool a0_2, .int .i64 a0_3, .int .i64 a0_4, .int .i64 a0_5, .int .i64 a0_6, .slice A0_7 l0_7.length c0_7, .slice A0_8 l0_8.length c0_8, .slice A0_9 l0_9.length c0_9, .slice A0_10 l0_10.length c0_10, .slice A0_11 l0_11.length c0_11, .slice A0_12 l0_12.length c0_12] 29 (0, 0)) (blo_ BK301.out) hb); have n1_ := ad_ (below_step belg_ hb); clear BK301; clear HB; have BK301 := n0_; have HB := n1_; clear n0_ n1_; (try clear hb); (try clear hb2); (try clear hk); (try clear hi))); try go_wp2_with (first | (go_at_call 7; (with_reducible refine (posthornlaw23_Great.calls a0_0 a0_1 a0_2 a0_3 a0_4 a0_5 a0_6 _ _ l0_7 _ _ l0_8 _ _ l0_9 _ _ l0_10 _ _ l0_11 _ _ l0_12 a2 false _ ?side1 ?side2 ?side3 ?side4 ?side5 ?side6 ?side7 ?side8 ?side9 ?side10 ?side11 ?side12 A6.out).mono ?_); (case side1 => exact cop_ (Kd.C_below HR0_7.out HB.out)); (case side2 => exact HC0_7.out); (case side3 => exact cop_ (Kd.C_below HR0_8.out HB.out)); (case side4 => exact HC0_8.out); (case side5 => exact cop_ (Kd.C_below HR0_9.out HB.out)); (case side6 => exact HC0_9.out); (case side7 => exact cop_ (Kd.C_below HR0_10.out HB.out)); (case side8 => exact HC0_10.out); (case side9 => exact cop_ (Kd.C_below HR0_11.out HB.out)); (case side10 => exact HC0_11.out); (case side11 => exact cop_ (Kd.C_below HR0_12.out HB.out)); (case side12 => exact HC0_12.out); rintro e w12 ⟨rfl, hb⟩; have n0_ := ad_ (blk_below (g := gb301) (o := .cells #[.int .i64 a0_0, .int .i64 a0_1, .bool a0_2, .int .i64 a0_3, .int .i64 a0_4, .int .i64 a0_5, .int .i64 a0_6, .slice A0_7 l0_7.length c0_7, .slice A0_8 l0_8.length c0_8, .slice A0_9 l0_9.length c0_9, .slice A0_10 l0_10.length c0_10, .slice A0_11 l0_11.length c0_11, .slice A0_12 l0_12.length c0_12] 29 (0, 0)) (blo_ BK301.out) hb); have n1_ := ad_ (below_step belg_ hb); clear BK301; clear HB; have BK301 := n0_; have HB := n1_; clear n0_ n1_; (try clear hb); (try clear hb2); (try clear hk); (try clear hi); have hcz13_ := cells13_ BK301.out) | (go_at_call 7; (with_reducible refine (posthornlaw23_Great.calls a0_0 a0_1 a0_2 a0_3 a0_4 a0_5 a0_6 _ _ l0_7 _ _ l0_8 _ _ l0_9 _ _ l0_10 _ _ l0_11 _ _ l0_12 a1 t303 _ ?side1 ?side2 ?side3 ?side4 ?side5 ?side6 ?side7 ?side8 ?side9 ?side10 ?side11 ?side12 A10.out).mono ?_); (case side1 => exact cop_ (Kd.C_below HR0_7.out HB.out)); (case side2 => exact HC0_7.out); (case side3 => exact cop_ (Kd.C_below HR0_8.out HB.out)); (case side4 => exact HC0_8.out); (case side5 => exact cop_ (Kd.C_below HR0_9.out HB.out)); (case side6 => exact HC0_9.out); (case side7 => exact cop_ (Kd.C_below HR0_10.out HB.out)); (case side8 => exact HC0_10.out); (case side9 => exact cop_ (Kd.C_below HR0_11.out HB.out)); (case side10 => exact HC0_11.out); (case side11 => exact cop_ (Kd.C_below HR0_12.out HB.out)); (case side12 => exact HC0_12.out); rintro e w14 ⟨rfl, hb⟩; have n0_ := ad_ (blk_below (g := gb301) (o := .cells #[.int .i64 a0_0, .int .i64 a0_1, .bool a0_2, .int .i64 a0_3, .int .i64 a0_4, .int .i64 a0_5, .int .i64 a0_6, .slice A0_7 l0_7.length c0_7, .slice A0_8 l0_8.length c0_8, .slice A0_9 l0_9.length c0_9, .slice A0_10 l0_10.length c0_10, .slice A0_11 l0_11.length c0_11, .slice A0_12 l0_12.length c0_12] 29 (0, 0)) (blo_ BK301.out) hb); have n1_ := ad_ (below_step belg_ hb); clear BK301; clear HB; have BK301 := n0_; have HB := n1_; clear n0_ n1_; (try clear hb); (try clear hb2); (try clear hk); (try clear hi))))
   go_meet
   case rel => exact ⟨_, (t303), val_, H', ⟨by first | omega | exact Nat.le_refl _⟩, ⟨blo_ BK301.out⟩, ⟨belg_⟩⟩
 case rest =>
  as_aux_lemma =>
  clear HC4
  try clear p2
  try clear c3
  try clear c7
  try clear hcz11_
  try clear hcz13_
  try clear hcz8_
  obtain ⟨kq, x20_3, rfl, HA, HJ3, BK301, HB⟩ := hcut
  cases kq with
  | zero => exact absurd HA.out (by simp [posthornlaw23_SeriesOnce.j0])
  | succ kj3 =>
   have H := HA.out
   clear HA
   simp only [posthornlaw23_SeriesOnce.j0] at H
   by_cases c15 : x20_3 = true
   ·subst c15
    have H1 := ifp_ H
    clear H
    have H := H1
    clear H1
    replace H := Option.bind_eq_some_iff.mp H
    obtain ⟨t304, A160, H⟩ := H
    try dsimp only at H
    have A16 := Aside0.mk A160
    clear A160
    obtain rfl := Option.some.inj H
    go_wp2_with (first | (go_at_call 8; (with_reducible refine (posthornlaw23_alive.calls kj3  t304 _ A16.out).mono ?_); rintro e w17 ⟨rfl, hb⟩; have n0_ := ad_ (blk_below (g := gb301) (o := .cells #[.int .i64 a0_0, .int .i64 a0_1, .bool a0_2, .int .i64 a0_3, .int .i64 a0_4, .int .i64 a0_5, .int .i64 a0_6, .slice A0_7 l0_7.length c0_7, .slice A0_8 l0_8.length c0_8, .slice A0_9 l0_9.length c0_9, .slice A0_10 l0_10.length c0_10, .slice A0_11 l0_11.length c0_11, .slice A0_12 l0_12.length c0_12] 29 (0, 0)) (blo_ BK301.out) hb); have n1_ := ad_ (below_step belg_ hb); clear BK301; clear HB; have BK301 := n0_; have HB := n1_; clear n0_ n1_; (try clear hb); (try clear hb2); (try clear hk); (try clear hi)))
    repeat (go_quiet (first | (go_at_call 8; (with_reducible refine (posthornlaw23_alive.calls kj3  t304 _ A16.out).mono ?_); rintro e w17 ⟨rfl, hb⟩; have n0_ := ad_ (blk_below (g := gb301) (o := .cells #[.int .i64 a0_0, .int .i64 a0_1, .bool a0_2, .int .i64 a0_3, .int .i64 a0_4, .int .i64 a0_5, .int .i64 a0_6, .slice A0_7 l0_7.length c0_7, .slice A0_8 l0_8.length c0_8, .slice A0_9 l0_9.length c0_9, .slice A0_10 l0_10.length c0_10, .slice A0_11 l0_11.length c0_11, .slice A0_12 l0_12.length c0_12] 29 (0, 0)) (blo_ BK301.out) hb); have n1_ := ad_ (below_step belg_ hb); clear BK301; clear HB; have BK301 := n0_; have HB := n1_; clear n0_ n1_; (try clear hb); (try clear hb2); (try clear hk); (try clear hi))); try go_wp2_with (first | (go_at_call 8; (with_reducible refine (posthornlaw23_alive.calls kj3  t304 _ A16.out).mono ?_); rintro e w17 ⟨rfl, hb⟩; have n0_ := ad_ (blk_below (g := gb301) (o := .cells #[.int .i64 a0_0, .int .i64 a0_1, .bool a0_2, .int .i64 a0_3, .int .i64 a0_4, .int .i64 a0_5, .int .i64 a0_6, .slice A0_7 l0_7.length c0_7, .slice A0_8 l0_8.length c0_8, .slice A0_9 l0_9.length c0_9, .slice A0_10 l0_10.length c0_10, .slice A0_11 l0_11.length c0_11, .slice A0_12 l0_12.length c0_12] 29 (0, 0)) (blo_ BK301.out) hb); have n1_ := ad_ (below_step belg_ hb); clear BK301; clear HB; have BK301 := n0_; have HB := n1_; clear n0_ n1_; (try clear hb); (try clear hb2); (try clear hk); (try clear hi))))
    go_ret
    exact ⟨ret_, belg_⟩
   ·as_aux_lemma =>
    replace c15 := Bool.eq_false_iff.mpr c15
    subst c15
    have H1 := ifn_ H
    clear H
    have H := H1
    clear H1
    replace H := Option.bind_eq_some_iff.mp H
    obtain ⟨⟨t305, t308⟩, A180, H⟩ := H
    try dsimp only at H
    have A18 := Aside0.mk A180
    clear A180
    by_cases c19 : t308 = 0
    ·as_aux_lemma =>
     rw [if_pos c19] at H
     have c19b0 : (t308 == 0) = true := beq_iff_eq.mpr c19
     have c19b1 : (t308 != 0) = false := bne_eq_false_iff_eq.mpr c19
     clear c19
     have H' := Aside0.mk H
     clear H
     have hcz20_ := cells13_ BK301.out
     go_wp2_with (first | (go_at_call 9; (with_reducible refine (series_Instances.calls kj3 a0_0 a0_1 a0_2 a0_3 a0_4 a0_5 a0_6 _ _ l0_7 _ _ l0_8 _ _ l0_9 _ _ l0_10 _ _ l0_11 _ _ l0_12 a1 a2 t305 t308 _ ?side1 ?side2 ?side3 ?side4 ?side5 ?side6 ?side7 ?side8 ?side9 ?side10 ?side11 ?side12 A18.out).mono ?_); (case side1 => exact cop_ (Kd.C_below HR0_7.out HB.out)); (case side2 => exact HC0_7.out); (case side3 => exact cop_ (Kd.C_below HR0_8.out HB.out)); (case side4 => exact HC0_8.out); (case side5 => exact cop_ (Kd.C_below HR0_9.out HB.out)); (case side6 => exact HC0_9.out); (case side7 => exact cop_ (Kd.C_below HR0_10.out HB.out)); (case side8 => exact HC0_10.out); (case side9 => exact cop_ (Kd.C_below HR0_11.out HB.out)); (case side10 => exact HC0_11.out); (case side11 => exact cop_ (Kd.C_below HR0_12.out HB.out)); (case side12 => exact HC0_12.out); rintro e w21 ⟨v306, rfl, ho0, hb⟩; have n0_ := ad_ (Kd.R_lower ho0 (below_size belg_)); have n1_ := ad_ (blk_below (g := gb301) (o := .cells #[.int .i64 a0_0, .int .i64 a0_1, .bool a0_2, .int .i64 a0_3, .int .i64 a0_4, .int .i64 a0_5, .int .i64 a0_6, .slice A0_7 l0_7.length c0_7, .slice A0_8 l0_8.length c0_8, .slice A0_9 l0_9.length c0_9, .slice A0_10 l0_10.length c0_10, .slice A0_11 l0_11.length c0_11, .slice A0_12 l0_12.length c0_12] 29 (0, 0)) (blo_ BK301.out) hb); have n2_ := ad_ (below_step belg_ hb); clear BK301; clear HB; have HO307 := n0_; have BK301 := n1_; have HB := n2_; clear n0_ n1_ n2_; (try clear hb); (try clear hb2); (try clear hk); (try clear hi); (try clear ho0)))
     repeat (go_quiet (first | (go_at_call 9; (with_reducible refine (series_Instances.calls kj3 a0_0 a0_1 a0_2 a0_3 a0_4 a0_5 a0_6 _ _ l0_7 _ _ l0_8 _ _ l0_9 _ _ l0_10 _ _ l0_11 _ _ l0_12 a1 a2 t305 t308 _ ?side1 ?side2 ?side3 ?side4 ?side5 ?side6 ?side7 ?side8 ?side9 ?side10 ?side11 ?side12 A18.out).mono ?_); (case side1 => exact cop_ (Kd.C_below HR0_7.out HB.out)); (case side2 => exact HC0_7.out); (case side3 => exact cop_ (Kd.C_below HR0_8.out HB.out)); (case side4 => exact HC0_8.out); (case side5 => exact cop_ (Kd.C_below HR0_9.out HB.out)); (case side6 => exact HC0_9.out); (case side7 => exact cop_ (Kd.C_below HR0_10.out HB.out)); (case side8 => exact HC0_10.out); (case side9 => exact cop_ (Kd.C_below HR0_11.out HB.out)); (case side10 => exact HC0_11.out); (case side11 => exact cop_ (Kd.C_below HR0_12.out HB.out)); (case side12 => exact HC0_12.out); rintro e w21 ⟨v306, rfl, ho0, hb⟩; have n0_ := ad_ (Kd.R_lower ho0 (below_size belg_)); have n1_ := ad_ (blk_below (g := gb301) (o := .cells #[.int .i64 a0_0, .int .i64 a0_1, .bool a0_2, .int .i64 a0_3, .int .i64 a0_4, .int .i64 a0_5, .int .i64 a0_6, .slice A0_7 l0_7.length c0_7, .slice A0_8 l0_8.length c0_8, .slice A0_9 l0_9.length c0_9, .slice A0_10 l0_10.length c0_10, .slice A0_11 l0_11.length c0_11, .slice A0_12 l0_12.length c0_12] 29 (0, 0)) (blo_ BK301.out) hb); have n2_ := ad_ (below_step belg_ hb); clear BK301; clear HB; have HO307 := n0_; have BK301 := n1_; have HB := n2_; clear n0_ n1_ n2_; (try clear hb); (try clear hb2); (try clear hk); (try clear hi); (try clear ho0))); try go_wp2_with (first | (go_at_call 9; (with_reducible refine (series_Instances.calls kj3 a0_0 a0_1 a0_2 a0_3 a0_4 a0_5 a0_6 _ _ l0_7 _ _ l0_8 _ _ l0_9 _ _ l0_10 _ _ l0_11 _ _ l0_12 a1 a2 t305 t308 _ ?side1 ?side2 ?side3 ?side4 ?side5 ?side6 ?side7 ?side8 ?side9 ?side10 ?side11 ?side12 A18.out).mono ?_); (case side1 => exact cop_ (Kd.C_below HR0_7.out HB.out)); (case side2 => exact HC0_7.out); (case side3 => exact cop_ (Kd.C_below HR0_8.out HB.out)); (case side4 => exact HC0_8.out); (case side5 => exact cop_ (Kd.C_below HR0_9.out HB.out)); (case side6 => exact HC0_9.out); (case side7 => exact cop_ (Kd.C_below HR0_10.out HB.out)); (case side8 => exact HC0_10.out); (case side9 => exact cop_ (Kd.C_below HR0_11.out HB.out)); (case side10 => exact HC0_11.out); (case side11 => exact cop_ (Kd.C_below HR0_12.out HB.out)); (case side12 => exact HC0_12.out); rintro e w21 ⟨v306, rfl, ho0, hb⟩; have n0_ := ad_ (Kd.R_lower ho0 (below_size belg_)); have n1_ := ad_ (blk_below (g := gb301) (o := .cells #[.int .i64 a0_0, .int .i64 a0_1, .bool a0_2, .int .i64 a0_3, .int .i64 a0_4, .int .i64 a0_5, .int .i64 a0_6, .slice A0_7 l0_7.length c0_7, .slice A0_8 l0_8.length c0_8, .slice A0_9 l0_9.length c0_9, .slice A0_10 l0_10.length c0_10, .slice A0_11 l0_11.length c0_11, .slice A0_12 l0_12.length c0_12] 29 (0, 0)) (blo_ BK301.out) hb); have n2_ := ad_ (below_step belg_ hb); clear BK301; clear HB; have HO307 := n0_; have BK301 := n1_; have HB := n2_; clear n0_ n1_ n2_; (try clear hb); (try clear hb2); (try clear hk); (try clear hi); (try clear ho0))))
     go_loopg [9] kj3 (fun kq v9 w' => ∃ (x9_2 : Int), v9 = .int .i64 x9_2 ∧ Aside0 (posthornlaw23_SeriesOnce.l0 kq a1 a2 t305 x9_2 a0_0 a0_1 a0_2 a0_3 a0_4 a0_5 a0_6 l0_7 l0_8 l0_9 l0_10 l0_11 l0_12 = some r) ∧ Aside0 (kq ≤ kj3) ∧ Aside0 (Kd.R k37 37 w' w.heap.size (fun _ => True) v306 t305) ∧ Aside0 (w'.heap[gb301]? = some (.cells #[.int .i64 a0_0, .int .i64 a0_1, .bool a0_2, .int .i64 a0_3, .int .i64 a0_4, .int .i64 a0_5, .int .i64 a0_6, (.slice A0_7 l0_7.length c0_7), (.slice A0_8 l0_8.length c0_8), (.slice A0_9 l0_9.length c0_9), (.slice A0_10 l0_10.length c0_10), (.slice A0_11 l0_11.length c0_11), (.slice A0_12 l0_12.length c0_12)] 29 (0, 0))) ∧ Aside0 (Below w.heap.size w w'))
     case atStart => exact ⟨(0), val_, H', ⟨Nat.le_refl _⟩, ⟨rod_ HO307⟩, ⟨blo_ BK301.out⟩, ⟨belg_⟩⟩
     case round =>
      as_aux_lemma =>
      clear H'
      try clear c1
      try clear p2
      try clear c3
      try clear c7
      try clear c15
      try clear c19
      try clear c19b0
      try clear c19b1
      try clear hcz11_
      try clear hcz13_
      try clear hcz20_
      try clear hcz8_
      try clear p2
      obtain ⟨x9_2, rfl, HA, HK2, HO_7, BK301, HB⟩ := hrel
      cases gk with
      | zero => exact absurd HA.out (by simp [posthornlaw23_SeriesOnce.l0])
      | succ k2 =>
       have H := HA.out
       clear HA
       simp only [posthornlaw23_SeriesOnce.l0] at H
       by_cases c22 : x9_2 < (t305.length : Int)
       ·as_aux_lemma =>
        rw [if_pos c22] at H
        have c22b0 : decide (x9_2 < (t305.length : Int)) = true := decide_eq_true c22
        clear c22
        have H' := Aside0.mk H
        clear H
        obtain ⟨Ao23, co23, eo23⟩ := Kd.R_slice HO_7.out
        subst eo23
        go_wp2
        repeat (go_quiet (fail); try go_wp2)
        go_loopg [10] k2 (fun kq v10 w' => ∃ (x10_3 : Int), v10 = .int .i64 x10_3 ∧ Aside0 (posthornlaw23_SeriesOnce.l1 kq a1 a2 t305 x9_2 x10_3 a0_0 a0_1 a0_2 a0_3 a0_4 a0_5 a0_6 l0_7 l0_8 l0_9 l0_10 l0_11 l0_12 = some r) ∧ Aside0 (kq ≤ k2) ∧ Aside0 (Kd.R k37 37 w' w.heap.size (fun _ => True) (.slice Ao23 t305.length co23) t305) ∧ Aside0 (w'.heap[gb301]? = some (.cells #[.int .i64 a0_0, .int .i64 a0_1, .bool a0_2, .int .i64 a0_3, .int .i64 a0_4, .int .i64 a0_5, .int .i64 a0_6, (.slice A0_7 l0_7.length c0_7), (.slice A0_8 l0_8.length c0_8), (.slice A0_9 l0_9.length c0_9), (.slice A0_10 l0_10.length c0_10), (.slice A0_11 l0_11.length c0_11), (.slice A0_12 l0_12.length c0_12)] 29 (0, 0))) ∧ Aside0 (Below w.heap.size w w'))
        case atStart => exact ⟨(0), val_, H', ⟨Nat.le_refl _⟩, ⟨rod_ HO_7⟩, ⟨blo_ BK301.out⟩, ⟨belg_⟩⟩
        case round =>
         as_aux_lemma =>
         clear H'
         try clear c1
         try clear c2
         try clear p2
         try clear c3
         try clear c7
         try clear c15
         try clear c19
         try clear c19b0
         try clear c19b1
         try clear c22
         try clear c22b0
         try clear hcz11_
         try clear hcz13_
         try clear hcz20_
         try clear hcz8_
         try clear p2
         obtain ⟨x10_3, rfl, HA, HK3, HO_7, BK301, HB⟩ := hrel
         cases gk with
         | zero => exact absurd HA.out (by simp [posthornlaw23_SeriesOnce.l1])
         | succ k3 =>
          have H := HA.out
          clear HA
          simp only [posthornlaw23_SeriesOnce.l1] at H
          by_cases c24 : x10_3 < x9_2
          ·rw [if_pos c24] at H
           have c24b0 : decide (x10_3 < x9_2) = true := decide_eq_true c24
           clear c24
           by_cases c25 : 0 ≤ x10_3
           ·rw [if_pos c25] at H
            have c25b0 : decide (0 ≤ x10_3) = true := decide_eq_true c25
            clear c25
            by_cases c26 : x10_3 < (t305.length : Int)
            ·rw [if_pos c26] at H
             have c26b0 : decide (x10_3 < (t305.length : Int)) = true := decide_eq_true c26
             clear c26
             by_cases c27 : 0 ≤ x9_2
             ·rw [if_pos c27] at H
              have c27b0 : decide (0 ≤ x9_2) = true := decide_eq_true c27
              clear c27
              by_cases c28 : x9_2 < (t305.length : Int)
              ·rw [if_pos c28] at H
               have c28b0 : decide (x9_2 < (t305.length : Int)) = true := decide_eq_true c28
               clear c28
               by_cases c29 : ((rd_T37 t305 x10_3).f0) = ((rd_T37 t305 x9_2).f0)
               ·rw [if_pos c29] at H
                have c29b0 : (((rd_T37 t305 x10_3).f0) == ((rd_T37 t305 x9_2).f0)) = true := beq_iff_eq.mpr c29
                have c29b1 : (((rd_T37 t305 x10_3).f0) != ((rd_T37 t305 x9_2).f0)) = false := bne_eq_false_iff_eq.mpr c29
                clear c29
                exact absurd (Option.some.inj H) (by rw [hr_.out]; decide)
               ·rw [if_neg c29] at H
                have c29b0 : (((rd_T37 t305 x10_3).f0) == ((rd_T37 t305 x9_2).f0)) = false := beq_eq_false_iff_ne.mpr c29
                have c29b1 : (((rd_T37 t305 x10_3).f0) != ((rd_T37 t305 x9_2).f0)) = true := bne_iff_ne.mpr c29
                have H' := Aside0.mk H
                clear H
                have p311 : 0 ≤ (x10_3 : Int) := dec_
                have q311 : x10_3 < (t305.length : Int) := dec_
                obtain ⟨ad311, e311, hx311_0, hx311_1, hx311_2, hx311_3⟩ := at_T37 (Kd.R_reads' HO_7.out).2.2 x10_3 p311 q311
                cases e311
                replace p311 := eq_true p311
                replace q311 := eq_true q311
                have p312 : 0 ≤ (x9_2 : Int) := dec_
                have q312 : x9_2 < (t305.length : Int) := dec_
                obtain ⟨ad312, e312, hx312_0, hx312_1, hx312_2, hx312_3⟩ := at_T37 (Kd.R_reads' HO_7.out).2.2 x9_2 p312 q312
                obtain rfl : ad311 = ad312 := (by injection e312)
                replace p312 := eq_true p312
                replace q312 := eq_true q312
                go_wp2
                repeat (go_quiet (fail); try go_wp2)
                go_roundg k3
                case measure => have := HJ3.out; have := HK2.out; have := HK3.out; omega
                case rel => exact ⟨(wrap64 (x10_3 + 1)), val_, H', ⟨by have := HJ3.out; have := HK2.out; have := HK3.out; omega⟩, ⟨rod_ HO_7⟩, ⟨blo_ BK301.out⟩, ⟨belg_⟩⟩
              ·rw [if_neg c28] at H
               exact absurd H (by simp)
             ·rw [if_neg c27] at H
              exact absurd H (by simp)
            ·rw [if_neg c26] at H
             exact absurd H (by simp)
           ·rw [if_neg c25] at H
            exact absurd H (by simp)
          ·as_aux_lemma =>
           rw [if_neg c24] at H
           have c24b0 : decide (x10_3 < x9_2) = false := decide_eq_false c24
           clear c24
           have H' := Aside0.mk H
           clear H
           go_wp2
           repeat (go_quiet (fail); try go_wp2)
           go_loopg [11] k3 (fun kq v11 w' => ∃ (x11_4 : Int), v11 = .int .i64 x11_4 ∧ Aside0 (posthornlaw23_SeriesOnce.l2 kq a1 a2 t305 x9_2 x11_4 a0_0 a0_1 a0_2 a0_3 a0_4 a0_5 a0_6 l0_7 l0_8 l0_9 l0_10 l0_11 l0_12 = some r) ∧ Aside0 (kq ≤ k3) ∧ Aside0 (Kd.R k37 37 w' w.heap.size (fun _ => True) (.slice Ao23 t305.length co23) t305) ∧ Aside0 (w'.heap[gb301]? = some (.cells #[.int .i64 a0_0, .int .i64 a0_1, .bool a0_2, .int .i64 a0_3, .int .i64 a0_4, .int .i64 a0_5, .int .i64 a0_6, (.slice A0_7 l0_7.length c0_7), (.slice A0_8 l0_8.length c0_8), (.slice A0_9 l0_9.length c0_9), (.slice A0_10 l0_10.length c0_10), (.slice A0_11 l0_11.length c0_11), (.slice A0_12 l0_12.length c0_12)] 29 (0, 0))) ∧ Aside0 (Below w.heap.size w w'))
           case atStart => exact ⟨(0), val_, H', ⟨Nat.le_refl _⟩, ⟨rod_ HO_7⟩, ⟨blo_ BK301.out⟩, ⟨belg_⟩⟩
           case round =>
            as_aux_lemma =>
            clear H'
            try clear c1
            try clear c2
            try clear p2
            try clear c3
            try clear p3
            try clear q3
            try clear hx3
            try clear p6
            try clear c7
            try clear c15
            try clear c19
            try clear c19b0
            try clear c19b1
            try clear c22
            try clear c22b0
            try clear c24
            try clear c24b0
            try clear c25
            try clear c25b0
            try clear c26
            try clear c26b0
            try clear c27
            try clear c27b0
            try clear c28
            try clear c28b0
            try clear c29
            try clear c29b0
            try clear c29b1
            try clear hcz11_
            try clear hcz13_
            try clear hcz20_
            try clear hcz8_
            try clear hx311_0
            try clear hx311_1
            try clear hx311_2
            try clear hx311_3
            try clear hx312_0
            try clear hx312_1
            try clear hx312_2
            try clear hx312_3
            try clear p2
            try clear p311
            try clear p312
            try clear q311
            try clear q312
            obtain ⟨x11_4, rfl, HA, HK4, HO_7, BK301, HB⟩ := hrel
            cases gk with
            | zero => exact absurd HA.out (by simp [posthornlaw23_SeriesOnce.l2])
            | succ k4 =>
             have H := HA.out
             clear HA
             simp only [posthornlaw23_SeriesOnce.l2] at H
             by_cases c30 : x11_4 < (l0_10.length : Int)
             ·rw [if_pos c30] at H
              have c30b0 : decide (x11_4 < (l0_10.length : Int)) = true := decide_eq_true c30
              clear c30
              by_cases c31 : 0 ≤ x11_4
              ·rw [if_pos c31] at H
               have c31b0 : decide (0 ≤ x11_4) = true := decide_eq_true c31
               clear c31
               by_cases c32 : 0 ≤ x9_2
               ·rw [if_pos c32] at H
                have c32b0 : decide (0 ≤ x9_2) = true := decide_eq_true c32
                clear c32
                by_cases c33 : x9_2 < (t305.length : Int)
                ·rw [if_pos c33] at H
                 have c33b0 : decide (x9_2 < (t305.length : Int)) = true := decide_eq_true c33
                 clear c33
                 by_cases c34 : (rd l0_10 x11_4) = ((rd_T37 t305 x9_2).f0)
                 ·rw [if_pos c34] at H
                  have c34b0 : ((rd l0_10 x11_4) == ((rd_T37 t305 x9_2).f0)) = true := beq_iff_eq.mpr c34
                  have c34b1 : ((rd l0_10 x11_4) != ((rd_T37 t305 x9_2).f0)) = false := bne_eq_false_iff_eq.mpr c34
                  clear c34
                  exact absurd (Option.some.inj H) (by rw [hr_.out]; decide)
                 ·rw [if_neg c34] at H
                  have c34b0 : ((rd l0_10 x11_4) == ((rd_T37 t305 x9_2).f0)) = false := beq_eq_false_iff_ne.mpr c34
                  have c34b1 : ((rd l0_10 x11_4) != ((rd_T37 t305 x9_2).f0)) = true := bne_iff_ne.mpr c34
                  have H' := Aside0.mk H
                  clear H
                  have hcz35_ := cells13_ BK301.out
                  have p313 : 0 ≤ (x11_4 : Int) := dec_
                  have q313 : x11_4 < (l0_10.length : Int) := dec_
                  obtain ⟨ad313, e313, hx313_0⟩ := Kd.at_int HR0_10.out x11_4 p313 q313
                  cases e313
                  replace hx313_0 := (HB.out.cell (World.block_lt_of_cell? w _ hx313_0)).trans hx313_0
                  replace p313 := eq_true p313
                  replace q313 := eq_true q313
                  have p314 : 0 ≤ (x9_2 : Int) := dec_
                  have q314 : x9_2 < (t305.length : Int) := dec_
                  obtain ⟨ad314, e314, hx314_0, hx314_1, hx314_2, hx314_3⟩ := at_T37 (Kd.R_reads' HO_7.out).2.2 x9_2 p314 q314
                  cases e314
                  replace p314 := eq_true p314
                  replace q314 := eq_true q314
                  go_wp2
                  repeat (go_quiet (fail); try go_wp2)
                  go_roundg k4
                  case measure => have := HJ3.out; have := HK2.out; have := HK3.out; have := HK4.out; omega
                  case rel => exact ⟨(wrap64 (x11_4 + 1)), val_, H', ⟨by have := HJ3.out; have := HK2.out; have := HK3.out; have := HK4.out; omega⟩, ⟨rod_ HO_7⟩, ⟨blo_ BK301.out⟩, ⟨belg_⟩⟩
                ·rw [if_neg c33] at H
                 exact absurd H (by simp)
               ·rw [if_neg c32] at H
                exact absurd H (by simp)
              ·rw [if_neg c31] at H
               exact absurd H (by simp)
             ·as_aux_lemma =>
              rw [if_neg c30] at H
              have c30b0 : decide (x11_4 < (l0_10.length : Int)) = false := decide_eq_false c30
              clear c30
              have H' := Aside0.mk H
              clear H
              have hcz36_ := cells13_ BK301.out
              go_wp2
              repeat (go_quiet (fail); try go_wp2)
              go_loopg [12] k4 (fun kq v12 w' => ∃ (x12_5 : Int), v12 = .int .i64 x12_5 ∧ Aside0 (posthornlaw23_SeriesOnce.l3 kq a1 a2 t305 x9_2 x12_5 a0_0 a0_1 a0_2 a0_3 a0_4 a0_5 a0_6 l0_7 l0_8 l0_9 l0_10 l0_11 l0_12 = some r) ∧ Aside0 (kq ≤ k4) ∧ Aside0 (Kd.R k37 37 w' w.heap.size (fun _ => True) (.slice Ao23 t305.length co23) t305) ∧ Aside0 (w'.heap[gb301]? = some (.cells #[.int .i64 a0_0, .int .i64 a0_1, .bool a0_2, .int .i64 a0_3, .int .i64 a0_4, .int .i64 a0_5, .int .i64 a0_6, (.slice A0_7 l0_7.length c0_7), (.slice A0_8 l0_8.length c0_8), (.slice A0_9 l0_9.length c0_9), (.slice A0_10 l0_10.length c0_10), (.slice A0_11 l0_11.length c0_11), (.slice A0_12 l0_12.length c0_12)] 29 (0, 0))) ∧ Aside0 (Below w.heap.size w w'))
              case atStart => exact ⟨(0), val_, H', ⟨Nat.le_refl _⟩, ⟨rod_ HO_7⟩, ⟨blo_ BK301.out⟩, ⟨belg_⟩⟩
              case round =>
               as_aux_lemma =>
               clear H'
               try clear c1
               try clear c2
               try clear p2
               try clear c3
               try clear p3
               try clear q3
               try clear hx3
               try clear p6
               try clear c7
               try clear c15
               try clear c19
               try clear c19b0
               try clear c19b1
               try clear c22
               try clear c22b0
               try clear c24
               try clear c24b0
               try clear c25
               try clear c25b0
               try clear c26
               try clear c26b0
               try clear c27
               try clear c27b0
               try clear c28
               try clear c28b0
               try clear c29
               try clear c29b0
               try clear c29b1
               try clear c30
               try clear c30b0
               try clear c31
               try clear c31b0
               try clear p31
               try clear q31
               try clear hx31
               try clear c32
               try clear c32b0
               try clear c33
               try clear c33b0
               try clear c34
               try clear c34b0
               try clear c34b1
               try clear hcz11_
               try clear hcz13_
               try clear hcz20_
               try clear hcz35_
               try clear hcz36_
               try clear hcz8_
               try clear hx311_0
               try clear hx311_1
               try clear hx311_2
               try clear hx311_3
               try clear hx312_0
               try clear hx312_1
               try clear hx312_2
               try clear hx312_3
               try clear hx313_0
               try clear hx314_0
               try clear hx314_1
               try clear hx314_2
               try clear hx314_3
               try clear p2
               try clear p3
               try clear p311
               try clear p312
               try clear p313
               try clear p314
               try clear p6
               try clear q3
               try clear q311
               try clear q312
               try clear q313
               try clear q314
               obtain ⟨x12_5, rfl, HA, HK5, HO_7, BK301, HB⟩ := hrel
               cases gk with
               | zero => exact absurd HA.out (by simp [posthornlaw23_SeriesOnce.l3])
               | succ k5 =>
                have H := HA.out
                clear HA
                simp only [posthornlaw23_SeriesOnce.l3] at H
                by_cases c37 : x12_5 < (l0_12.length : Int)
                ·as_aux_lemma =>
                 rw [if_pos c37] at H
                 have c37b0 : decide (x12_5 < (l0_12.length : Int)) = true := decide_eq_true c37
                 clear c37
                 by_cases c38 : 0 ≤ x12_5
                 ·as_aux_lemma =>
                  rw [if_pos c38] at H
                  have c38b0 : decide (0 ≤ x12_5) = true := decide_eq_true c38
                  clear c38
                  by_cases c39 : 0 ≤ x9_2
                  ·as_aux_lemma =>
                   rw [if_pos c39] at H
                   have c39b0 : decide (0 ≤ x9_2) = true := decide_eq_true c39
                   clear c39
                   by_cases c40 : x9_2 < (t305.length : Int)
                   ·as_aux_lemma =>
                    rw [if_pos c40] at H
                    have c40b0 : decide (x9_2 < (t305.length : Int)) = true := decide_eq_true c40
                    clear c40
                    by_cases c41 : ((rd_T39 l0_12 x12_5).f0) = ((rd_T37 t305 x9_2).f0)
                    ·as_aux_lemma =>
                     rw [if_pos c41] at H
                     have c41b0 : (((rd_T39 l0_12 x12_5).f0) == ((rd_T37 t305 x9_2).f0)) = true := beq_iff_eq.mpr c41
                     have c41b1 : (((rd_T39 l0_12 x12_5).f0) != ((rd_T37 t305 x9_2).f0)) = false := bne_eq_false_iff_eq.mpr c41
                     clear c41
                     obtain ⟨bq42, hbq42⟩ : ∃ b_ : Bool, b_ = ((rd_T39 l0_12 x12_5).f3) := ⟨_, rfl⟩
                     replace H : (if bq42 = true then (some false) else (if ((rd_T37 t305 x9_2).f3 = true) then (if ((rd_T37 t305 x9_2).f1) = ((rd_T39 l0_12 x12_5).f1) then (posthornlaw23_SeriesOnce.l3 k5 a1 a2 t305 x9_2 (wrap64 (x12_5 + 1)) a0_0 a0_1 a0_2 a0_3 a0_4 a0_5 a0_6 l0_7 l0_8 l0_9 l0_10 l0_11 l0_12) else (some false)) else (some false))) = some r := by rw [← hbq42] at H; exact H
                     have Nbq42 := Aside0.mk hbq42
                     clear hbq42
                     by_cases c43 : bq42 = true
                     ·subst c43
                      have H1 := ifp_ H
                      clear H
                      have H := H1
                      clear H1
                      exact absurd (Option.some.inj H) (by rw [hr_.out]; decide)
                     ·as_aux_lemma =>
                      replace c43 := Bool.eq_false_iff.mpr c43
                      subst c43
                      have H1 := ifn_ H
                      clear H
                      have H := H1
                      clear H1
                      obtain ⟨bq44, hbq44⟩ : ∃ b_ : Bool, b_ = ((rd_T37 t305 x9_2).f3) := ⟨_, rfl⟩
                      replace H : (if (bq44 = true) then (if ((rd_T37 t305 x9_2).f1) = ((rd_T39 l0_12 x12_5).f1) then (posthornlaw23_SeriesOnce.l3 k5 a1 a2 t305 x9_2 (wrap64 (x12_5 + 1)) a0_0 a0_1 a0_2 a0_3 a0_4 a0_5 a0_6 l0_7 l0_8 l0_9 l0_10 l0_11 l0_12) else (some false)) else (some false)) = some r := by rw [← hbq44] at H; exact H
                      have Nbq44 := Aside0.mk hbq44
                      clear hbq44
                      by_cases c45 : (bq44 = true)
                      ·as_aux_lemma =>
                       subst c45
                       have H1 := ifp_ H
                       clear H
                       have H := H1
                       clear H1
                       by_cases c46 : ((rd_T37 t305 x9_2).f1) = ((rd_T39 l0_12 x12_5).f1)
                       ·rw [if_pos c46] at H
                        have c46b0 : (((rd_T37 t305 x9_2).f1) == ((rd_T39 l0_12 x12_5).f1)) = true := beq_iff_eq.mpr c46
                        have c46b1 : (((rd_T37 t305 x9_2).f1) != ((rd_T39 l0_12 x12_5).f1)) = false := bne_eq_false_iff_eq.mpr c46
                        clear c46
                        have H' := Aside0.mk H
                        clear H
                        have hcz47_ := cells13_ BK301.out
                        have p315 : 0 ≤ (x12_5 : Int) := dec_
                        have q315 : x12_5 < (l0_12.length : Int) := dec_
                        obtain ⟨ad315, e315, hx315_0, hx315_1, hx315_2, hx315_3⟩ := at_T39 HR0_12.out x12_5 p315 q315
                        (try rw [← Nbq42.out] at hx315_3)
                        (try rw [← Nbq44.out] at hx315_3)
                        cases e315
                        replace hx315_0 := (HB.out.cell (World.block_lt_of_cell? w _ hx315_0)).trans hx315_0
                        replace hx315_1 := (HB.out.cell (World.block_lt_of_cell? w _ hx315_1)).trans hx315_1
                        replace hx315_2 := (HB.out.cell (World.block_lt_of_cell? w _ hx315_2)).trans hx315_2
                        replace hx315_3 := (HB.out.cell (World.block_lt_of_cell? w _ hx315_3)).trans hx315_3
                        replace p315 := eq_true p315
                        replace q315 := eq_true q315
                        have p316 : 0 ≤ (x9_2 : Int) := dec_
                        have q316 : x9_2 < (t305.length : Int) := dec_
                        obtain ⟨ad316, e316, hx316_0, hx316_1, hx316_2, hx316_3⟩ := at_T37 (Kd.R_reads' HO_7.out).2.2 x9_2 p316 q316
                        (try rw [← Nbq42.out] at hx316_3)
                        (try rw [← Nbq44.out] at hx316_3)
                        cases e316
                        replace p316 := eq_true p316
                        replace q316 := eq_true q316
                        have p317 : 0 ≤ (x12_5 : Int) := dec_
                        have q317 : x12_5 < (l0_12.length : Int) := dec_
                        obtain ⟨ad317, e317, hx317_0, hx317_1, hx317_2, hx317_3⟩ := at_T39 HR0_12.out x12_5 p317 q317
                        (try rw [← Nbq42.out] at hx317_3)
                        (try rw [← Nbq44.out] at hx317_3)
                        obtain rfl : ad315 = ad317 := (by injection e317)
                        replace hx317_0 := (HB.out.cell (World.block_lt_of_cell? w _ hx317_0)).trans hx317_0
                        replace hx317_1 := (HB.out.cell (World.block_lt_of_cell? w _ hx317_1)).trans hx317_1
                        replace hx317_2 := (HB.out.cell (World.block_lt_of_cell? w _ hx317_2)).trans hx317_2
                        replace hx317_3 := (HB.out.cell (World.block_lt_of_cell? w _ hx317_3)).trans hx317_3
                        replace p317 := eq_true p317
                        replace q317 := eq_true q317
                        have p318 : 0 ≤ (x9_2 : Int) := dec_
                        have q318 : x9_2 < (t305.length : Int) := dec_
                        obtain ⟨ad318, e318, hx318_0, hx318_1, hx318_2, hx318_3⟩ := at_T37 (Kd.R_reads' HO_7.out).2.2 x9_2 p318 q318
                        (try rw [← Nbq42.out] at hx318_3)
                        (try rw [← Nbq44.out] at hx318_3)
                        obtain rfl : ad316 = ad318 := (by injection e318)
                        replace p318 := eq_true p318
                        replace q318 := eq_true q318
                        have p319 : 0 ≤ (x9_2 : Int) := dec_
                        have q319 : x9_2 < (t305.length : Int) := dec_
                        obtain ⟨ad319, e319, hx319_0, hx319_1, hx319_2, hx319_3⟩ := at_T37 (Kd.R_reads' HO_7.out).2.2 x9_2 p319 q319
                        (try rw [← Nbq42.out] at hx319_3)
                        (try rw [← Nbq44.out] at hx319_3)
                        obtain rfl : ad316 = ad319 := (by injection e319)
                        replace p319 := eq_true p319
                        replace q319 := eq_true q319
                        have p320 : 0 ≤ (x12_5 : Int) := dec_
                        have q320 : x12_5 < (l0_12.length : Int) := dec_
                        obtain ⟨ad320, e320, hx320_0, hx320_1, hx320_2, hx320_3⟩ := at_T39 HR0_12.out x12_5 p320 q320
                        (try rw [← Nbq42.out] at hx320_3)
                        (try rw [← Nbq44.out] at hx320_3)
                        obtain rfl : ad315 = ad320 := (by injection e320)
                        replace hx320_0 := (HB.out.cell (World.block_lt_of_cell? w _ hx320_0)).trans hx320_0
                        replace hx320_1 := (HB.out.cell (World.block_lt_of_cell? w _ hx320_1)).trans hx320_1
                        replace hx320_2 := (HB.out.cell (World.block_lt_of_cell? w _ hx320_2)).trans hx320_2
                        replace hx320_3 := (HB.out.cell (World.block_lt_of_cell? w _ hx320_3)).trans hx320_3
                        replace p320 := eq_true p320
                        replace q320 := eq_true q320
                        go_wp2
                        repeat (go_quiet (fail); try go_wp2)
                        go_roundg k5
                        case measure => have := HJ3.out; have := HK2.out; have := HK3.out; have := HK4.out; have := HK5.out; omega
                        case rel => exact ⟨(wrap64 (x12_5 + 1)), val_, H', ⟨by have := HJ3.out; have := HK2.out; have := HK3.out; have := HK4.out; have := HK5.out; omega⟩, ⟨rod_ HO_7⟩, ⟨blo_ BK301.out⟩, ⟨belg_⟩⟩
                       ·rw [if_neg c46] at H
                        have c46b0 : (((rd_T37 t305 x9_2).f1) == ((rd_T39 l0_12 x12_5).f1)) = false := beq_eq_false_iff_ne.mpr c46
                        have c46b1 : (((rd_T37 t305 x9_2).f1) != ((rd_T39 l0_12 x12_5).f1)) = true := bne_iff_ne.mpr c46
                        exact absurd (Option.some.inj H) (by rw [hr_.out]; decide)
                      ·replace c45 := Bool.eq_false_iff.mpr c45
                       subst c45
                       have H1 := ifn_ H
                       clear H
                       have H := H1
                       clear H1
                       exact absurd (Option.some.inj H) (by rw [hr_.out]; decide)
                    ·rw [if_neg c41] at H
                     have c41b0 : (((rd_T39 l0_12 x12_5).f0) == ((rd_T37 t305 x9_2).f0)) = false := beq_eq_false_iff_ne.mpr c41
                     have c41b1 : (((rd_T39 l0_12 x12_5).f0) != ((rd_T37 t305 x9_2).f0)) = true := bne_iff_ne.mpr c41
                     have H' := Aside0.mk H
                     clear H
                     have hcz48_ := cells13_ BK301.out
                     have p315 : 0 ≤ (x12_5 : Int) := dec_
                     have q315 : x12_5 < (l0_12.length : Int) := dec_
                     obtain ⟨ad315, e315, hx315_0, hx315_1, hx315_2, hx315_3⟩ := at_T39 HR0_12.out x12_5 p315 q315
                     cases e315
                     replace hx315_0 := (HB.out.cell (World.block_lt_of_cell? w _ hx315_0)).trans hx315_0
                     replace hx315_1 := (HB.out.cell (World.block_lt_of_cell? w _ hx315_1)).trans hx315_1
                     replace hx315_2 := (HB.out.cell (World.block_lt_of_cell? w _ hx315_2)).trans hx315_2
                     replace hx315_3 := (HB.out.cell (World.block_lt_of_cell? w _ hx315_3)).trans hx315_3
                     replace p315 := eq_true p315
                     replace q315 := eq_true q315
                     have p316 : 0 ≤ (x9_2 : Int) := dec_
                     have q316 : x9_2 < (t305.length : Int) := dec_
                     obtain ⟨ad316, e316, hx316_0, hx316_1, hx316_2, hx316_3⟩ := at_T37 (Kd.R_reads' HO_7.out).2.2 x9_2 p316 q316
                     cases e316
                     replace p316 := eq_true p316
                     replace q316 := eq_true q316
                     go_wp2
                     repeat (go_quiet (fail); try go_wp2)
                     go_roundg k5
                     case measure => have := HJ3.out; have := HK2.out; have := HK3.out; have := HK4.out; have := HK5.out; omega
                     case rel => exact ⟨(wrap64 (x12_5 + 1)), val_, H', ⟨by have := HJ3.out; have := HK2.out; have := HK3.out; have := HK4.out; have := HK5.out; omega⟩, ⟨rod_ HO_7⟩, ⟨blo_ BK301.out⟩, ⟨belg_⟩⟩
                   ·rw [if_neg c40] at H
                    exact absurd H (by simp)
                  ·rw [if_neg c39] at H
                   exact absurd H (by simp)
                 ·rw [if_neg c38] at H
                  exact absurd H (by simp)
                ·as_aux_lemma =>
                 rw [if_neg c37] at H
                 have c37b0 : decide (x12_5 < (l0_12.length : Int)) = false := decide_eq_false c37
                 clear c37
                 have HC49 := Aside0.mk H
                 clear H
                 have hcz50_ := cells13_ BK301.out
                 go_upto_region 24 with (fail)
                 repeat (go_quiet (fail); go_upto_region 24 with (fail))
                 go_cut [178] (fun v178 wc => ∃ (kq : Nat) (x178_48 : Bool), v178 = .bool x178_48 ∧ Aside0 (posthornlaw23_SeriesOnce.j5 kq a1 a2 t305 x9_2 x178_48 a0_0 a0_1 a0_2 a0_3 a0_4 a0_5 a0_6 l0_7 l0_8 l0_9 l0_10 l0_11 l0_12 = some r) ∧ Aside0 (kq ≤ k5) ∧ Aside0 (Kd.R k37 37 wc w.heap.size (fun _ => True) (.slice Ao23 t305.length co23) t305) ∧ Aside0 (wc.heap[gb301]? = some (.cells #[.int .i64 a0_0, .int .i64 a0_1, .bool a0_2, .int .i64 a0_3, .int .i64 a0_4, .int .i64 a0_5, .int .i64 a0_6, (.slice A0_7 l0_7.length c0_7), (.slice A0_8 l0_8.length c0_8), (.slice A0_9 l0_9.length c0_9), (.slice A0_10 l0_10.length c0_10), (.slice A0_11 l0_11.length c0_11), (.slice A0_12 l0_12.length c0_12)] 29 (0, 0))) ∧ Aside0 (Below w.heap.size w wc))
                 case first =>
                  as_aux_lemma =>
                  have H := HC49.out
                  clear HC49
                  by_cases c51 : 0 ≤ x9_2
                  ·as_aux_lemma =>
                   rw [if_pos c51] at H
                   have c51b0 : decide (0 ≤ x9_2) = true := decide_eq_true c51
                   clear c51
                   (first | rw [c51b0] | (simp only [i64_w, i32_w]; rw [c51b0]) | skip)
                   by_cases c52 : x9_2 < (t305.length : Int)
                   ·as_aux_lemma =>
                    rw [if_pos c52] at H
                    have c52b0 : decide (x9_2 < (t305.length : Int)) = true := decide_eq_true c52
                    clear c52
                    obtain ⟨bq53, hbq53⟩ : ∃ b_ : Bool, b_ = ((rd_T37 t305 x9_2).f3) := ⟨_, rfl⟩
                    replace H : (if (bq53 = true) then (if ((rd_T37 t305 x9_2).f1) ≥ a2 then (posthornlaw23_SeriesOnce.j5 k5 a1 a2 t305 x9_2 true a0_0 a0_1 a0_2 a0_3 a0_4 a0_5 a0_6 l0_7 l0_8 l0_9 l0_10 l0_11 l0_12) else (posthornlaw23_SeriesOnce.j5 k5 a1 a2 t305 x9_2 (decide (((rd_T37 t305 x9_2).f2) < a1)) a0_0 a0_1 a0_2 a0_3 a0_4 a0_5 a0_6 l0_7 l0_8 l0_9 l0_10 l0_11 l0_12)) else (if ((rd_T37 t305 x9_2).f1) = ((rd_T37 t305 x9_2).f0) then (if (wrap64 (((rd_T37 t305 x9_2).f2) - ((rd_T37 t305 x9_2).f1))) = a0_1 then (if ((rd_T37 t305 x9_2).f1) ≥ a2 then (posthornlaw23_SeriesOnce.j5 k5 a1 a2 t305 x9_2 true a0_0 a0_1 a0_2 a0_3 a0_4 a0_5 a0_6 l0_7 l0_8 l0_9 l0_10 l0_11 l0_12) else (posthornlaw23_SeriesOnce.j5 k5 a1 a2 t305 x9_2 (decide (((rd_T37 t305 x9_2).f2) < a1)) a0_0 a0_1 a0_2 a0_3 a0_4 a0_5 a0_6 l0_7 l0_8 l0_9 l0_10 l0_11 l0_12)) else (posthornlaw23_SeriesOnce.j5 k5 a1 a2 t305 x9_2 true a0_0 a0_1 a0_2 a0_3 a0_4 a0_5 a0_6 l0_7 l0_8 l0_9 l0_10 l0_11 l0_12)) else (posthornlaw23_SeriesOnce.j5 k5 a1 a2 t305 x9_2 true a0_0 a0_1 a0_2 a0_3 a0_4 a0_5 a0_6 l0_7 l0_8 l0_9 l0_10 l0_11 l0_12))) = some r := by rw [← hbq53] at H; exact H
                    have Nbq53 := Aside0.mk hbq53
                    clear hbq53
                    by_cases c54 : (bq53 = true)
                    ·subst c54
                     have H1 := ifp_ H
                     clear H
                     have H := H1
                     clear H1
                     by_cases c55 : ((rd_T37 t305 x9_2).f1) ≥ a2
                     ·rw [if_pos c55] at H
                      have c55b0 : decide (a2 ≤ ((rd_T37 t305 x9_2).f1)) = true := decide_eq_true c55
                      clear c55
                      have H' := Aside0.mk H
                      clear H
                      have p321 : 0 ≤ (x9_2 : Int) := dec_
                      have q321 : x9_2 < (t305.length : Int) := dec_
                      obtain ⟨ad321, e321, hx321_0, hx321_1, hx321_2, hx321_3⟩ := at_T37 (Kd.R_reads' HO_7.out).2.2 x9_2 p321 q321
                      (try rw [← Nbq53.out] at hx321_3)
                      cases e321
                      replace p321 := eq_true p321
                      replace q321 := eq_true q321
                      have p322 : 0 ≤ (x9_2 : Int) := dec_
                      have q322 : x9_2 < (t305.length : Int) := dec_
                      obtain ⟨ad322, e322, hx322_0, hx322_1, hx322_2, hx322_3⟩ := at_T37 (Kd.R_reads' HO_7.out).2.2 x9_2 p322 q322
                      (try rw [← Nbq53.out] at hx322_3)
                      obtain rfl : ad321 = ad322 := (by injection e322)
                      replace p322 := eq_true p322
                      replace q322 := eq_true q322
                      go_wp2
                      repeat (go_quiet (fail); try go_wp2)
                      go_meet
                      case rel => exact ⟨_, (true), val_, H', ⟨by have := HJ3.out; have := HK2.out; have := HK3.out; have := HK4.out; have := HK5.out; first | omega | exact Nat.le_refl _⟩, ⟨rod_ HO_7⟩, ⟨blo_ BK301.out⟩, ⟨belg_⟩⟩
                     ·rw [if_neg c55] at H
                      have c55b0 : decide (a2 ≤ ((rd_T37 t305 x9_2).f1)) = false := decide_eq_false c55
                      clear c55
                      have H' := Aside0.mk H
                      clear H
                      have p321 : 0 ≤ (x9_2 : Int) := dec_
                      have q321 : x9_2 < (t305.length : Int) := dec_
                      obtain ⟨ad321, e321, hx321_0, hx321_1, hx321_2, hx321_3⟩ := at_T37 (Kd.R_reads' HO_7.out).2.2 x9_2 p321 q321
                      (try rw [← Nbq53.out] at hx321_3)
                      cases e321
                      replace p321 := eq_true p321
                      replace q321 := eq_true q321
                      have p322 : 0 ≤ (x9_2 : Int) := dec_
                      have q322 : x9_2 < (t305.length : Int) := dec_
                      obtain ⟨ad322, e322, hx322_0, hx322_1, hx322_2, hx322_3⟩ := at_T37 (Kd.R_reads' HO_7.out).2.2 x9_2 p322 q322
                      (try rw [← Nbq53.out] at hx322_3)
                      obtain rfl : ad321 = ad322 := (by injection e322)
                      replace p322 := eq_true p322
                      replace q322 := eq_true q322
                      have p323 : 0 ≤ (x9_2 : Int) := dec_
                      have q323 : x9_2 < (t305.length : Int) := dec_
                      obtain ⟨ad323, e323, hx323_0, hx323_1, hx323_2, hx323_3⟩ := at_T37 (Kd.R_reads' HO_7.out).2.2 x9_2 p323 q323
                      (try rw [← Nbq53.out] at hx323_3)
                      obtain rfl : ad321 = ad323 := (by injection e323)
                      replace p323 := eq_true p323
                      replace q323 := eq_true q323
                      go_wp2
                      repeat (go_quiet (fail); try go_wp2)
                      go_meet
                      case rel => exact ⟨_, (decide (((rd_T37 t305 x9_2).f2) < a1)), val_, H', ⟨by have := HJ3.out; have := HK2.out; have := HK3.out; have := HK4.out; have := HK5.out; first | omega | exact Nat.le_refl _⟩, ⟨rod_ HO_7⟩, ⟨blo_ BK301.out⟩, ⟨belg_⟩⟩
                    ·as_aux_lemma =>
                     replace c54 := Bool.eq_false_iff.mpr c54
                     subst c54
                     have H1 := ifn_ H
                     clear H
                     have H := H1
                     clear H1
                     by_cases c56 : ((rd_T37 t305 x9_2).f1) = ((rd_T37 t305 x9_2).f0)
                     ·as_aux_lemma =>
                      rw [if_pos c56] at H
                      have c56b0 : (((rd_T37 t305 x9_2).f1) == ((rd_T37 t305 x9_2).f0)) = true := beq_iff_eq.mpr c56
                      have c56b1 : (((rd_T37 t305 x9_2).f1) != ((rd_T37 t305 x9_2).f0)) = false := bne_eq_false_iff_eq.mpr c56
                      clear c56
                      by_cases c57 : (wrap64 (((rd_T37 t305 x9_2).f2) - ((rd_T37 t305 x9_2).f1))) = a0_1
                      ·as_aux_lemma =>
                       rw [if_pos c57] at H
                       have c57b0 : ((wrap64 (((rd_T37 t305 x9_2).f2) - ((rd_T37 t305 x9_2).f1))) == a0_1) = true := beq_iff_eq.mpr c57
                       have c57b1 : ((wrap64 (((rd_T37 t305 x9_2).f2) - ((rd_T37 t305 x9_2).f1))) != a0_1) = false := bne_eq_false_iff_eq.mpr c57
                       clear c57
                       by_cases c58 : ((rd_T37 t305 x9_2).f1) ≥ a2
                       ·rw [if_pos c58] at H
                        have c58b0 : decide (a2 ≤ ((rd_T37 t305 x9_2).f1)) = true := decide_eq_true c58
                        clear c58
                        have H' := Aside0.mk H
                        clear H
                        have p321 : 0 ≤ (x9_2 : Int) := dec_
                        have q321 : x9_2 < (t305.length : Int) := dec_
                        obtain ⟨ad321, e321, hx321_0, hx321_1, hx321_2, hx321_3⟩ := at_T37 (Kd.R_reads' HO_7.out).2.2 x9_2 p321 q321
                        (try rw [← Nbq53.out] at hx321_3)
                        cases e321
                        replace p321 := eq_true p321
                        replace q321 := eq_true q321
                        have p324 : 0 ≤ (x9_2 : Int) := dec_
                        have q324 : x9_2 < (t305.length : Int) := dec_
                        obtain ⟨ad324, e324, hx324_0, hx324_1, hx324_2, hx324_3⟩ := at_T37 (Kd.R_reads' HO_7.out).2.2 x9_2 p324 q324
                        (try rw [← Nbq53.out] at hx324_3)
                        obtain rfl : ad321 = ad324 := (by injection e324)
                        replace p324 := eq_true p324
                        replace q324 := eq_true q324
                        have p325 : 0 ≤ (x9_2 : Int) := dec_
                        have q325 : x9_2 < (t305.length : Int) := dec_
                        obtain ⟨ad325, e325, hx325_0, hx325_1, hx325_2, hx325_3⟩ := at_T37 (Kd.R_reads' HO_7.out).2.2 x9_2 p325 q325
                        (try rw [← Nbq53.out] at hx325_3)
                        obtain rfl : ad321 = ad325 := (by injection e325)
                        replace p325 := eq_true p325
                        replace q325 := eq_true q325
                        have p326 : 0 ≤ (x9_2 : Int) := dec_
                        have q326 : x9_2 < (t305.length : Int) := dec_
                        obtain ⟨ad326, e326, hx326_0, hx326_1, hx326_2, hx326_3⟩ := at_T37 (Kd.R_reads' HO_7.out).2.2 x9_2 p326 q326
                        (try rw [← Nbq53.out] at hx326_3)
                        obtain rfl : ad321 = ad326 := (by injection e326)
                        replace p326 := eq_true p326
                        replace q326 := eq_true q326
                        have p327 : 0 ≤ (x9_2 : Int) := dec_
                        have q327 : x9_2 < (t305.length : Int) := dec_
                        obtain ⟨ad327, e327, hx327_0, hx327_1, hx327_2, hx327_3⟩ := at_T37 (Kd.R_reads' HO_7.out).2.2 x9_2 p327 q327
                        (try rw [← Nbq53.out] at hx327_3)
                        obtain rfl : ad321 = ad327 := (by injection e327)
                        replace p327 := eq_true p327
                        replace q327 := eq_true q327
                        have hcz59_ := cells13_ BK301.out
                        have p328 : 0 ≤ (x9_2 : Int) := dec_
                        have q328 : x9_2 < (t305.length : Int) := dec_
                        obtain ⟨ad328, e328, hx328_0, hx328_1, hx328_2, hx328_3⟩ := at_T37 (Kd.R_reads' HO_7.out).2.2 x9_2 p328 q328
                        (try rw [← Nbq53.out] at hx328_3)
                        obtain rfl : ad321 = ad328 := (by injection e328)
                        replace p328 := eq_true p328
                        replace q328 := eq_true q328
                        go_wp2
                        repeat (go_quiet (fail); try go_wp2)
                        go_meet
                        case rel => exact ⟨_, (true), val_, H', ⟨by have := HJ3.out; have := HK2.out; have := HK3.out; have := HK4.out; have := HK5.out; first | omega | exact Nat.le_refl _⟩, ⟨rod_ HO_7⟩, ⟨blo_ BK301.out⟩, ⟨belg_⟩⟩
                       ·rw [if_neg c58] at H
                        have c58b0 : decide (a2 ≤ ((rd_T37 t305 x9_2).f1)) = false := decide_eq_false c58
                        clear c58
                        have H' := Aside0.mk H
                        clear H
                        have p321 : 0 ≤ (x9_2 : Int) := dec_
                        have q321 : x9_2 < (t305.length : Int) := dec_
                        obtain ⟨ad321, e321, hx321_0, hx321_1, hx321_2, hx321_3⟩ := at_T37 (Kd.R_reads' HO_7.out).2.2 x9_2 p321 q321
                        (try rw [← Nbq53.out] at hx321_3)
                        cases e321
                        replace p321 := eq_true p321
                        replace q321 := eq_true q321
                        have p324 : 0 ≤ (x9_2 : Int) := dec_
                        have q324 : x9_2 < (t305.length : Int) := dec_
                        obtain ⟨ad324, e324, hx324_0, hx324_1, hx324_2, hx324_3⟩ := at_T37 (Kd.R_reads' HO_7.out).2.2 x9_2 p324 q324
                        (try rw [← Nbq53.out] at hx324_3)
                        obtain rfl : ad321 = ad324 := (by injection e324)
                        replace p324 := eq_true p324
                        replace q324 := eq_true q324
                        have p325 : 0 ≤ (x9_2 : Int) := dec_
                        have q325 : x9_2 < (t305.length : Int) := dec_
                        obtain ⟨ad325, e325, hx325_0, hx325_1, hx325_2, hx325_3⟩ := at_T37 (Kd.R_reads' HO_7.out).2.2 x9_2 p325 q325
                        (try rw [← Nbq53.out] at hx325_3)
                        obtain rfl : ad321 = ad325 := (by injection e325)
                        replace p325 := eq_true p325
                        replace q325 := eq_true q325
                        have p326 : 0 ≤ (x9_2 : Int) := dec_
                        have q326 : x9_2 < (t305.length : Int) := dec_
                        obtain ⟨ad326, e326, hx326_0, hx326_1, hx326_2, hx326_3⟩ := at_T37 (Kd.R_reads' HO_7.out).2.2 x9_2 p326 q326
                        (try rw [← Nbq53.out] at hx326_3)
                        obtain rfl : ad321 = ad326 := (by injection e326)
                        replace p326 := eq_true p326
                        replace q326 := eq_true q326
                        have p327 : 0 ≤ (x9_2 : Int) := dec_
                        have q327 : x9_2 < (t305.length : Int) := dec_
                        obtain ⟨ad327, e327, hx327_0, hx327_1, hx327_2, hx327_3⟩ := at_T37 (Kd.R_reads' HO_7.out).2.2 x9_2 p327 q327
                        (try rw [← Nbq53.out] at hx327_3)
                        obtain rfl : ad321 = ad327 := (by injection e327)
                        replace p327 := eq_true p327
                        replace q327 := eq_true q327
                        have hcz60_ := cells13_ BK301.out
                        have p328 : 0 ≤ (x9_2 : Int) := dec_
                        have q328 : x9_2 < (t305.length : Int) := dec_
                        obtain ⟨ad328, e328, hx328_0, hx328_1, hx328_2, hx328_3⟩ := at_T37 (Kd.R_reads' HO_7.out).2.2 x9_2 p328 q328
                        (try rw [← Nbq53.out] at hx328_3)
                        obtain rfl : ad321 = ad328 := (by injection e328)
                        replace p328 := eq_true p328
                        replace q328 := eq_true q328
                        have p329 : 0 ≤ (x9_2 : Int) := dec_
                        have q329 : x9_2 < (t305.length : Int) := dec_
                        obtain ⟨ad329, e329, hx329_0, hx329_1, hx329_2, hx329_3⟩ := at_T37 (Kd.R_reads' HO_7.out).2.2 x9_2 p329 q329
                        (try rw [← Nbq53.out] at hx329_3)
                        obtain rfl : ad321 = ad329 := (by injection e329)
                        replace p329 := eq_true p329
                        replace q329 := eq_true q329
                        go_wp2
                        repeat (go_quiet (fail); try go_wp2)
                        go_meet
                        case rel => exact ⟨_, (decide (((rd_T37 t305 x9_2).f2) < a1)), val_, H', ⟨by have := HJ3.out; have := HK2.out; have := HK3.out; have := HK4.out; have := HK5.out; first | omega | exact Nat.le_refl _⟩, ⟨rod_ HO_7⟩, ⟨blo_ BK301.out⟩, ⟨belg_⟩⟩
                      ·rw [if_neg c57] at H
                       have c57b0 : ((wrap64 (((rd_T37 t305 x9_2).f2) - ((rd_T37 t305 x9_2).f1))) == a0_1) = false := beq_eq_false_iff_ne.mpr c57
                       have c57b1 : ((wrap64 (((rd_T37 t305 x9_2).f2) - ((rd_T37 t305 x9_2).f1))) != a0_1) = true := bne_iff_ne.mpr c57
                       have H' := Aside0.mk H
                       clear H
                       have p321 : 0 ≤ (x9_2 : Int) := dec_
                       have q321 : x9_2 < (t305.length : Int) := dec_
                       obtain ⟨ad321, e321, hx321_0, hx321_1, hx321_2, hx321_3⟩ := at_T37 (Kd.R_reads' HO_7.out).2.2 x9_2 p321 q321
                       (try rw [← Nbq53.out] at hx321_3)
                       cases e321
                       replace p321 := eq_true p321
                       replace q321 := eq_true q321
                       have p324 : 0 ≤ (x9_2 : Int) := dec_
                       have q324 : x9_2 < (t305.length : Int) := dec_
                       obtain ⟨ad324, e324, hx324_0, hx324_1, hx324_2, hx324_3⟩ := at_T37 (Kd.R_reads' HO_7.out).2.2 x9_2 p324 q324
                       (try rw [← Nbq53.out] at hx324_3)
                       obtain rfl : ad321 = ad324 := (by injection e324)
                       replace p324 := eq_true p324
                       replace q324 := eq_true q324
                       have p325 : 0 ≤ (x9_2 : Int) := dec_
                       have q325 : x9_2 < (t305.length : Int) := dec_
                       obtain ⟨ad325, e325, hx325_0, hx325_1, hx325_2, hx325_3⟩ := at_T37 (Kd.R_reads' HO_7.out).2.2 x9_2 p325 q325
                       (try rw [← Nbq53.out] at hx325_3)
                       obtain rfl : ad321 = ad325 := (by injection e325)
                       replace p325 := eq_true p325
                       replace q325 := eq_true q325
                       have p326 : 0 ≤ (x9_2 : Int) := dec_
                       have q326 : x9_2 < (t305.length : Int) := dec_
                       obtain ⟨ad326, e326, hx326_0, hx326_1, hx326_2, hx326_3⟩ := at_T37 (Kd.R_reads' HO_7.out).2.2 x9_2 p326 q326
                       (try rw [← Nbq53.out] at hx326_3)
                       obtain rfl : ad321 = ad326 := (by injection e326)
                       replace p326 := eq_true p326
                       replace q326 := eq_true q326
                       have p327 : 0 ≤ (x9_2 : Int) := dec_
                       have q327 : x9_2 < (t305.length : Int) := dec_
                       obtain ⟨ad327, e327, hx327_0, hx327_1, hx327_2, hx327_3⟩ := at_T37 (Kd.R_reads' HO_7.out).2.2 x9_2 p327 q327
                       (try rw [← Nbq53.out] at hx327_3)
                       obtain rfl : ad321 = ad327 := (by injection e327)
                       replace p327 := eq_true p327
                       replace q327 := eq_true q327
                       have hcz61_ := cells13_ BK301.out
                       go_wp2
                       repeat (go_quiet (fail); try go_wp2)
                       go_meet
                       case rel => exact ⟨_, (true), val_, H', ⟨by have := HJ3.out; have := HK2.out; have := HK3.out; have := HK4.out; have := HK5.out; first | omega | exact Nat.le_refl _⟩, ⟨rod_ HO_7⟩, ⟨blo_ BK301.out⟩, ⟨belg_⟩⟩
                     ·rw [if_neg c56] at H
                      have c56b0 : (((rd_T37 t305 x9_2).f1) == ((rd_T37 t305 x9_2).f0)) = false := beq_eq_false_iff_ne.mpr c56
                      have c56b1 : (((rd_T37 t305 x9_2).f1) != ((rd_T37 t305 x9_2).f0)) = true := bne_iff_ne.mpr c56
                      have H' := Aside0.mk H
                      clear H
                      have p321 : 0 ≤ (x9_2 : Int) := dec_
                      have q321 : x9_2 < (t305.length : Int) := dec_
                      obtain ⟨ad321, e321, hx321_0, hx321_1, hx321_2, hx321_3⟩ := at_T37 (Kd.R_reads' HO_7.out).2.2 x9_2 p321 q321
                      (try rw [← Nbq53.out] at hx321_3)
                      cases e321
                      replace p321 := eq_true p321
                      replace q321 := eq_true q321
                      have p324 : 0 ≤ (x9_2 : Int) := dec_
                      have q324 : x9_2 < (t305.length : Int) := dec_
                      obtain ⟨ad324, e324, hx324_0, hx324_1, hx324_2, hx324_3⟩ := at_T37 (Kd.R_reads' HO_7.out).2.2 x9_2 p324 q324
                      (try rw [← Nbq53.out] at hx324_3)
                      obtain rfl : ad321 = ad324 := (by injection e324)
                      replace p324 := eq_true p324
                      replace q324 := eq_true q324
                      have p325 : 0 ≤ (x9_2 : Int) := dec_
                      have q325 : x9_2 < (t305.length : Int) := dec_
                      obtain ⟨ad325, e325, hx325_0, hx325_1, hx325_2, hx325_3⟩ := at_T37 (Kd.R_reads' HO_7.out).2.2 x9_2 p325 q325
                      (try rw [← Nbq53.out] at hx325_3)
                      obtain rfl : ad321 = ad325 := (by injection e325)
                      replace p325 := eq_true p325
                      replace q325 := eq_true q325
                      go_wp2
                      repeat (go_quiet (fail); try go_wp2)
                      go_meet
                      case rel => exact ⟨_, (true), val_, H', ⟨by have := HJ3.out; have := HK2.out; have := HK3.out; have := HK4.out; have := HK5.out; first | omega | exact Nat.le_refl _⟩, ⟨rod_ HO_7⟩, ⟨blo_ BK301.out⟩, ⟨belg_⟩⟩
                   ·rw [if_neg c52] at H
                    exact absurd H (by simp)
                  ·rw [if_neg c51] at H
                   exact absurd H (by simp)
                 case rest =>
                  as_aux_lemma =>
                  clear HC49
                  try clear p2
                  try clear c3
                  try clear p3
                  try clear q3
                  try clear hx3
                  try clear c4
                  try clear q4
                  try clear c5
                  try clear q5
                  try clear p6
                  try clear p31
                  try clear q31
                  try clear hx31
                  try clear p32
                  try clear q32
                  try clear hx32
                  try clear c37
                  try clear c37b0
                  try clear c38
                  try clear c39
                  try clear c39b0
                  try clear c40
                  try clear c40b0
                  try clear c41
                  try clear c41b0
                  try clear c41b1
                  try clear q42
                  try clear c43
                  try clear q44
                  try clear c45
                  try clear c46
                  try clear c46b0
                  try clear c46b1
                  try clear c51
                  try clear c51b0
                  try clear c52
                  try clear c52b0
                  try clear q53
                  try clear c54
                  try clear c55
                  try clear c55b0
                  try clear c56
                  try clear c56b0
                  try clear c56b1
                  try clear c57
                  try clear c57b0
                  try clear c57b1
                  try clear c58
                  try clear c58b0
                  try clear hcz47_
                  try clear hcz48_
                  try clear hcz50_
                  try clear hcz59_
                  try clear hcz60_
                  try clear hcz61_
                  try clear hx315_0
                  try clear hx315_1
                  try clear hx315_2
                  try clear hx315_3
                  try clear hx316_0
                  try clear hx316_1
                  try clear hx316_2
                  try clear hx316_3
                  try clear hx317_0
                  try clear hx317_1
                  try clear hx317_2
                  try clear hx317_3
                  try clear hx318_0
                  try clear hx318_1
                  try clear hx318_2
                  try clear hx318_3
                  try clear hx319_0
                  try clear hx319_1
                  try clear hx319_2
                  try clear hx319_3
                  try clear hx320_0
                  try clear hx320_1
                  try clear hx320_2
                  try clear hx320_3
                  try clear hx321_0
                  try clear hx321_1
                  try clear hx321_2
                  try clear hx321_3
                  try clear hx322_0
                  try clear hx322_1
                  try clear hx322_2
                  try clear hx322_3
                  try clear hx323_0
                  try clear hx323_1
                  try clear hx323_2
                  try clear hx323_3
                  try clear hx324_0
                  try clear hx324_1
                  try clear hx324_2
                  try clear hx324_3
                  try clear hx325_0
                  try clear hx325_1
                  try clear hx325_2
                  try clear hx325_3
                  try clear hx326_0
                  try clear hx326_1
                  try clear hx326_2
                  try clear hx326_3
                  try clear hx327_0
                  try clear hx327_1
                  try clear hx327_2
                  try clear hx327_3
                  try clear hx328_0
                  try clear hx328_1
                  try clear hx328_2
                  try clear hx328_3
                  try clear hx329_0
                  try clear hx329_1
                  try clear hx329_2
                  try clear hx329_3
                  try clear p315
                  try clear p316
                  try clear p317
                  try clear p318
                  try clear p319
                  try clear p320
                  try clear p321
                  try clear p322
                  try clear p323
                  try clear p324
                  try clear p325
                  try clear p326
                  try clear p327
                  try clear p328
                  try clear p329
                  try clear q315
                  try clear q316
                  try clear q317
                  try clear q318
                  try clear q319
                  try clear q320
                  try clear q321
                  try clear q322
                  try clear q323
                  try clear q324
                  try clear q325
                  try clear q326
                  try clear q327
                  try clear q328
                  try clear q329
                  obtain ⟨kq, x178_48, rfl, HA, HJ48, HO_7, BK301, HB⟩ := hcut
                  cases kq with
                  | zero => exact absurd HA.out (by simp [posthornlaw23_SeriesOnce.j5])
                  | succ kj48 =>
                   have H := HA.out
                   clear HA
                   simp only [posthornlaw23_SeriesOnce.j5] at H
                   by_cases c62 : x178_48 = true
                   ·subst c62
                    have H1 := ifp_ H
                    clear H
                    have H := H1
                    clear H1
                    exact absurd (Option.some.inj H) (by rw [hr_.out]; decide)
                   ·replace c62 := Bool.eq_false_iff.mpr c62
                    subst c62
                    have H1 := ifn_ H
                    clear H
                    have H := H1
                    clear H1
                    by_cases c63 : x9_2 > 0
                    ·rw [if_pos c63] at H
                     have c63b0 : decide (0 < x9_2) = true := decide_eq_true c63
                     clear c63
                     obtain ⟨ji64, hji64⟩ : ∃ j_ : Int, (wrap64 (x9_2 - 1)) = j_ := ⟨_, rfl⟩
                     replace H : (if 0 ≤ (ji64) then (if (ji64) < (t305.length : Int) then (if 0 ≤ x9_2 then (if x9_2 < (t305.length : Int) then (if ((rd_T37 t305 (ji64)).f1) > ((rd_T37 t305 x9_2).f1) then (some false) else (posthornlaw23_SeriesOnce.l0 kj48 a1 a2 t305 (wrap64 (x9_2 + 1)) a0_0 a0_1 a0_2 a0_3 a0_4 a0_5 a0_6 l0_7 l0_8 l0_9 l0_10 l0_11 l0_12)) else (none)) else (none)) else (none)) else (none)) = some r := by first | (rw [hji64] at H; exact H) | (simp only [hji64] at H ⊢; exact H)
                     have hji64w : (IntKind.i64.wrap (x9_2 - 1)) = ji64 := (i64_w _).trans hji64
                     by_cases c65 : 0 ≤ (ji64)
                     ·rw [if_pos c65] at H
                      have c65b0 : decide (0 ≤ (ji64)) = true := decide_eq_true c65
                      clear c65
                      by_cases c66 : (ji64) < (t305.length : Int)
                      ·rw [if_pos c66] at H
                       have c66b0 : decide ((ji64) < (t305.length : Int)) = true := decide_eq_true c66
                       clear c66
                       by_cases c67 : 0 ≤ x9_2
                       ·rw [if_pos c67] at H
                        have c67b0 : decide (0 ≤ x9_2) = true := decide_eq_true c67
                        clear c67
                        by_cases c68 : x9_2 < (t305.length : Int)
                        ·rw [if_pos c68] at H
                         have c68b0 : decide (x9_2 < (t305.length : Int)) = true := decide_eq_true c68
                         clear c68
                         by_cases c69 : ((rd_T37 t305 (ji64)).f1) > ((rd_T37 t305 x9_2).f1)
                         ·rw [if_pos c69] at H
                          have c69b0 : decide (((rd_T37 t305 x9_2).f1) < ((rd_T37 t305 (ji64)).f1)) = true := decide_eq_true c69
                          clear c69
                          exact absurd (Option.some.inj H) (by rw [hr_.out]; decide)
                         ·rw [if_neg c69] at H
                          have c69b0 : decide (((rd_T37 t305 x9_2).f1) < ((rd_T37 t305 (ji64)).f1)) = false := decide_eq_false c69
                          clear c69
                          have H' := Aside0.mk H
                          clear H
                          have p330 : 0 ≤ ((ji64) : Int) := dec_
                          have q330 : (ji64) < (t305.length : Int) := dec_
                          obtain ⟨ad330, e330, hx330_0, hx330_1, hx330_2, hx330_3⟩ := at_T37 (Kd.R_reads' HO_7.out).2.2 (ji64) p330 q330
                          cases e330
                          replace p330 := eq_true p330
                          replace q330 := eq_true q330
                          have p331 : 0 ≤ (x9_2 : Int) := dec_
                          have q331 : x9_2 < (t305.length : Int) := dec_
                          obtain ⟨ad331, e331, hx331_0, hx331_1, hx331_2, hx331_3⟩ := at_T37 (Kd.R_reads' HO_7.out).2.2 x9_2 p331 q331
                          obtain rfl : ad330 = ad331 := (by injection e331)
                          replace p331 := eq_true p331
                          replace q331 := eq_true q331
                          go_wp2
                          repeat (go_quiet (fail); try go_wp2)
                          go_roundg kj48
                          case measure => have := HJ3.out; have := HK2.out; have := HK3.out; have := HK4.out; have := HK5.out; have := HJ48.out; omega
                          case rel => exact ⟨(wrap64 (x9_2 + 1)), val_, H', ⟨by have := HJ3.out; have := HK2.out; have := HK3.out; have := HK4.out; have := HK5.out; have := HJ48.out; omega⟩, ⟨rod_ HO_7⟩, ⟨blo_ BK301.out⟩, ⟨belg_⟩⟩
                        ·rw [if_neg c68] at H
                         exact absurd H (by simp)
                       ·rw [if_neg c67] at H
                        exact absurd H (by simp)
                      ·rw [if_neg c66] at H
                       exact absurd H (by simp)
                     ·rw [if_neg c65] at H
                      exact absurd H (by simp)
                    ·rw [if_neg c63] at H
                     have c63b0 : decide (0 < x9_2) = false := decide_eq_false c63
                     clear c63
                     have H' := Aside0.mk H
                     clear H
                     go_wp2
                     repeat (go_quiet (fail); try go_wp2)
                     go_roundg kj48
                     case measure => have := HJ3.out; have := HK2.out; have := HK3.out; have := HK4.out; have := HK5.out; have := HJ48.out; omega
                     case rel => exact ⟨(wrap64 (x9_2 + 1)), val_, H', ⟨by have := HJ3.out; have := HK2.out; have := HK3.out; have := HK4.out; have := HK5.out; have := HJ48.out; omega⟩, ⟨rod_ HO_7⟩, ⟨blo_ BK301.out⟩, ⟨belg_⟩⟩
       ·rw [if_neg c22] at H
        have c22b0 : decide (x9_2 < (t305.length : Int)) = false := decide_eq_false c22
        clear c22
        replace H := Option.bind_eq_some_iff.mp H
        obtain ⟨t310, A700, H⟩ := H
        try dsimp only at H
        have A70 := Aside0.mk A700
        clear A700
        obtain rfl := Option.some.inj H
        obtain ⟨Ao71, co71, eo71⟩ := Kd.R_slice HO_7.out
        subst eo71
        go_wp2_with (first | (go_at_call 8; (with_reducible refine (posthornlaw23_alive.calls k2  t310 _ A70.out).mono ?_); rintro e w72 ⟨rfl, hb⟩; have n0_ := ad_ (Kd.R_below (rod_ HO_7) hb); have n1_ := ad_ (blk_below (g := gb301) (o := .cells #[.int .i64 a0_0, .int .i64 a0_1, .bool a0_2, .int .i64 a0_3, .int .i64 a0_4, .int .i64 a0_5, .int .i64 a0_6, .slice A0_7 l0_7.length c0_7, .slice A0_8 l0_8.length c0_8, .slice A0_9 l0_9.length c0_9, .slice A0_10 l0_10.length c0_10, .slice A0_11 l0_11.length c0_11, .slice A0_12 l0_12.length c0_12] 29 (0, 0)) (blo_ BK301.out) hb); have n2_ := ad_ (below_step belg_ hb); clear HO_7; clear BK301; clear HB; have HO_7 := n0_; have BK301 := n1_; have HB := n2_; clear n0_ n1_ n2_; (try clear hb); (try clear hb2); (try clear hk); (try clear hi)))
        repeat (go_quiet (first | (go_at_call 8; (with_reducible refine (posthornlaw23_alive.calls k2  t310 _ A70.out).mono ?_); rintro e w72 ⟨rfl, hb⟩; have n0_ := ad_ (Kd.R_below (rod_ HO_7) hb); have n1_ := ad_ (blk_below (g := gb301) (o := .cells #[.int .i64 a0_0, .int .i64 a0_1, .bool a0_2, .int .i64 a0_3, .int .i64 a0_4, .int .i64 a0_5, .int .i64 a0_6, .slice A0_7 l0_7.length c0_7, .slice A0_8 l0_8.length c0_8, .slice A0_9 l0_9.length c0_9, .slice A0_10 l0_10.length c0_10, .slice A0_11 l0_11.length c0_11, .slice A0_12 l0_12.length c0_12] 29 (0, 0)) (blo_ BK301.out) hb); have n2_ := ad_ (below_step belg_ hb); clear HO_7; clear BK301; clear HB; have HO_7 := n0_; have BK301 := n1_; have HB := n2_; clear n0_ n1_ n2_; (try clear hb); (try clear hb2); (try clear hk); (try clear hi))); try go_wp2_with (first | (go_at_call 8; (with_reducible refine (posthornlaw23_alive.calls k2  t310 _ A70.out).mono ?_); rintro e w72 ⟨rfl, hb⟩; have n0_ := ad_ (Kd.R_below (rod_ HO_7) hb); have n1_ := ad_ (blk_below (g := gb301) (o := .cells #[.int .i64 a0_0, .int .i64 a0_1, .bool a0_2, .int .i64 a0_3, .int .i64 a0_4, .int .i64 a0_5, .int .i64 a0_6, .slice A0_7 l0_7.length c0_7, .slice A0_8 l0_8.length c0_8, .slice A0_9 l0_9.length c0_9, .slice A0_10 l0_10.length c0_10, .slice A0_11 l0_11.length c0_11, .slice A0_12 l0_12.length c0_12] 29 (0, 0)) (blo_ BK301.out) hb); have n2_ := ad_ (below_step belg_ hb); clear HO_7; clear BK301; clear HB; have HO_7 := n0_; have BK301 := n1_; have HB := n2_; clear n0_ n1_ n2_; (try clear hb); (try clear hb2); (try clear hk); (try clear hi))))
        go_ret
        exact ⟨ret_, belg_⟩
    ·as_aux_lemma =>
     rw [if_neg c19] at H
     have c19b0 : (t308 == 0) = false := beq_eq_false_iff_ne.mpr c19
     have c19b1 : (t308 != 0) = true := bne_iff_ne.mpr c19
     replace H := Option.bind_eq_some_iff.mp H
     obtain ⟨t309, A730, H⟩ := H
     try dsimp only at H
     have A73 := Aside0.mk A730
     clear A730
     by_cases c74 : t309 = true
     ·as_aux_lemma =>
      subst c74
      have H1 := ifp_ H
      clear H
      have H := H1
      clear H1
      obtain rfl := Option.some.inj H
      have hcz75_ := cells13_ BK301.out
      go_wp2_with (first | (go_at_call 9; (with_reducible refine (series_Instances.calls kj3 a0_0 a0_1 a0_2 a0_3 a0_4 a0_5 a0_6 _ _ l0_7 _ _ l0_8 _ _ l0_9 _ _ l0_10 _ _ l0_11 _ _ l0_12 a1 a2 t305 t308 _ ?side1 ?side2 ?side3 ?side4 ?side5 ?side6 ?side7 ?side8 ?side9 ?side10 ?side11 ?side12 A18.out).mono ?_); (case side1 => exact cop_ (Kd.C_below HR0_7.out HB.out)); (case side2 => exact HC0_7.out); (case side3 => exact cop_ (Kd.C_below HR0_8.out HB.out)); (case side4 => exact HC0_8.out); (case side5 => exact cop_ (Kd.C_below HR0_9.out HB.out)); (case side6 => exact HC0_9.out); (case side7 => exact cop_ (Kd.C_below HR0_10.out HB.out)); (case side8 => exact HC0_10.out); (case side9 => exact cop_ (Kd.C_below HR0_11.out HB.out)); (case side10 => exact HC0_11.out); (case side11 => exact cop_ (Kd.C_below HR0_12.out HB.out)); (case side12 => exact HC0_12.out); rintro e w76 ⟨v306, rfl, ho0, hb⟩; have n0_ := ad_ (Kd.R_lower ho0 (below_size belg_)); have n1_ := ad_ (blk_below (g := gb301) (o := .cells #[.int .i64 a0_0, .int .i64 a0_1, .bool a0_2, .int .i64 a0_3, .int .i64 a0_4, .int .i64 a0_5, .int .i64 a0_6, .slice A0_7 l0_7.length c0_7, .slice A0_8 l0_8.length c0_8, .slice A0_9 l0_9.length c0_9, .slice A0_10 l0_10.length c0_10, .slice A0_11 l0_11.length c0_11, .slice A0_12 l0_12.length c0_12] 29 (0, 0)) (blo_ BK301.out) hb); have n2_ := ad_ (below_step belg_ hb); clear BK301; clear HB; have HO307 := n0_; have BK301 := n1_; have HB := n2_; clear n0_ n1_ n2_; (try clear hb); (try clear hb2); (try clear hk); (try clear hi); (try clear ho0)) | (go_at_call 8; (with_reducible refine (posthornlaw23_alive.calls kj3  true _ A73.out).mono ?_); rintro e w77 ⟨rfl, hb⟩; have n0_ := ad_ (Kd.R_below (rod_ HO307) hb); have n1_ := ad_ (blk_below (g := gb301) (o := .cells #[.int .i64 a0_0, .int .i64 a0_1, .bool a0_2, .int .i64 a0_3, .int .i64 a0_4, .int .i64 a0_5, .int .i64 a0_6, .slice A0_7 l0_7.length c0_7, .slice A0_8 l0_8.length c0_8, .slice A0_9 l0_9.length c0_9, .slice A0_10 l0_10.length c0_10, .slice A0_11 l0_11.length c0_11, .slice A0_12 l0_12.length c0_12] 29 (0, 0)) (blo_ BK301.out) hb); have n2_ := ad_ (below_step belg_ hb); clear HO307; clear BK301; clear HB; have HO307 := n0_; have BK301 := n1_; have HB := n2_; clear n0_ n1_ n2_; (try clear hb); (try clear hb2); (try clear hk); (try clear hi); obtain ⟨Ao78, co78, eo78⟩ := Kd.R_slice HO307.out; subst eo78))
      repeat (go_quiet (first | (go_at_call 9; (with_reducible refine (series_Instances.calls kj3 a0_0 a0_1 a0_2 a0_3 a0_4 a0_5 a0_6 _ _ l0_7 _ _ l0_8 _ _ l0_9 _ _ l0_10 _ _ l0_11 _ _ l0_12 a1 a2 t305 t308 _ ?side1 ?side2 ?side3 ?side4 ?side5 ?side6 ?side7 ?side8 ?side9 ?side10 ?side11 ?side12 A18.out).mono ?_); (case side1 => exact cop_ (Kd.C_below HR0_7.out HB.out)); (case side2 => exact HC0_7.out); (case side3 => exact cop_ (Kd.C_below HR0_8.out HB.out)); (case side4 => exact HC0_8.out); (case side5 => exact cop_ (Kd.C_below HR0_9.out HB.out)); (case side6 => exact HC0_9.out); (case side7 => exact cop_ (Kd.C_below HR0_10.out HB.out)); (case side8 => exact HC0_10.out); (case side9 => exact cop_ (Kd.C_below HR0_11.out HB.out)); (case side10 => exact HC0_11.out); (case side11 => exact cop_ (Kd.C_below HR0_12.out HB.out)); (case side12 => exact HC0_12.out); rintro e w76 ⟨v306, rfl, ho0, hb⟩; have n0_ := ad_ (Kd.R_lower ho0 (below_size belg_)); have n1_ := ad_ (blk_below (g := gb301) (o := .cells #[.int .i64 a0_0, .int .i64 a0_1, .bool a0_2, .int .i64 a0_3, .int .i64 a0_4, .int .i64 a0_5, .int .i64 a0_6, .slice A0_7 l0_7.length c0_7, .slice A0_8 l0_8.length c0_8, .slice A0_9 l0_9.length c0_9, .slice A0_10 l0_10.length c0_10, .slice A0_11 l0_11.length c0_11, .slice A0_12 l0_12.length c0_12] 29 (0, 0)) (blo_ BK301.out) hb); have n2_ := ad_ (below_step belg_ hb); clear BK301; clear HB; have HO307 := n0_; have BK301 := n1_; have HB := n2_; clear n0_ n1_ n2_; (try clear hb); (try clear hb2); (try clear hk); (try clear hi); (try clear ho0)) | (go_at_call 8; (with_reducible refine (posthornlaw23_alive.calls kj3  true _ A73.out).mono ?_); rintro e w77 ⟨rfl, hb⟩; have n0_ := ad_ (Kd.R_below (rod_ HO307) hb); have n1_ := ad_ (blk_below (g := gb301) (o := .cells #[.int .i64 a0_0, .int .i64 a0_1, .bool a0_2, .int .i64 a0_3, .int .i64 a0_4, .int .i64 a0_5, .int .i64 a0_6, .slice A0_7 l0_7.length c0_7, .slice A0_8 l0_8.length c0_8, .slice A0_9 l0_9.length c0_9, .slice A0_10 l0_10.length c0_10, .slice A0_11 l0_11.length c0_11, .slice A0_12 l0_12.length c0_12] 29 (0, 0)) (blo_ BK301.out) hb); have n2_ := ad_ (below_step belg_ hb); clear HO307; clear BK301; clear HB; have HO307 := n0_; have BK301 := n1_; have HB := n2_; clear n0_ n1_ n2_; (try clear hb); (try clear hb2); (try clear hk); (try clear hi); obtain ⟨Ao78, co78, eo78⟩ := Kd.R_slice HO307.out; subst eo78)); try go_wp2_with (first | (go_at_call 9; (with_reducible refine (series_Instances.calls kj3 a0_0 a0_1 a0_2 a0_3 a0_4 a0_5 a0_6 _ _ l0_7 _ _ l0_8 _ _ l0_9 _ _ l0_10 _ _ l0_11 _ _ l0_12 a1 a2 t305 t308 _ ?side1 ?side2 ?side3 ?side4 ?side5 ?side6 ?side7 ?side8 ?side9 ?side10 ?side11 ?side12 A18.out).mono ?_); (case side1 => exact cop_ (Kd.C_below HR0_7.out HB.out)); (case side2 => exact HC0_7.out); (case side3 => exact cop_ (Kd.C_below HR0_8.out HB.out)); (case side4 => exact HC0_8.out); (case side5 => exact cop_ (Kd.C_below HR0_9.out HB.out)); (case side6 => exact HC0_9.out); (case side7 => exact cop_ (Kd.C_below HR0_10.out HB.out)); (case side8 => exact HC0_10.out); (case side9 => exact cop_ (Kd.C_below HR0_11.out HB.out)); (case side10 => exact HC0_11.out); (case side11 => exact cop_ (Kd.C_below HR0_12.out HB.out)); (case side12 => exact HC0_12.out); rintro e w76 ⟨v306, rfl, ho0, hb⟩; have n0_ := ad_ (Kd.R_lower ho0 (below_size belg_)); have n1_ := ad_ (blk_below (g := gb301) (o := .cells #[.int .i64 a0_0, .int .i64 a0_1, .bool a0_2, .int .i64 a0_3, .int .i64 a0_4, .int .i64 a0_5, .int .i64 a0_6, .slice A0_7 l0_7.length c0_7, .slice A0_8 l0_8.length c0_8, .slice A0_9 l0_9.length c0_9, .slice A0_10 l0_10.length c0_10, .slice A0_11 l0_11.length c0_11, .slice A0_12 l0_12.length c0_12] 29 (0, 0)) (blo_ BK301.out) hb); have n2_ := ad_ (below_step belg_ hb); clear BK301; clear HB; have HO307 := n0_; have BK301 := n1_; have HB := n2_; clear n0_ n1_ n2_; (try clear hb); (try clear hb2); (try clear hk); (try clear hi); (try clear ho0)) | (go_at_call 8; (with_reducible refine (posthornlaw23_alive.calls kj3  true _ A73.out).mono ?_); rintro e w77 ⟨rfl, hb⟩; have n0_ := ad_ (Kd.R_below (rod_ HO307) hb); have n1_ := ad_ (blk_below (g := gb301) (o := .cells #[.int .i64 a0_0, .int .i64 a0_1, .bool a0_2, .int .i64 a0_3, .int .i64 a0_4, .int .i64 a0_5, .int .i64 a0_6, .slice A0_7 l0_7.length c0_7, .slice A0_8 l0_8.length c0_8, .slice A0_9 l0_9.length c0_9, .slice A0_10 l0_10.length c0_10, .slice A0_11 l0_11.length c0_11, .slice A0_12 l0_12.length c0_12] 29 (0, 0)) (blo_ BK301.out) hb); have n2_ := ad_ (below_step belg_ hb); clear HO307; clear BK301; clear HB; have HO307 := n0_; have BK301 := n1_; have HB := n2_; clear n0_ n1_ n2_; (try clear hb); (try clear hb2); (try clear hk); (try clear hi); obtain ⟨Ao78, co78, eo78⟩ := Kd.R_slice HO307.out; subst eo78)))
      go_ret
      exact ⟨ret_, belg_⟩
     ·replace c74 := Bool.eq_false_iff.mpr c74
      subst c74
      have H1 := ifn_ H
      clear H
      have H := H1
      clear H1
      exact absurd (Option.some.inj H) (by rw [hr_.out]; decide)

end Go.Proofs.Ytkgkblmeafhkfaa.PS

-- Written by a program of the session (wip/tools).
import Derived.Test.YtkgkblmeafhkfaaPSx0
import Derived.Test.YtkgkblmeafhkfaaPSx1
import Derived.Test.YtkgkblmeafhkfaaPSx4
import Derived.Test.YtkgkblmeafhkfaaPSx14
import Derived.Test.YtkgkblmeafhkfaaPSx15
namespace Go.Proofs.Ytkgkblmeafhkfaa.PS
open Go.RowKit Go.Proofs.YtkgkblmeafhkfaaW.PrintWords Go.Proofs.YtkgkblmeafhkfaaW.PrintLast Go.Proofs.YtkgkblmeafhkfaaW.PrintMore
attribute [local go_sem] max2_int min2_int max_two min_two max_three min_three max_four min_four   -- for this text's walks alone
set_option linter.unusedVariables false
set_option linter.unusedSimpArgs false

attribute [local go_sem high] eqA37
/-! ### posthornlaw23_SeriesWider: function 4 -/
mutual
def posthornlaw23_SeriesWider.j0 : Nat → Int → Int → Int → Int → Bool → Int → Int → Bool → Int → Int → Int → Int → List Int → List Int → List (S78) → List Int → List Int → List (S39) → Option (Bool)
 | 0, _, _, _, _, _, _, _, _, _, _, _, _, _, _, _, _, _, _ => none
 | k + 1, x1, x2, x3, x4, x46, x333000, x333001, x333002, x333003, x333004, x333005, x333006, x333007, x333008, x333009, x333010, x333011, x333012 => if x46 = true then ((posthornlaw23_alive.f k).bind fun t335 => (some t335)) else ((series_Instances.f k x333000 x333001 x333002 x333003 x333004 x333005 x333006 x333007 x333008 x333009 x333010 x333011 x333012 x1 x2).bind fun bt336 => ((series_Instances.f k x333000 x333001 x333002 x333003 x333004 x333005 x333006 x333007 x333008 x333009 x333010 x333011 x333012 (wrap64 (x1 - x3)) (wrap64 (x2 + x4))).bind fun bt340 => (if bt336.2 = 0 then (posthornlaw23_SeriesWider.j1 k bt336.1 bt340.1 (bt340.2 != 0)) else (posthornlaw23_SeriesWider.j1 k bt336.1 bt340.1 true))))
def posthornlaw23_SeriesWider.j1 : Nat → List (S37) → List (S37) → Bool → Option (Bool)
 | 0, _, _, _ => none
 | k + 1, x11, x13, x71 => if x71 = true then ((posthornlaw23_alive.f k).bind fun t344 => (some t344)) else (posthornlaw23_SeriesWider.l0 k x11 x13 0)
def posthornlaw23_SeriesWider.l0 : Nat → List (S37) → List (S37) → Int → Option (Bool)
 | 0, _, _, _ => none
 | k + 1, x11, x13, x15 => if x15 < (x11.length : Int) then (posthornlaw23_SeriesWider.l1 k x11 x13 x15 false 0) else ((posthornlaw23_alive.f k).bind fun t345 => (some t345))
def posthornlaw23_SeriesWider.l1 : Nat → List (S37) → List (S37) → Int → Bool → Int → Option (Bool)
 | 0, _, _, _, _, _ => none
 | k + 1, x11, x13, x15, x16, x17 => if x17 < (x13.length : Int) then (if x16 = true then (posthornlaw23_SeriesWider.l1 k x11 x13 x15 true (wrap64 (x17 + 1))) else (if 0 ≤ x15 then (if x15 < (x11.length : Int) then (if 0 ≤ x17 then (posthornlaw23_SeriesWider.l1 k x11 x13 x15 (((rd_T37 x11 x15).f0) == ((rd_T37 x13 x17).f0) && (((rd_T37 x11 x15).f1) == ((rd_T37 x13 x17).f1) && (((rd_T37 x11 x15).f2) == ((rd_T37 x13 x17).f2) && (((rd_T37 x11 x15).f3) == ((rd_T37 x13 x17).f3))))) (wrap64 (x17 + 1))) else (none)) else (none)) else (none))) else (if x16 = true then (posthornlaw23_SeriesWider.l0 k x11 x13 (wrap64 (x15 + 1))) else (some false))
end
def posthornlaw23_SeriesWider.f (k : Nat) (a0_0 : Int) (a0_1 : Int) (a0_2 : Bool) (a0_3 : Int) (a0_4 : Int) (a0_5 : Int) (a0_6 : Int) (l0_7 : List Int) (l0_8 : List Int) (l0_9 : List (S78)) (l0_10 : List Int) (l0_11 : List Int) (l0_12 : List (S39)) (a1 : Int) (a2 : Int) (a3 : Int) (a4 : Int) : Option (Bool) := (posthornlaw23_Great.f a0_0 a0_1 a0_2 a0_3 a0_4 a0_5 a0_6 l0_7 l0_8 l0_9 l0_10 l0_11 l0_12 a2).bind fun t333 => (if t333 = true then (posthornlaw23_SeriesWider.j0 k a1 a2 a3 a4 true a0_0 a0_1 a0_2 a0_3 a0_4 a0_5 a0_6 l0_7 l0_8 l0_9 l0_10 l0_11 l0_12) else ((posthornlaw23_Great.f a0_0 a0_1 a0_2 a0_3 a0_4 a0_5 a0_6 l0_7 l0_8 l0_9 l0_10 l0_11 l0_12 a1).bind fun t334 => (if t334 = true then (posthornlaw23_SeriesWider.j0 k a1 a2 a3 a4 true a0_0 a0_1 a0_2 a0_3 a0_4 a0_5 a0_6 l0_7 l0_8 l0_9 l0_10 l0_11 l0_12) else (if a3 < 0 then (posthornlaw23_SeriesWider.j0 k a1 a2 a3 a4 true a0_0 a0_1 a0_2 a0_3 a0_4 a0_5 a0_6 l0_7 l0_8 l0_9 l0_10 l0_11 l0_12) else (if a3 > 4194304 then (posthornlaw23_SeriesWider.j0 k a1 a2 a3 a4 true a0_0 a0_1 a0_2 a0_3 a0_4 a0_5 a0_6 l0_7 l0_8 l0_9 l0_10 l0_11 l0_12) else (if a4 < 0 then (posthornlaw23_SeriesWider.j0 k a1 a2 a3 a4 true a0_0 a0_1 a0_2 a0_3 a0_4 a0_5 a0_6 l0_7 l0_8 l0_9 l0_10 l0_11 l0_12) else (if a4 > 4194304 then (posthornlaw23_SeriesWider.j0 k a1 a2 a3 a4 true a0_0 a0_1 a0_2 a0_3 a0_4 a0_5 a0_6 l0_7 l0_8 l0_9 l0_10 l0_11 l0_12) else (posthornlaw23_SeriesWider.j0 k a1 a2 a3 a4 (decide (a1 < a3)) a0_0 a0_1 a0_2 a0_3 a0_4 a0_5 a0_6 l0_7 l0_8 l0_9 l0_10 l0_11 l0_12))))))))
theorem posthornlaw23_SeriesWider.mono_l : ∀ k, (∀ y0 y1 y2 y3 y4 y5 y6 y7 y8 y9 y10 y11 y12 y13 y14 y15 y16 y17, LeO (posthornlaw23_SeriesWider.j0 k y0 y1 y2 y3 y4 y5 y6 y7 y8 y9 y10 y11 y12 y13 y14 y15 y16 y17) (posthornlaw23_SeriesWider.j0 (k + 1) y0 y1 y2 y3 y4 y5 y6 y7 y8 y9 y10 y11 y12 y13 y14 y15 y16 y17)) ∧ (∀ y0 y1 y2, LeO (posthornlaw23_SeriesWider.j1 k y0 y1 y2) (posthornlaw23_SeriesWider.j1 (k + 1) y0 y1 y2)) ∧ (∀ y0 y1 y2, LeO (posthornlaw23_SeriesWider.l0 k y0 y1 y2) (posthornlaw23_SeriesWider.l0 (k + 1) y0 y1 y2)) ∧ (∀ y0 y1 y2 y3 y4, LeO (posthornlaw23_SeriesWider.l1 k y0 y1 y2 y3 y4) (posthornlaw23_SeriesWider.l1 (k + 1) y0 y1 y2 y3 y4))
 | 0 => ⟨fun _ _ _ _ _ _ _ _ _ _ _ _ _ _ _ _ _ _ r h => by simp [posthornlaw23_SeriesWider.j0] at h, fun _ _ _ r h => by simp [posthornlaw23_SeriesWider.j1] at h, fun _ _ _ r h => by simp [posthornlaw23_SeriesWider.l0] at h, fun _ _ _ _ _ r h => by simp [posthornlaw23_SeriesWider.l1] at h⟩
 | k + 1 => by
  obtain ⟨ih0, ih1, ih2, ih3⟩ := posthornlaw23_SeriesWider.mono_l k
  refine ⟨?_, ?_, ?_, ?_⟩
  all_goals
   intros
   first | unfold posthornlaw23_SeriesWider.j0 | unfold posthornlaw23_SeriesWider.j1 | unfold posthornlaw23_SeriesWider.l0 | unfold posthornlaw23_SeriesWider.l1
   repeat' first
   | (with_reducible exact ih0 ..)
   | (with_reducible exact ih1 ..)
   | (with_reducible exact ih2 ..)
   | (with_reducible exact ih3 ..)
   | (with_reducible exact posthornlaw23_alive.mono ..)
   | (with_reducible exact series_Instances.mono ..)
   | (with_reducible exact LeO.refl ..)
   | (with_reducible exact LeO.none ..)
   | (with_reducible refine LeO.ite ?_ ?_)
   | (with_reducible refine LeO.bind ?_ (fun _ => ?_))
   | exact ih0 ..
   | exact ih1 ..
   | exact ih2 ..
   | exact ih3 ..
   | exact posthornlaw23_alive.mono ..
   | exact series_Instances.mono ..
   | exact LeO.none ..
   | refine LeO.ite ?_ ?_
   | refine LeO.bind ?_ (fun _ => ?_)
theorem posthornlaw23_SeriesWider.mono : ∀ a0 a1 a2 a3 a4 a5 a6 a7 a8 a9 a10 a11 a12 a13 a14 a15 a16 k, LeO (posthornlaw23_SeriesWider.f k a0 a1 a2 a3 a4 a5 a6 a7 a8 a9 a10 a11 a12 a13 a14 a15 a16) (posthornlaw23_SeriesWider.f (k + 1) a0 a1 a2 a3 a4 a5 a6 a7 a8 a9 a10 a11 a12 a13 a14 a15 a16) := by
 intro a0 a1 a2 a3 a4 a5 a6 a7 a8 a9 a10 a11 a12 a13 a14 a15 a16 k
 obtain ⟨ih0, ih1, ih2, ih3⟩ := posthornlaw23_SeriesWider.mono_l k
 unfold posthornlaw23_SeriesWider.f
 repeat' first
   | (with_reducible exact ih0 ..)
   | (with_reducible exact ih1 ..)
   | (with_reducible exact ih2 ..)
   | (with_reducible exact ih3 ..)
   | (with_reducible exact posthornlaw23_alive.mono ..)
   | (with_reducible exact series_Instances.mono ..)
   | (with_reducible exact LeO.refl ..)
   | (with_reducible exact LeO.none ..)
   | (with_reducible refine LeO.ite ?_ ?_)
   | (with_reducible refine LeO.bind ?_ (fun _ => ?_))
   | exact ih0 ..
   | exact ih1 ..
   | exact ih2 ..
   | exact ih3 ..
   | exact posthornlaw23_alive.mono ..
   | exact series_Instances.mono ..
   | exact LeO.none ..
   | refine LeO.ite ?_ ?_
   | refine LeO.bind ?_ (fun _ => ?_)
set_option maxHeartbeats 8000000 in
set_option maxRecDepth 100000 in
theorem posthornlaw23_SeriesWider.calls (k : Nat) (a0_0 : Int) (a0_1 : Int) (a0_2 : Bool) (a0_3 : Int) (a0_4 : Int) (a0_5 : Int) (a0_6 : Int) (A0_7 : Option Addr) (c0_7 : Nat) (l0_7 : List Int) (A0_8 : Option Addr) (c0_8 : Nat) (l0_8 : List Int) (A0_9 : Option Addr) (c0_9 : Nat) (l0_9 : List (S78)) (A0_10 : Option Addr) (c0_10 : Nat) (l0_10 : List Int) (A0_11 : Option Addr) (c0_11 : Nat) (l0_11 : List Int) (A0_12 : Option Addr) (c0_12 : Nat) (l0_12 : List (S39)) (a1 : Int) (a2 : Int) (a3 : Int) (a4 : Int) (r : Bool) (w : World) (hr0_7 : Kd.C (Kd.int .i64) w A0_7 l0_7.length l0_7) (hc0_7 : l0_7.length ≤ c0_7) (hr0_8 : Kd.C (Kd.int .i64) w A0_8 l0_8.length l0_8) (hc0_8 : l0_8.length ≤ c0_8) (hr0_9 : Kd.C k78 w A0_9 l0_9.length l0_9) (hc0_9 : l0_9.length ≤ c0_9) (hr0_10 : Kd.C (Kd.int .i64) w A0_10 l0_10.length l0_10) (hc0_10 : l0_10.length ≤ c0_10) (hr0_11 : Kd.C (Kd.int .i64) w A0_11 l0_11.length l0_11) (hc0_11 : l0_11.length ≤ c0_11) (hr0_12 : Kd.C k39 w A0_12 l0_12.length l0_12) (hc0_12 : l0_12.length ≤ c0_12) (h : posthornlaw23_SeriesWider.f k a0_0 a0_1 a0_2 a0_3 a0_4 a0_5 a0_6 l0_7 l0_8 l0_9 l0_10 l0_11 l0_12 a1 a2 a3 a4 = some r) (hr_ : Aside0 (r = true) := by first | exact ⟨rfl⟩ | assumption) :
  Calls Try.prog 4 #[.agg #[.int .i64 a0_0, .int .i64 a0_1, .bool a0_2, .int .i64 a0_3, .int .i64 a0_4, .int .i64 a0_5, .int .i64 a0_6, .slice A0_7 l0_7.length c0_7, .slice A0_8 l0_8.length c0_8, .slice A0_9 l0_9.length c0_9, .slice A0_10 l0_10.length c0_10, .slice A0_11 l0_11.length c0_11, .slice A0_12 l0_12.length c0_12], .int .i64 a1, .int .i64 a2, .int .i64 a3, .int .i64 a4] w fun e w' => e = .returned (.bool r) ∧ Below w.heap.size w w' := by
 have hu29 := Try.underlying29
 have hu37 := Try.underlying37
 have HR0_7 := Aside0.mk hr0_7
 have HC0_7 := Aside0.mk hc0_7
 clear hr0_7 hc0_7
 have HR0_8 := Aside0.mk hr0_8
 have HC0_8 := Aside0.mk hc0_8
 clear hr0_8 hc0_8
 have HR0_9 := Aside0.mk hr0_9
 have HC0_9 := Aside0.mk hc0_9
 clear hr0_9 hc0_9
 have HR0_10 := Aside0.mk hr0_10
 have HC0_10 := Aside0.mk hc0_10
 clear hr0_10 hc0_10
 have HR0_11 := Aside0.mk hr0_11
 have HC0_11 := Aside0.mk hc0_11
 clear hr0_11 hc0_11
 have HR0_12 := Aside0.mk hr0_12
 have HC0_12 := Aside0.mk hc0_12
 clear hr0_12 hc0_12
 have HB := ad_ (Below.refl w.heap.size w)
 have H : ((posthornlaw23_Great.f a0_0 a0_1 a0_2 a0_3 a0_4 a0_5 a0_6 l0_7 l0_8 l0_9 l0_10 l0_11 l0_12 a2).bind fun t333 => (if t333 = true then (posthornlaw23_SeriesWider.j0 k a1 a2 a3 a4 true a0_0 a0_1 a0_2 a0_3 a0_4 a0_5 a0_6 l0_7 l0_8 l0_9 l0_10 l0_11 l0_12) else ((posthornlaw23_Great.f a0_0 a0_1 a0_2 a0_3 a0_4 a0_5 a0_6 l0_7 l0_8 l0_9 l0_10 l0_11 l0_12 a1).bind fun t334 => (if t334 = true then (posthornlaw23_SeriesWider.j0 k a1 a2 a3 a4 true a0_0 a0_1 a0_2 a0_3 a0_4 a0_5 a0_6 l0_7 l0_8 l0_9 l0_10 l0_11 l0_12) else (if a3 < 0 then (posthornlaw23_SeriesWider.j0 k a1 a2 a3 a4 true a0_0 a0_1 a0_2 a0_3 a0_4 a0_5 a0_6 l0_7 l0_8 l0_9 l0_10 l0_11 l0_12) else (if a3 > 4194304 then (posthornlaw23_SeriesWider.j0 k a1 a2 a3 a4 true a0_0 a0_1 a0_2 a0_3 a0_4 a0_5 a0_6 l0_7 l0_8 l0_9 l0_10 l0_11 l0_12) else (if a4 < 0 then (posthornlaw23_SeriesWider.j0 k a1 a2 a3 a4 true a0_0 a0_1 a0_2 a0_3 a0_4 a0_5 a0_6 l0_7 l0_8 l0_9 l0_10 l0_11 l0_12) else (if a4 > 4194304 then (posthornlaw23_SeriesWider.j0 k a1 a2 a3 a4 true a0_0 a0_1 a0_2 a0_3 a0_4 a0_5 a0_6 l0_7 l0_8 l0_9 l0_10 l0_11 l0_12) else (posthornlaw23_SeriesWider.j0 k a1 a2 a3 a4 (decide (a1 < a3)) a0_0 a0_1 a0_2 a0_3 a0_4 a0_5 a0_6 l0_7 l0_8 l0_9 l0_10 l0_11 l0_12))))))))) = some r := h
 clear h
 have HC6 := Aside0.mk H
 clear H
 go_enter Try.func4, Try.ntmps4
 go_upto_region 1 with (first | ((with_reducible refine gate_dst (N := 5) rfl ?_); refine box_event ?hg (N := 5) ?hd (cs := #[.int .i64 a0_0, .int .i64 a0_1, .bool a0_2, .int .i64 a0_3, .int .i64 a0_4, .int .i64 a0_5, .int .i64 a0_6, .slice A0_7 l0_7.length c0_7, .slice A0_8 l0_8.length c0_8, .slice A0_9 l0_9.length c0_9, .slice A0_10 l0_10.length c0_10, .slice A0_11 l0_11.length c0_11, .slice A0_12 l0_12.length c0_12]) (t := 29) ?hr ?_; (case hd => rfl); (case hg => rfl); (case hr => first | (go_simp; done) | (go_simp; rfl)); intro gb332 hg w7 hbox hb; have n0_ := ad_ (below_step bel_ hb); have n1_ := ad_ (hbox); have n2_ := ad_ ((by rw [hg]; exact (below_size bel_) : w.heap.size ≤ gb332)); have n3_ := ad_ ((by rw [hg]; exact (below_size bel_) : w.heap.size ≤ gb332)); clear HB; have HB := n0_; have BK332 := n1_; have GW332 := n2_; have GE332 := n3_; clear n0_ n1_ n2_ n3_; clear hb hbox hg))
 repeat (go_quiet (first | ((with_reducible refine gate_dst (N := 5) rfl ?_); refine box_event ?hg (N := 5) ?hd (cs := #[.int .i64 a0_0, .int .i64 a0_1, .bool a0_2, .int .i64 a0_3, .int .i64 a0_4, .int .i64 a0_5, .int .i64 a0_6, .slice A0_7 l0_7.length c0_7, .slice A0_8 l0_8.length c0_8, .slice A0_9 l0_9.length c0_9, .slice A0_10 l0_10.length c0_10, .slice A0_11 l0_11.length c0_11, .slice A0_12 l0_12.length c0_12]) (t := 29) ?hr ?_; (case hd => rfl); (case hg => rfl); (case hr => first | (go_simp; done) | (go_simp; rfl)); intro gb332 hg w7 hbox hb; have n0_ := ad_ (below_step bel_ hb); have n1_ := ad_ (hbox); have n2_ := ad_ ((by rw [hg]; exact (below_size bel_) : w.heap.size ≤ gb332)); have n3_ := ad_ ((by rw [hg]; exact (below_size bel_) : w.heap.size ≤ gb332)); clear HB; have HB := n0_; have BK332 := n1_; have GW332 := n2_; have GE332 := n3_; clear n0_ n1_ n2_ n3_; clear hb hbox hg)); go_upto_region 1 with (first | ((with_reducible refine gate_dst (N := 5) rfl ?_); refine box_event ?hg (N := 5) ?hd (cs := #[.int .i64 a0_0, .int .i64 a0_1, .bool a0_2, .int .i64 a0_3, .int .i64 a0_4, .int .i64 a0_5, .int .i64 a0_6, .slice A0_7 l0_7.length c0_7, .slice A0_8 l0_8.length c0_8, .slice A0_9 l0_9.length c0_9, .slice A0_10 l0_10.length c0_10, .slice A0_11 l0_11.length c0_11, .slice A0_12 l0_12.length c0_12]) (t := 29) ?hr ?_; (case hd => rfl); (case hg => rfl); (case hr => first | (go_simp; done) | (go_simp; rfl)); intro gb332 hg w7 hbox hb; have n0_ := ad_ (below_step bel_ hb); have n1_ := ad_ (hbox); have n2_ := ad_ ((by rw [hg]; exact (below_size bel_) : w.heap.size ≤ gb332)); have n3_ := ad_ ((by rw [hg]; exact (below_size bel_) : w.heap.size ≤ gb332)); clear HB; have HB := n0_; have BK332 := n1_; have GW332 := n2_; have GE332 := n3_; clear n0_ n1_ n2_ n3_; clear hb hbox hg)))
 (try simp only [Act.put, List.setIfInBounds_toArray, List.set_cons_zero, List.set_cons_succ])
 go_cut [46] (fun v46 wc => ∃ (kq : Nat) (x46_5 : Bool), v46 = .bool x46_5 ∧ Aside0 (posthornlaw23_SeriesWider.j0 kq a1 a2 a3 a4 x46_5 a0_0 a0_1 a0_2 a0_3 a0_4 a0_5 a0_6 l0_7 l0_8 l0_9 l0_10 l0_11 l0_12 = some r) ∧ Aside0 (kq ≤ k) ∧ Aside0 (wc.heap[gb332]? = some (.cells #[.int .i64 a0_0, .int .i64 a0_1, .bool a0_2, .int .i64 a0_3, .int .i64 a0_4, .int .i64 a0_5, .int .i64 a0_6, (.slice A0_7 l0_7.length c0_7), (.slice A0_8 l0_8.length c0_8), (.slice A0_9 l0_9.length c0_9), (.slice A0_10 l0_10.length c0_10), (.slice A0_11 l0_11.length c0_11), (.slice A0_12 l0_12.length c0_12)] 29 (0, 0))) ∧ Aside0 (Below w.heap.size w wc))
 case first =>
  as_aux_lemma =>
  have H := HC6.out
  clear HC6
  replace H := Option.bind_eq_some_iff.mp H
  obtain ⟨t333, A80, H⟩ := H
  try dsimp only at H
  have A8 := Aside0.mk A80
  clear A80
  by_cases c9 : t333 = true
  ·subst c9
   have H1 := ifp_ H
   clear H
   have H := H1
   clear H1
   have H' := Aside0.mk H
   clear H
   have hcz10_ := cells13_ BK332.out
   go_wp2_with (first | (go_at_call 7; (with_reducible refine (posthornlaw23_Great.calls a0_0 a0_1 a0_2 a0_3 a0_4 a0_5 a0_6 _ _ l0_7 _ _ l0_8 _ _ l0_9 _ _ l0_10 _ _ l0_11 _ _ l0_12 a2 true _ ?side1 ?side2 ?side3 ?side4 ?side5 ?side6 ?side7 ?side8 ?side9 ?side10 ?side11 ?side12 A8.out).mono ?_); (case side1 => exact cop_ (Kd.C_below HR0_7.out HB.out)); (case side2 => exact HC0_7.out); (case side3 => exact cop_ (Kd.C_below HR0_8.out HB.out)); (case side4 => exact HC0_8.out); (case side5 => exact cop_ (Kd.C_below HR0_9.out HB.out)); (case side6 => exact HC0_9.out); (case side7 => exact cop_ (Kd.C_below HR0_10.out HB.out)); (case side8 => exact HC0_10.out); (case side9 => exact cop_ (Kd.C_below HR0_11.out HB.out)); (case side10 => exact HC0_11.out); (case side11 => exact cop_ (Kd.C_below HR0_12.out HB.out)); (case side12 => exact HC0_12.out); rintro e w11 ⟨rfl, hb⟩; have n0_ := ad_ (blk_below (g := gb332) (o := .cells #[.int .i64 a0_0, .int .i64 a0_1, .bool a0_2, .int .i64 a0_3, .int .i64 a0_4, .int .i64 a0_5, .int .i64 a0_6, .slice A0_7 l0_7.length c0_7, .slice A0_8 l0_8.length c0_8, .slice A0_9 l0_9.length c0_9, .slice A0_10 l0_10.length c0_10, .slice A0_11 l0_11.length c0_11, .slice A0_12 l0_12.length c0_12] 29 (0, 0)) (blo_ BK332.out) hb); have n1_ := ad_ (below_step belg_ hb); clear BK332; clear HB; have BK332 := n0_; have HB := n1_; clear n0_ n1_; (try clear hb); (try clear hb2); (try clear hk); (try clear hi)))
   repeat (go_quiet (first | (go_at_call 7; (with_reducible refine (posthornlaw23_Great.calls a0_0 a0_1 a0_2 a0_3 a0_4 a0_5 a0_6 _ _ l0_7 _ _ l0_8 _ _ l0_9 _ _ l0_10 _ _ l0_11 _ _ l0_12 a2 true _ ?side1 ?side2 ?side3 ?side4 ?side5 ?side6 ?side7 ?side8 ?side9 ?side10 ?side11 ?side12 A8.out).mono ?_); (case side1 => exact cop_ (Kd.C_below HR0_7.out HB.out)); (case side2 => exact HC0_7.out); (case side3 => exact cop_ (Kd.C_below HR0_8.out HB.out)); (case side4 => exact HC0_8.out); (case side5 => exact cop_ (Kd.C_below HR0_9.out HB.out)); (case side6 => exact HC0_9.out); (case side7 => exact cop_ (Kd.C_below HR0_10.out HB.out)); (case side8 => exact HC0_10.out); (case side9 => exact cop_ (Kd.C_below HR0_11.out HB.out)); (case side10 => exact HC0_11.out); (case side11 => exact cop_ (Kd.C_below HR0_12.out HB.out)); (case side12 => exact HC0_12.out); rintro e w11 ⟨rfl, hb⟩; have n0_ := ad_ (blk_below (g := gb332) (o := .cells #[.int .i64 a0_0, .int .i64 a0_1, .bool a0_2, .int .i64 a0_3, .int .i64 a0_4, .int .i64 a0_5, .int .i64 a0_6, .slice A0_7 l0_7.length c0_7, .slice A0_8 l0_8.length c0_8, .slice A0_9 l0_9.length c0_9, .slice A0_10 l0_10.length c0_10, .slice A0_11 l0_11.length c0_11, .slice A0_12 l0_12.length c0_12] 29 (0, 0)) (blo_ BK332.out) hb); have n1_ := ad_ (below_step belg_ hb); clear BK332; clear HB; have BK332 := n0_; have HB := n1_; clear n0_ n1_; (try clear hb); (try clear hb2); (try clear hk); (try clear hi))); try go_wp2_with (first | (go_at_call 7; (with_reducible refine (posthornlaw23_Great.calls a0_0 a0_1 a0_2 a0_3 a0_4 a0_5 a0_6 _ _ l0_7 _ _ l0_8 _ _ l0_9 _ _ l0_10 _ _ l0_11 _ _ l0_12 a2 true _ ?side1 ?side2 ?side3 ?side4 ?side5 ?side6 ?side7 ?side8 ?side9 ?side10 ?side11 ?side12 A8.out).mono ?_); (case side1 => exact cop_ (Kd.C_below HR0_7.out HB.out)); (case side2 => exact HC0_7.out); (case side3 => exact cop_ (Kd.C_below HR0_8.out HB.out)); (case side4 => exact HC0_8.out); (case side5 => exact cop_ (Kd.C_below HR0_9.out HB.out)); (case side6 => exact HC0_9.out); (case side7 => exact cop_ (Kd.C_below HR0_10.out HB.out)); (case side8 => exact HC0_10.out); (case side9 => exact cop_ (Kd.C_below HR0_11.out HB.out)); (case side10 => exact HC0_11.out); (case side11 => exact cop_ (Kd.C_below HR0_12.out HB.out)); (case side12 => exact HC0_12.out); rintro e w11 ⟨rfl, hb⟩; have n0_ := ad_ (blk_below (g := gb332) (o := .cells #[.int .i64 a0_0, .int .i64 a0_1, .bool a0_2, .int .i64 a0_3, .int .i64 a0_4, .int .i64 a0_5, .int .i64 a0_6, .slice A0_7 l0_7.length c0_7, .slice A0_8 l0_8.length c0_8, .slice A0_9 l0_9.length c0_9, .slice A0_10 l0_10.length c0_10, .slice A0_11 l0_11.length c0_11, .slice A0_12 l0_12.length c0_12] 29 (0, 0)) (blo_ BK332.out) hb); have n1_ := ad_ (below_step belg_ hb); clear BK332; clear HB; have BK332 := n0_; have HB := n1_; clear n0_ n1_; (try clear hb); (try clear hb2); (try clear hk); (try clear hi))))
   go_meet
   case rel => exact ⟨_, (true), val_, H', ⟨by first | omega | exact Nat.le_refl _⟩, ⟨blo_ BK332.out⟩, ⟨belg_⟩⟩
  ·as_aux_lemma =>
   replace c9 := Bool.eq_false_iff.mpr c9
   subst c9
   have H1 := ifn_ H
   clear H
   have H := H1
   clear H1
   replace H := Option.bind_eq_some_iff.mp H
   obtain ⟨t334, A120, H⟩ := H
   try dsimp only at H
   have A12 := Aside0.mk A120
   clear A120
   by_cases c13 : t334 = true
   ·as_aux_lemma =>
    subst c13
    have H1 := ifp_ H
    clear H
    have H := H1
    clear H1
    have H' := Aside0.mk H
    clear H
    have hcz14_ := cells13_ BK332.out
    go_wp2_with (first | (go_at_call 7; (with_reducible refine (posthornlaw23_Great.calls a0_0 a0_1 a0_2 a0_3 a0_4 a0_5 a0_6 _ _ l0_7 _ _ l0_8 _ _ l0_9 _ _ l0_10 _ _ l0_11 _ _ l0_12 a2 false _ ?side1 ?side2 ?side3 ?side4 ?side5 ?side6 ?side7 ?side8 ?side9 ?side10 ?side11 ?side12 A8.out).mono ?_); (case side1 => exact cop_ (Kd.C_below HR0_7.out HB.out)); (case side2 => exact HC0_7.out); (case side3 => exact cop_ (Kd.C_below HR0_8.out HB.out)); (case side4 => exact HC0_8.out); (case side5 => exact cop_ (Kd.C_below HR0_9.out HB.out)); (case side6 => exact HC0_9.out); (case side7 => exact cop_ (Kd.C_below HR0_10.out HB.out)); (case side8 => exact HC0_10.out); (case side9 => exact cop_ (Kd.C_below HR0_11.out HB.out)); (case side10 => exact HC0_11.out); (case side11 => exact cop_ (Kd.C_below HR0_12.out HB.out)); (case side12 => exact HC0_12.out); rintro e w15 ⟨rfl, hb⟩; have n0_ := ad_ (blk_below (g := gb332) (o := .cells #[.int .i64 a0_0, .int .i64 a0_1, .bool a0_2, .int .i64 a0_3, .int .i64 a0_4, .int .i64 a0_5, .int .i64 a0_6, .slice A0_7 l0_7.length c0_7, .slice A0_8 l0_8.length c0_8, .slice A0_9 l0_9.length c0_9, .slice A0_10 l0_10.length c0_10, .slice A0_11 l0_11.length c0_11, .slice A0_12 l0_12.length c0_12] 29 (0, 0)) (blo_ BK332.out) hb); have n1_ := ad_ (below_step belg_ hb); clear BK332; clear HB; have BK332 := n0_; have HB := n1_; clear n0_ n1_; (try clear hb); (try clear hb2); (try clear hk); (try clear hi); have hcz16_ := cells13_ BK332.out) | (go_at_call 7; (with_reducible refine (posthornlaw23_Great.calls a0_0 a0_1 a0_2 a0_3 a0_4 a0_5 a0_6 _ _ l0_7 _ _ l0_8 _ _ l0_9 _ _ l0_10 _ _ l0_11 _ _ l0_12 a1 true _ ?side1 ?side2 ?side3 ?side4 ?side5 ?side6 ?side7 ?side8 ?side9 ?side10 ?side11 ?side12 A12.out).mono ?_); (case side1 => exact cop_ (Kd.C_below HR0_7.out HB.out)); (case side2 => exact HC0_7.out); (case side3 => exact cop_ (Kd.C_below HR0_8.out HB.out)); (case side4 => exact HC0_8.out); (case side5 => exact cop_ (Kd.C_below HR0_9.out HB.out)); (case side6 => exact HC0_9.out); (case side7 => exact cop_ (Kd.C_below HR0_10.out HB.out)); (case side8 => exact HC0_10.out); (case side9 => exact cop_ (Kd.C_below HR0_11.out HB.out)); (case side10 => exact HC0_11.out); (case side11 => exact cop_ (Kd.C_below HR0_12.out HB.out)); (case side12 => exact HC0_12.out); rintro e w17 ⟨rfl, hb⟩; have n0_ := ad_ (blk_below (g := gb332) (o := .cells #[.int .i64 a0_0, .int .i64 a0_1, .bool a0_2, .int .i64 a0_3, .int .i64 a0_4, .int .i64 a0_5, .int .i64 a0_6, .slice A0_7 l0_7.length c0_7, .slice A0_8 l0_8.length c0_8, .slice A0_9 l0_9.length c0_9, .slice A0_10 l0_10.length c0_10, .slice A0_11 l0_11.length c0_11, .slice A0_12 l0_12.length c0_12] 29 (0, 0)) (blo_ BK332.out) hb); have n1_ := ad_ (below_step belg_ hb); clear BK332; clear HB; have BK332 := n0_; have HB := n1_; clear n0_ n1_; (try clear hb); (try clear hb2); (try clear hk); (try clear hi)))
    repeat (go_quiet (first | (go_at_call 7; (with_reducible refine (posthornlaw23_Great.calls a0_0 a0_1 a0_2 a0_3 a0_4 a0_5 a0_6 _ _ l0_7 _ _ l0_8 _ _ l0_9 _ _ l0_10 _ _ l0_11 _ _ l0_12 a2 false _ ?side1 ?side2 ?side3 ?side4 ?side5 ?side6 ?side7 ?side8 ?side9 ?side10 ?side11 ?side12 A8.out).mono ?_); (case side1 => exact cop_ (Kd.C_below HR0_7.out HB.out)); (case side2 => exact HC0_7.out); (case side3 => exact cop_ (Kd.C_below HR0_8.out HB.out)); (case side4 => exact HC0_8.out); (case side5 => exact cop_ (Kd.C_below HR0_9.out HB.out)); (case side6 => exact HC0_9.out); (case side7 => exact cop_ (Kd.C_below HR0_10.out HB.out)); (case side8 => exact HC0_10.out); (case side9 => exact cop_ (Kd.C_below HR0_11.out HB.out)); (case side10 => exact HC0_11.out); (case side11 => exact cop_ (Kd.C_below HR0_12.out HB.out)); (case side12 => exact HC0_12.out); rintro e w15 ⟨rfl, hb⟩; have n0_ := ad_ (blk_below (g := gb332) (o := .cells #[.int .i64 a0_0, .int .i64 a0_1, .bool a0_2, .int .i64 a0_3, .int .i64 a0_4, .int .i64 a0_5, .int .i64 a0_6, .slice A0_7 l0_7.length c0_7, .slice A0_8 l0_8.length c0_8, .slice A0_9 l0_9.length c0_9, .slice A0_10 l0_10.length c0_10, .slice A0_11 l0_11.length c0_11, .slice A0_12 l0_12.length c0_12] 29 (0, 0)) (blo_ BK332.out) hb); have n1_ := ad_ (below_step belg_ hb); clear BK332; clear HB; have BK332 := n0_; have HB := n1_; clear n0_ n1_; (try clear hb); (try clear hb2); (try clear hk); (try clear hi); have hcz16_ := cells13_ BK332.out) | (go_at_call 7; (with_reducible refine (posthornlaw23_Great.calls a0_0 a0_1 a0_2 a0_3 a0_4 a0_5 a0_6 _ _ l0_7 _ _ l0_8 _ _ l0_9 _ _ l0_10 _ _ l0_11 _ _ l0_12 a1 true _ ?side1 ?side2 ?side3 ?side4 ?side5 ?side6 ?side7 ?side8 ?side9 ?side10 ?side11 ?side12 A12.out).mono ?_); (case side1 => exact cop_ (Kd.C_below HR0_7.out HB.out)); (case side2 => exact HC0_7.out); (case side3 => exact cop_ (Kd.C_below HR0_8.out HB.out)); (case side4 => exact HC0_8.out); (case side5 => exact cop_ (Kd.C_below HR0_9.out HB.out)); (case side6 => exact HC0_9.out); (case side7 => exact cop_ (Kd.C_below HR0_10.out HB.out)); (case side8 => exact HC0_10.out); (case side9 => exact cop_ (Kd.C_below HR0_11.out HB.out)); (case side10 => exact HC0_11.out); (case side11 => exact cop_ (Kd.C_below HR0_12.out HB.out)); (case side12 => exact HC0_12.out); rintro e w17 ⟨rfl, hb⟩; have n0_ := ad_ (blk_below (g := gb332) (o := .cells #[.int .i64 a0_0, .int .i64 a0_1, .bool a0_2, .int .i64 a0_3, .int .i64 a0_4, .int .i64 a0_5, .int .i64 a0_6, .slice A0_7 l0_7.length c0_7, .slice A0_8 l0_8.length c0_8, .slice A0_9 l0_9.length c0_9, .slice A0_10 l0_10.length c0_10, .slice A0_11 l0_11.length c0_11, .slice A0_12 l0_12.length c0_12] 29 (0, 0)) (blo_ BK332.out) hb); have n1_ := ad_ (below_step belg_ hb); clear BK332; clear HB; have BK332 := n0_; have HB := n1_; clear n0_ n1_; (try clear hb); (try clear hb2); (try clear hk); (try clear hi))); try go_wp2_with (first | (go_at_call 7; (with_reducible refine (posthornlaw23_Great.calls a0_0 a0_1 a0_2 a0_3 a0_4 a0_5 a0_6 _ _ l0_7 _ _ l0_8 _ _ l0_9 _ _ l0_10 _ _ l0_11 _ _ l0_12 a2 false _ ?side1 ?side2 ?side3 ?side4 ?side5 ?side6 ?side7 ?side8 ?side9 ?side10 ?side11 ?side12 A8.out).mono ?_); (case side1 => exact cop_ (Kd.C_below HR0_7.out HB.out)); (case side2 => exact HC0_7.out); (case side3 => exact cop_ (Kd.C_below HR0_8.out HB.out)); (case side4 => exact HC0_8.out); (case side5 => exact cop_ (Kd.C_below HR0_9.out HB.out)); (case side6 => exact HC0_9.out); (case side7 => exact cop_ (Kd.C_below HR0_10.out HB.out)); (case side8 => exact HC0_10.out); (case side9 => exact cop_ (Kd.C_below HR0_11.out HB.out)); (case side10 => exact HC0_11.out); (case side11 => exact cop_ (Kd.C_below HR0_12.out HB.out)); (case side12 => exact HC0_12.out); rintro e w15 ⟨rfl, hb⟩; have n0_ := ad_ (blk_below (g := gb332) (o := .cells #[.int .i64 a0_0, .int .i64 a0_1, .bool a0_2, .int .i64 a0_3, .int .i64 a0_4, .int .i64 a0_5, .int .i64 a0_6, .slice A0_7 l0_7.length c0_7, .slice A0_8 l0_8.length c0_8, .slice A0_9 l0_9.length c0_9, .slice A0_10 l0_10.length c0_10, .slice A0_11 l0_11.length c0_11, .slice A0_12 l0_12.length c0_12] 29 (0, 0)) (blo_ BK332.out) hb); have n1_ := ad_ (below_step belg_ hb); clear BK332; clear HB; have BK332 := n0_; have HB := n1_; clear n0_ n1_; (try clear hb); (try clear hb2); (try clear hk); (try clear hi); have hcz16_ := cells13_ BK332.out) | (go_at_call 7; (with_reducible refine (posthornlaw23_Great.calls a0_0 a0_1 a0_2 a0_3 a0_4 a0_5 a0_6 _ _ l0_7 _ _ l0_8 _ _ l0_9 _ _ l0_10 _ _ l0_11 _ _ l0_12 a1 true _ ?side1 ?side2 ?side3 ?side4 ?side5 ?side6 ?side7 ?side8 ?side9 ?side10 ?side11 ?side12 A12.out).mono ?_); (case side1 => exact cop_ (Kd.C_below HR0_7.out HB.out)); (case side2 => exact HC0_7.out); (case side3 => exact cop_ (Kd.C_below HR0_8.out HB.out)); (case side4 => exact HC0_8.out); (case side5 => exact cop_ (Kd.C_below HR0_9.out HB.out)); (case side6 => exact HC0_9.out); (case side7 => exact cop_ (Kd.C_below HR0_10.out HB.out)); (case side8 => exact HC0_10.out); (case side9 => exact cop_ (Kd.C_below HR0_11.out HB.out)); (case side10 => exact HC0_11.out); (case side11 => exact cop_ (Kd.C_below HR0_12.out HB.out)); (case side12 => exact HC0_12.out); rintro e w17 ⟨rfl, hb⟩; have n0_ := ad_ (blk_below (g := gb332) (o := .cells #[.int .i64 a0_0, .int .i64 a0_1, .bool a0_2, .int .i64 a0_3, .int .i64 a0_4, .int .i64 a0_5, .int .i64 a0_6, .slice A0_7 l0_7.length c0_7, .slice A0_8 l0_8.length c0_8, .slice A0_9 l0_9.length c0_9, .slice A0_10 l0_10.length c0_10, .slice A0_11 l0_11.length c0_11, .slice A0_12 l0_12.length c0_12] 29 (0, 0)) (blo_ BK332.out) hb); have n1_ := ad_ (below_step belg_ hb); clear BK332; clear HB; have BK332 := n0_; have HB := n1_; clear n0_ n1_; (try clear hb); (try clear hb2); (try clear hk); (try clear hi))))
    go_meet
    case rel => exact ⟨_, (true), val_, H', ⟨by first | omega | exact Nat.le_refl _⟩, ⟨blo_ BK332.out⟩, ⟨belg_⟩⟩
   ·as_aux_lemma =>
    replace c13 := Bool.eq_false_iff.mpr c13
    subst c13
    have H1 := ifn_ H
    clear H
    have H := H1
    clear H1
    by_cases c18 : a3 < 0
    ·as_aux_lemma =>
     rw [if_pos c18] at H
     have c18b0 : decide (a3 < 0) = true := decide_eq_true c18
     clear c18
     (first | rw [c18b0] | (simp only [i64_w, i32_w]; rw [c18b0]) | skip)
     have H' := Aside0.mk H
     clear H
     have hcz19_ := cells13_ BK332.out
     go_wp2_with (first | (go_at_call 7; (with_reducible refine (posthornlaw23_Great.calls a0_0 a0_1 a0_2 a0_3 a0_4 a0_5 a0_6 _ _ l0_7 _ _ l0_8 _ _ l0_9 _ _ l0_10 _ _ l0_11 _ _ l0_12 a2 false _ ?side1 ?side2 ?side3 ?side4 ?side5 ?side6 ?side7 ?side8 ?side9 ?side10 ?side11 ?side12 A8.out).mono ?_); (case side1 => exact cop_ (Kd.C_below HR0_7.out HB.out)); (case side2 => exact HC0_7.out); (case side3 => exact cop_ (Kd.C_below HR0_8.out HB.out)); (case side4 => exact HC0_8.out); (case side5 => exact cop_ (Kd.C_below HR0_9.out HB.out)); (case side6 => exact HC0_9.out); (case side7 => exact cop_ (Kd.C_below HR0_10.out HB.out)); (case side8 => exact HC0_10.out); (case side9 => exact cop_ (Kd.C_below HR0_11.out HB.out)); (case side10 => exact HC0_11.out); (case side11 => exact cop_ (Kd.C_below HR0_12.out HB.out)); (case side12 => exact HC0_12.out); rintro e w20 ⟨rfl, hb⟩; have n0_ := ad_ (blk_below (g := gb332) (o := .cells #[.int .i64 a0_0, .int .i64 a0_1, .bool a0_2, .int .i64 a0_3, .int .i64 a0_4, .int .i64 a0_5, .int .i64 a0_6, .slice A0_7 l0_7.length c0_7, .slice A0_8 l0_8.length c0_8, .slice A0_9 l0_9.length c0_9, .slice A0_10 l0_10.length c0_10, .slice A0_11 l0_11.length c0_11, .slice A0_12 l0_12.length c0_12] 29 (0, 0)) (blo_ BK332.out) hb); have n1_ := ad_ (below_step belg_ hb); clear BK332; clear HB; have BK332 := n0_; have HB := n1_; clear n0_ n1_; (try clear hb); (try clear hb2); (try clear hk); (try clear hi); have hcz21_ := cells13_ BK332.out) | (go_at_call 7; (with_reducible refine (posthornlaw23_Great.calls a0_0 a0_1 a0_2 a0_3 a0_4 a0_5 a0_6 _ _ l0_7 _ _ l0_8 _ _ l0_9 _ _ l0_10 _ _ l0_11 _ _ l0_12 a1 false _ ?side1 ?side2 ?side3 ?side4 ?side5 ?side6 ?side7 ?side8 ?side9 ?side10 ?side11 ?side12 A12.out).mono ?_); (case side1 => exact cop_ (Kd.C_below HR0_7.out HB.out)); (case side2 => exact HC0_7.out); (case side3 => exact cop_ (Kd.C_below HR0_8.out HB.out)); (case side4 => exact HC0_8.out); (case side5 => exact cop_ (Kd.C_below HR0_9.out HB.out)); (case side6 => exact HC0_9.out); (case side7 => exact cop_ (Kd.C_below HR0_10.out HB.out)); (case side8 => exact HC0_10.out); (case side9 => exact cop_ (Kd.C_below HR0_11.out HB.out)); (case side10 => exact HC0_11.out); (case side11 => exact cop_ (Kd.C_below HR0_12.out HB.out)); (case side12 => exact HC0_12.out); rintro e w22 ⟨rfl, hb⟩; have n0_ := ad_ (blk_below (g := gb332) (o := .cells #[.int .i64 a0_0, .int .i64 a0_1, .bool a0_2, .int .i64 a0_3, .int .i64 a0_4, .int .i64 a0_5, .int .i64 a0_6, .slice A0_7 l0_7.length c0_7, .slice A0_8 l0_8.length c0_8, .slice A0_9 l0_9.length c0_9, .slice A0_10 l0_10.length c0_10, .slice A0_11 l0_11.length c0_11, .slice A0_12 l0_12.length c0_12] 29 (0, 0)) (blo_ BK332.out) hb); have n1_ := ad_ (below_step belg_ hb); clear BK332; clear HB; have BK332 := n0_; have HB := n1_; clear n0_ n1_; (try clear hb); (try clear hb2); (try clear hk); (try clear hi)))
     repeat (go_quiet (first | (go_at_call 7; (with_reducible refine (posthornlaw23_Great.calls a0_0 a0_1 a0_2 a0_3 a0_4 a0_5 a0_6 _ _ l0_7 _ _ l0_8 _ _ l0_9 _ _ l0_10 _ _ l0_11 _ _ l0_12 a2 false _ ?side1 ?side2 ?side3 ?side4 ?side5 ?side6 ?side7 ?side8 ?side9 ?side10 ?side11 ?side12 A8.out).mono ?_); (case side1 => exact cop_ (Kd.C_below HR0_7.out HB.out)); (case side2 => exact HC0_7.out); (case side3 => exact cop_ (Kd.C_below HR0_8.out HB.out)); (case side4 => exact HC0_8.out); (case side5 => exact cop_ (Kd.C_below HR0_9.out HB.out)); (case side6 => exact HC0_9.out); (case side7 => exact cop_ (Kd.C_below HR0_10.out HB.out)); (case side8 => exact HC0_10.out); (case side9 => exact cop_ (Kd.C_below HR0_11.out HB.out)); (case side10 => exact HC0_11.out); (case side11 => exact cop_ (Kd.C_below HR0_12.out HB.out)); (case side12 => exact HC0_12.out); rintro e w20 ⟨rfl, hb⟩; have n0_ := ad_ (blk_below (g := gb332) (o := .cells #[.int .i64 a0_0, .int .i64 a0_1, .bool a0_2, .int .i64 a0_3, .int .i64 a0_4, .int .i64 a0_5, .int .i64 a0_6, .slice A0_7 l0_7.length c0_7, .slice A0_8 l0_8.length c0_8, .slice A0_9 l0_9.length c0_9, .slice A0_10 l0_10.length c0_10, .slice A0_11 l0_11.length c0_11, .slice A0_12 l0_12.length c0_12] 29 (0, 0)) (blo_ BK332.out) hb); have n1_ := ad_ (below_step belg_ hb); clear BK332; clear HB; have BK332 := n0_; have HB := n1_; clear n0_ n1_; (try clear hb); (try clear hb2); (try clear hk); (try clear hi); have hcz21_ := cells13_ BK332.out) | (go_at_call 7; (with_reducible refine (posthornlaw23_Great.calls a0_0 a0_1 a0_2 a0_3 a0_4 a0_5 a0_6 _ _ l0_7 _ _ l0_8 _ _ l0_9 _ _ l0_10 _ _ l0_11 _ _ l0_12 a1 false _ ?side1 ?side2 ?side3 ?side4 ?side5 ?side6 ?side7 ?side8 ?side9 ?side10 ?side11 ?side12 A12.out).mono ?_); (case side1 => exact cop_ (Kd.C_below HR0_7.out HB.out)); (case side2 => exact HC0_7.out); (case side3 => exact cop_ (Kd.C_below HR0_8.out HB.out)); (case side4 => exact HC0_8.out); (case side5 => exact cop_ (Kd.C_below HR0_9.out HB.out)); (case side6 => exact HC0_9.out); (case side7 => exact cop_ (Kd.C_below HR0_10.out HB.out)); (case side8 => exact HC0_10.out); (case side9 => exact cop_ (Kd.C_below HR0_11.out HB.out)); (case side10 => exact HC0_11.out); (case side11 => exact cop_ (Kd.C_below HR0_12.out HB.out)); (case side12 => exact HC0_12.out); rintro e w22 ⟨rfl, hb⟩; have n0_ := ad_ (blk_below (g := gb332) (o := .cells #[.int .i64 a0_0, .int .i64 a0_1, .bool a0_2, .int .i64 a0_3, .int .i64 a0_4, .int .i64 a0_5, .int .i64 a0_6, .slice A0_7 l0_7.length c0_7, .slice A0_8 l0_8.length c0_8, .slice A0_9 l0_9.length c0_9, .slice A0_10 l0_10.length c0_10, .slice A0_11 l0_11.length c0_11, .slice A0_12 l0_12.length c0_12] 29 (0, 0)) (blo_ BK332.out) hb); have n1_ := ad_ (below_step belg_ hb); clear BK332; clear HB; have BK332 := n0_; have HB := n1_; clear n0_ n1_; (try clear hb); (try clear hb2); (try clear hk); (try clear hi))); try go_wp2_with (first | (go_at_call 7; (with_reducible refine (posthornlaw23_Great.calls a0_0 a0_1 a0_2 a0_3 a0_4 a0_5 a0_6 _ _ l0_7 _ _ l0_8 _ _ l0_9 _ _ l0_10 _ _ l0_11 _ _ l0_12 a2 false _ ?side1 ?side2 ?side3 ?side4 ?side5 ?side6 ?side7 ?side8 ?side9 ?side10 ?side11 ?side12 A8.out).mono ?_); (case side1 => exact cop_ (Kd.C_below HR0_7.out HB.out)); (case side2 => exact HC0_7.out); (case side3 => exact cop_ (Kd.C_below HR0_8.out HB.out)); (case side4 => exact HC0_8.out); (case side5 => exact cop_ (Kd.C_below HR0_9.out HB.out)); (case side6 => exact HC0_9.out); (case side7 => exact cop_ (Kd.C_below HR0_10.out HB.out)); (case side8 => exact HC0_10.out); (case side9 => exact cop_ (Kd.C_below HR0_11.out HB.out)); (case side10 => exact HC0_11.out); (case side11 => exact cop_ (Kd.C_below HR0_12.out HB.out)); (case side12 => exact HC0_12.out); rintro e w20 ⟨rfl, hb⟩; have n0_ := ad_ (blk_below (g := gb332) (o := .cells #[.int .i64 a0_0, .int .i64 a0_1, .bool a0_2, .int .i64 a0_3, .int .i64 a0_4, .int .i64 a0_5, .int .i64 a0_6, .slice A0_7 l0_7.length c0_7, .slice A0_8 l0_8.length c0_8, .slice A0_9 l0_9.length c0_9, .slice A0_10 l0_10.length c0_10, .slice A0_11 l0_11.length c0_11, .slice A0_12 l0_12.length c0_12] 29 (0, 0)) (blo_ BK332.out) hb); have n1_ := ad_ (below_step belg_ hb); clear BK332; clear HB; have BK332 := n0_; have HB := n1_; clear n0_ n1_; (try clear hb); (try clear hb2); (try clear hk); (try clear hi); have hcz21_ := cells13_ BK332.out) | (go_at_call 7; (with_reducible refine (posthornlaw23_Great.calls a0_0 a0_1 a0_2 a0_3 a0_4 a0_5 a0_6 _ _ l0_7 _ _ l0_8 _ _ l0_9 _ _ l0_10 _ _ l0_11 _ _ l0_12 a1 false _ ?side1 ?side2 ?side3 ?side4 ?side5 ?side6 ?side7 ?side8 ?side9 ?side10 ?side11 ?side12 A12.out).mono ?_); (case side1 => exact cop_ (Kd.C_below HR0_7.out HB.out)); (case side2 => exact HC0_7.out); (case side3 => exact cop_ (Kd.C_below HR0_8.out HB.out)); (case side4 => exact HC0_8.out); (case side5 => exact cop_ (Kd.C_below HR0_9.out HB.out)); (case side6 => exact HC0_9.out); (case side7 => exact cop_ (Kd.C_below HR0_10.out HB.out)); (case side8 => exact HC0_10.out); (case side9 => exact cop_ (Kd.C_below HR0_11.out HB.out)); (case side10 => exact HC0_11.out); (case side11 => exact cop_ (Kd.C_below HR0_12.out HB.out)); (case side12 => exact HC0_12.out); rintro e w22 ⟨rfl, hb⟩; have n0_ := ad_ (blk_below (g := gb332) (o := .cells #[.int .i64 a0_0, .int .i64 a0_1, .bool a0_2, .int .i64 a0_3, .int .i64 a0_4, .int .i64 a0_5, .int .i64 a0_6, .slice A0_7 l0_7.length c0_7, .slice A0_8 l0_8.length c0_8, .slice A0_9 l0_9.length c0_9, .slice A0_10 l0_10.length c0_10, .slice A0_11 l0_11.length c0_11, .slice A0_12 l0_12.length c0_12] 29 (0, 0)) (blo_ BK332.out) hb); have n1_ := ad_ (below_step belg_ hb); clear BK332; clear HB; have BK332 := n0_; have HB := n1_; clear n0_ n1_; (try clear hb); (try clear hb2); (try clear hk); (try clear hi))))
     go_meet
     case rel => exact ⟨_, (true), val_, H', ⟨by first | omega | exact Nat.le_refl _⟩, ⟨blo_ BK332.out⟩, ⟨belg_⟩⟩
    ·as_aux_lemma =>
     rw [if_neg c18] at H
     have c18b0 : decide (a3 < 0) = false := decide_eq_false c18
     clear c18
     (first | rw [c18b0] | (simp only [i64_w, i32_w]; rw [c18b0]) | skip)
     by_cases c23 : a3 > 4194304
     ·as_aux_lemma =>
      rw [if_pos c23] at H
      have c23b0 : decide (4194304 < a3) = true := decide_eq_true c23
      clear c23
      have H' := Aside0.mk H
      clear H
      have hcz24_ := cells13_ BK332.out
      go_wp2_with (first | (go_at_call 7; (with_reducible refine (posthornlaw23_Great.calls a0_0 a0_1 a0_2 a0_3 a0_4 a0_5 a0_6 _ _ l0_7 _ _ l0_8 _ _ l0_9 _ _ l0_10 _ _ l0_11 _ _ l0_12 a2 false _ ?side1 ?side2 ?side3 ?side4 ?side5 ?side6 ?side7 ?side8 ?side9 ?side10 ?side11 ?side12 A8.out).mono ?_); (case side1 => exact cop_ (Kd.C_below HR0_7.out HB.out)); (case side2 => exact HC0_7.out); (case side3 => exact cop_ (Kd.C_below HR0_8.out HB.out)); (case side4 => exact HC0_8.out); (case side5 => exact cop_ (Kd.C_below HR0_9.out HB.out)); (case side6 => exact HC0_9.out); (case side7 => exact cop_ (Kd.C_below HR0_10.out HB.out)); (case side8 => exact HC0_10.out); (case side9 => exact cop_ (Kd.C_below HR0_11.out HB.out)); (case side10 => exact HC0_11.out); (case side11 => exact cop_ (Kd.C_below HR0_12.out HB.out)); (case side12 => exact HC0_12.out); rintro e w25 ⟨rfl, hb⟩; have n0_ := ad_ (blk_below (g := gb332) (o := .cells #[.int .i64 a0_0, .int .i64 a0_1, .bool a0_2, .int .i64 a0_3, .int .i64 a0_4, .int .i64 a0_5, .int .i64 a0_6, .slice A0_7 l0_7.length c0_7, .slice A0_8 l0_8.length c0_8, .slice A0_9 l0_9.length c0_9, .slice A0_10 l0_10.length c0_10, .slice A0_11 l0_11.length c0_11, .slice A0_12 l0_12.length c0_12] 29 (0, 0)) (blo_ BK332.out) hb); have n1_ := ad_ (below_step belg_ hb); clear BK332; clear HB; have BK332 := n0_; have HB := n1_; clear n0_ n1_; (try clear hb); (try clear hb2); (try clear hk); (try clear hi); have hcz26_ := cells13_ BK332.out) | (go_at_call 7; (with_reducible refine (posthornlaw23_Great.calls a0_0 a0_1 a0_2 a0_3 a0_4 a0_5 a0_6 _ _ l0_7 _ _ l0_8 _ _ l0_9 _ _ l0_10 _ _ l0_11 _ _ l0_12 a1 false _ ?side1 ?side2 ?side3 ?side4 ?side5 ?side6 ?side7 ?side8 ?side9 ?side10 ?side11 ?side12 A12.out).mono ?_); (case side1 => exact cop_ (Kd.C_below HR0_7.out HB.out)); (case side2 => exact HC0_7.out); (case side3 => exact cop_ (Kd.C_below HR0_8.out HB.out)); (case side4 => exact HC0_8.out); (case side5 => exact cop_ (Kd.C_below HR0_9.out HB.out)); (case side6 => exact HC0_9.out); (case side7 => exact cop_ (Kd.C_below HR0_10.out HB.out)); (case side8 => exact HC0_10.out); (case side9 => exact cop_ (Kd.C_below HR0_11.out HB.out)); (case side10 => exact HC0_11.out); (case side11 => exact cop_ (Kd.C_below HR0_12.out HB.out)); (case side12 => exact HC0_12.out); rintro e w27 ⟨rfl, hb⟩; have n0_ := ad_ (blk_below (g := gb332) (o := .cells #[.int .i64 a0_0, .int .i64 a0_1, .bool a0_2, .int .i64 a0_3, .int .i64 a0_4, .int .i64 a0_5, .int .i64 a0_6, .slice A0_7 l0_7.length c0_7, .slice A0_8 l0_8.length c0_8, .slice A0_9 l0_9.length c0_9, .slice A0_10 l0_10.length c0_10, .slice A0_11 l0_11.length c0_11, .slice A0_12 l0_12.length c0_12] 29 (0, 0)) (blo_ BK332.out) hb); have n1_ := ad_ (below_step belg_ hb); clear BK332; clear HB; have BK332 := n0_; have HB := n1_; clear n0_ n1_; (try clear hb); (try clear hb2); (try clear hk); (try clear hi)))
      repeat (go_quiet (first | (go_at_call 7; (with_reducible refine (posthornlaw23_Great.calls a0_0 a0_1 a0_2 a0_3 a0_4 a0_5 a0_6 _ _ l0_7 _ _ l0_8 _ _ l0_9 _ _ l0_10 _ _ l0_11 _ _ l0_12 a2 false _ ?side1 ?side2 ?side3 ?side4 ?side5 ?side6 ?side7 ?side8 ?side9 ?side10 ?side11 ?side12 A8.out).mono ?_); (case side1 => exact cop_ (Kd.C_below HR0_7.out HB.out)); (case side2 => exact HC0_7.out); (case side3 => exact cop_ (Kd.C_below HR0_8.out HB.out)); (case side4 => exact HC0_8.out); (case side5 => exact cop_ (Kd.C_below HR0_9.out HB.out)); (case side6 => exact HC0_9.out); (case side7 => exact cop_ (Kd.C_below HR0_10.out HB.out)); (case side8 => exact HC0_10.out); (case side9 => exact cop_ (Kd.C_below HR0_11.out HB.out)); (case side10 => exact HC0_11.out); (case side11 => exact cop_ (Kd.C_below HR0_12.out HB.out)); (case side12 => exact HC0_12.out); rintro e w25 ⟨rfl, hb⟩; have n0_ := ad_ (blk_below (g := gb332) (o := .cells #[.int .i64 a0_0, .int .i64 a0_1, .bool a0_2, .int .i64 a0_3, .int .i64 a0_4, .int .i64 a0_5, .int .i64 a0_6, .slice A0_7 l0_7.length c0_7, .slice A0_8 l0_8.length c0_8, .slice A0_9 l0_9.length c0_9, .slice A0_10 l0_10.length c0_10, .slice A0_11 l0_11.length c0_11, .slice A0_12 l0_12.length c0_12] 29 (0, 0)) (blo_ BK332.out) hb); have n1_ := ad_ (below_step belg_ hb); clear BK332; clear HB; have BK332 := n0_; have HB := n1_; clear n0_ n1_; (try clear hb); (try clear hb2); (try clear hk); (try clear hi); have hcz26_ := cells13_ BK332.out) | (go_at_call 7; (with_reducible refine (posthornlaw23_Great.calls a0_0 a0_1 a0_2 a0_3 a0_4 a0_5 a0_6 _ _ l0_7 _ _ l0_8 _ _ l0_9 _ _ l0_10 _ _ l0_11 _ _ l0_12 a1 false _ ?side1 ?side2 ?side3 ?side4 ?side5 ?side6 ?side7 ?side8 ?side9 ?side10 ?side11 ?side12 A12.out).mono ?_); (case side1 => exact cop_ (Kd.C_below HR0_7.out HB.out)); (case side2 => exact HC0_7.out); (case side3 => exact cop_ (Kd.C_below HR0_8.out HB.out)); (case side4 => exact HC0_8.out); (case side5 => exact cop_ (Kd.C_below HR0_9.out HB.out)); (case side6 => exact HC0_9.out); (case side7 => exact cop_ (Kd.C_below HR0_10.out HB.out)); (case side8 => exact HC0_10.out); (case side9 => exact cop_ (Kd.C_below HR0_11.out HB.out)); (case side10 => exact HC0_11.out); (case side11 => exact cop_ (Kd.C_below HR0_12.out HB.out)); (case side12 => exact HC0_12.out); rintro e w27 ⟨rfl, hb⟩; have n0_ := ad_ (blk_below (g := gb332) (o := .cells #[.int .i64 a0_0, .int .i64 a0_1, .bool a0_2, .int .i64 a0_3, .int .i64 a0_4, .int .i64 a0_5, .int .i64 a0_6, .slice A0_7 l0_7.length c0_7, .slice A0_8 l0_8.length c0_8, .slice A0_9 l0_9.length c0_9, .slice A0_10 l0_10.length c0_10, .slice A0_11 l0_11.length c0_11, .slice A0_12 l0_12.length c0_12] 29 (0, 0)) (blo_ BK332.out) hb); have n1_ := ad_ (below_step belg_ hb); clear BK332; clear HB; have BK332 := n0_; have HB := n1_; clear n0_ n1_; (try clear hb); (try clear hb2); (try clear hk); (try clear hi))); try go_wp2_with (first | (go_at_call 7; (with_reducible refine (posthornlaw23_Great.calls a0_0 a0_1 a0_2 a0_3 a0_4 a0_5 a0_6 _ _ l0_7 _ _ l0_8 _ _ l0_9 _ _ l0_10 _ _ l0_11 _ _ l0_12 a2 false _ ?side1 ?side2 ?side3 ?side4 ?side5 ?side6 ?side7 ?side8 ?side9 ?side10 ?side11 ?side12 A8.out).mono ?_); (case side1 => exact cop_ (Kd.C_below HR0_7.out HB.out)); (case side2 => exact HC0_7.out); (case side3 => exact cop_ (Kd.C_below HR0_8.out HB.out)); (case side4 => exact HC0_8.out); (case side5 => exact cop_ (Kd.C_below HR0_9.out HB.out)); (case side6 => exact HC0_9.out); (case side7 => exact cop_ (Kd.C_below HR0_10.out HB.out)); (case side8 => exact HC0_10.out); (case side9 => exact cop_ (Kd.C_below HR0_11.out HB.out)); (case side10 => exact HC0_11.out); (case side11 => exact cop_ (Kd.C_below HR0_12.out HB.out)); (case side12 => exact HC0_12.out); rintro e w25 ⟨rfl, hb⟩; have n0_ := ad_ (blk_below (g := gb332) (o := .cells #[.int .i64 a0_0, .int .i64 a0_1, .bool a0_2, .int .i64 a0_3, .int .i64 a0_4, .int .i64 a0_5, .int .i64 a0_6, .slice A0_7 l0_7.length c0_7, .slice A0_8 l0_8.length c0_8, .slice A0_9 l0_9.length c0_9, .slice A0_10 l0_10.length c0_10, .slice A0_11 l0_11.length c0_11, .slice A0_12 l0_12.length c0_12] 29 (0, 0)) (blo_ BK332.out) hb); have n1_ := ad_ (below_step belg_ hb); clear BK332; clear HB; have BK332 := n0_; have HB := n1_; clear n0_ n1_; (try clear hb); (try clear hb2); (try clear hk); (try clear hi); have hcz26_ := cells13_ BK332.out) | (go_at_call 7; (with_reducible refine (posthornlaw23_Great.calls a0_0 a0_1 a0_2 a0_3 a0_4 a0_5 a0_6 _ _ l0_7 _ _ l0_8 _ _ l0_9 _ _ l0_10 _ _ l0_11 _ _ l0_12 a1 false _ ?side1 ?side2 ?side3 ?side4 ?side5 ?side6 ?side7 ?side8 ?side9 ?side10 ?side11 ?side12 A12.out).mono ?_); (case side1 => exact cop_ (Kd.C_below HR0_7.out HB.out)); (case side2 => exact HC0_7.out); (case side3 => exact cop_ (Kd.C_below HR0_8.out HB.out)); (case side4 => exact HC0_8.out); (case side5 => exact cop_ (Kd.C_below HR0_9.out HB.out)); (case side6 => exact HC0_9.out); (case side7 => exact cop_ (Kd.C_below HR0_10.out HB.out)); (case side8 => exact HC0_10.out); (case side9 => exact cop_ (Kd.C_below HR0_11.out HB.out)); (case side10 => exact HC0_11.out); (case side11 => exact cop_ (Kd.C_below HR0_12.out HB.out)); (case side12 => exact HC0_12.out); rintro e w27 ⟨rfl, hb⟩; have n0_ := ad_ (blk_below (g := gb332) (o := .cells #[.int .i64 a0_0, .int .i64 a0_1, .bool a0_2, .int .i64 a0_3, .int .i64 a0_4, .int .i64 a0_5, .int .i64 a0_6, .slice A0_7 l0_7.length c0_7, .slice A0_8 l0_8.length c0_8, .slice A0_9 l0_9.length c0_9, .slice A0_10 l0_10.length c0_10, .slice A0_11 l0_11.length c0_11, .slice A0_12 l0_12.length c0_12] 29 (0, 0)) (blo_ BK332.out) hb); have n1_ := ad_ (below_step belg_ hb); clear BK332; clear HB; have BK332 := n0_; have HB := n1_; clear n0_ n1_; (try clear hb); (try clear hb2); (try clear hk); (try clear hi))))
      go_meet
      case rel => exact ⟨_, (true), val_, H', ⟨by first | omega | exact Nat.le_refl _⟩, ⟨blo_ BK332.out⟩, ⟨belg_⟩⟩
     ·as_aux_lemma =>
      rw [if_neg c23] at H
      have c23b0 : decide (4194304 < a3) = false := decide_eq_false c23
      clear c23
      by_cases c28 : a4 < 0
      ·as_aux_lemma =>
       rw [if_pos c28] at H
       have c28b0 : decide (a4 < 0) = true := decide_eq_true c28
       clear c28
       have H' := Aside0.mk H
       clear H
       have hcz29_ := cells13_ BK332.out
       go_wp2_with (first | (go_at_call 7; (with_reducible refine (posthornlaw23_Great.calls a0_0 a0_1 a0_2 a0_3 a0_4 a0_5 a0_6 _ _ l0_7 _ _ l0_8 _ _ l0_9 _ _ l0_10 _ _ l0_11 _ _ l0_12 a2 false _ ?side1 ?side2 ?side3 ?side4 ?side5 ?side6 ?side7 ?side8 ?side9 ?side10 ?side11 ?side12 A8.out).mono ?_); (case side1 => exact cop_ (Kd.C_below HR0_7.out HB.out)); (case side2 => exact HC0_7.out); (case side3 => exact cop_ (Kd.C_below HR0_8.out HB.out)); (case side4 => exact HC0_8.out); (case side5 => exact cop_ (Kd.C_below HR0_9.out HB.out)); (case side6 => exact HC0_9.out); (case side7 => exact cop_ (Kd.C_below HR0_10.out HB.out)); (case side8 => exact HC0_10.out); (case side9 => exact cop_ (Kd.C_below HR0_11.out HB.out)); (case side10 => exact HC0_11.out); (case side11 => exact cop_ (Kd.C_below HR0_12.out HB.out)); (case side12 => exact HC0_12.out); rintro e w30 ⟨rfl, hb⟩; have n0_ := ad_ (blk_below (g := gb332) (o := .cells #[.int .i64 a0_0, .int .i64 a0_1, .bool a0_2, .int .i64 a0_3, .int .i64 a0_4, .int .i64 a0_5, .int .i64 a0_6, .slice A0_7 l0_7.length c0_7, .slice A0_8 l0_8.length c0_8, .slice A0_9 l0_9.length c0_9, .slice A0_10 l0_10.length c0_10, .slice A0_11 l0_11.length c0_11, .slice A0_12 l0_12.length c0_12] 29 (0, 0)) (blo_ BK332.out) hb); have n1_ := ad_ (below_step belg_ hb); clear BK332; clear HB; have BK332 := n0_; have HB := n1_; clear n0_ n1_; (try clear hb); (try clear hb2); (try clear hk); (try clear hi); have hcz31_ := cells13_ BK332.out) | (go_at_call 7; (with_reducible refine (posthornlaw23_Great.calls a0_0 a0_1 a0_2 a0_3 a0_4 a0_5 a0_6 _ _ l0_7 _ _ l0_8 _ _ l0_9 _ _ l0_10 _ _ l0_11 _ _ l0_12 a1 false _ ?side1 ?side2 ?side3 ?side4 ?side5 ?side6 ?side7 ?side8 ?side9 ?side10 ?side11 ?side12 A12.out).mono ?_); (case side1 => exact cop_ (Kd.C_below HR0_7.out HB.out)); (case side2 => exact HC0_7.out); (case side3 => exact cop_ (Kd.C_below HR0_8.out HB.out)); (case side4 => exact HC0_8.out); (case side5 => exact cop_ (Kd.C_below HR0_9.out HB.out)); (case side6 => exact HC0_9.out); (case side7 => exact cop_ (Kd.C_below HR0_10.out HB.out)); (case side8 => exact HC0_10.out); (case side9 => exact cop_ (Kd.C_below HR0_11.out HB.out)); (case side10 => exact HC0_11.out); (case side11 => exact cop_ (Kd.C_below HR0_12.out HB.out)); (case side12 => exact HC0_12.out); rintro e w32 ⟨rfl, hb⟩; have n0_ := ad_ (blk_below (g := gb332) (o := .cells #[.int .i64 a0_0, .int .i64 a0_1, .bool a0_2, .int .i64 a0_3, .int .i64 a0_4, .int .i64 a0_5, .int .i64 a0_6, .slice A0_7 l0_7.length c0_7, .slice A0_8 l0_8.length c0_8, .slice A0_9 l0_9.length c0_9, .slice A0_10 l0_10.length c0_10, .slice A0_11 l0_11.length c0_11, .slice A0_12 l0_12.length c0_12] 29 (0, 0)) (blo_ BK332.out) hb); have n1_ := ad_ (below_step belg_ hb); clear BK332; clear HB; have BK332 := n0_; have HB := n1_; clear n0_ n1_; (try clear hb); (try clear hb2); (try clear hk); (try clear hi)))
       repeat (go_quiet (first | (go_at_call 7; (with_reducible refine (posthornlaw23_Great.calls a0_0 a0_1 a0_2 a0_3 a0_4 a0_5 a0_6 _ _ l0_7 _ _ l0_8 _ _ l0_9 _ _ l0_10 _ _ l0_11 _ _ l0_12 a2 false _ ?side1 ?side2 ?side3 ?side4 ?side5 ?side6 ?side7 ?side8 ?side9 ?side10 ?side11 ?side12 A8.out).mono ?_); (case side1 => exact cop_ (Kd.C_below HR0_7.out HB.out)); (case side2 => exact HC0_7.out); (case side3 => exact cop_ (Kd.C_below HR0_8.out HB.out)); (case side4 => exact HC0_8.out); (case side5 => exact cop_ (Kd.C_below HR0_9.out HB.out)); (case side6 => exact HC0_9.out); (case side7 => exact cop_ (Kd.C_below HR0_10.out HB.out)); (case side8 => exact HC0_10.out); (case side9 => exact cop_ (Kd.C_below HR0_11.out HB.out)); (case side10 => exact HC0_11.out); (case side11 => exact cop_ (Kd.C_below HR0_12.out HB.out)); (case side12 => exact HC0_12.out); rintro e w30 ⟨rfl, hb⟩; have n0_ := ad_ (blk_below (g := gb332) (o := .cells #[.int .i64 a0_0, .int .i64 a0_1, .bool a0_2, .int .i64 a0_3, .int .i64 a0_4, .int .i64 a0_5, .int .i64 a0_6, .slice A0_7 l0_7.length c0_7, .slice A0_8 l0_8.length c0_8, .slice A0_9 l0_9.length c0_9, .slice A0_10 l0_10.length c0_10, .slice A0_11 l0_11.length c0_11, .slice A0_12 l0_12.length c0_12] 29 (0, 0)) (blo_ BK332.out) hb); have n1_ := ad_ (below_step belg_ hb); clear BK332; clear HB; have BK332 := n0_; have HB := n1_; clear n0_ n1_; (try clear hb); (try clear hb2); (try clear hk); (try clear hi); have hcz31_ := cells13_ BK332.out) | (go_at_call 7; (with_reducible refine (posthornlaw23_Great.calls a0_0 a0_1 a0_2 a0_3 a0_4 a0_5 a0_6 _ _ l0_7 _ _ l0_8 _ _ l0_9 _ _ l0_10 _ _ l0_11 _ _ l0_12 a1 false _ ?side1 ?side2 ?side3 ?side4 ?side5 ?side6 ?side7 ?side8 ?side9 ?side10 ?side11 ?side12 A12.out).mono ?_); (case side1 => exact cop_ (Kd.C_below HR0_7.out HB.out)); (case side2 => exact HC0_7.out); (case side3 => exact cop_ (Kd.C_below HR0_8.out HB.out)); (case side4 => exact HC0_8.out); (case side5 => exact cop_ (Kd.C_below HR0_9.out HB.out)); (case side6 => exact HC0_9.out); (case side7 => exact cop_ (Kd.C_below HR0_10.out HB.out)); (case side8 => exact HC0_10.out); (case side9 => exact cop_ (Kd.C_below HR0_11.out HB.out)); (case side10 => exact HC0_11.out); (case side11 => exact cop_ (Kd.C_below HR0_12.out HB.out)); (case side12 => exact HC0_12.out); rintro e w32 ⟨rfl, hb⟩; have n0_ := ad_ (blk_below (g := gb332) (o := .cells #[.int .i64 a0_0, .int .i64 a0_1, .bool a0_2, .int .i64 a0_3, .int .i64 a0_4, .int .i64 a0_5, .int .i64 a0_6, .slice A0_7 l0_7.length c0_7, .slice A0_8 l0_8.length c0_8, .slice A0_9 l0_9.length c0_9, .slice A0_10 l0_10.length c0_10, .slice A0_11 l0_11.length c0_11, .slice A0_12 l0_12.length c0_12] 29 (0, 0)) (blo_ BK332.out) hb); have n1_ := ad_ (below_step belg_ hb); clear BK332; clear HB; have BK332 := n0_; have HB := n1_; clear n0_ n1_; (try clear hb); (try clear hb2); (try clear hk); (try clear hi))); try go_wp2_with (first | (go_at_call 7; (with_reducible refine (posthornlaw23_Great.calls a0_0 a0_1 a0_2 a0_3 a0_4 a0_5 a0_6 _ _ l0_7 _ _ l0_8 _ _ l0_9 _ _ l0_10 _ _ l0_11 _ _ l0_12 a2 false _ ?side1 ?side2 ?side3 ?side4 ?side5 ?side6 ?side7 ?side8 ?side9 ?side10 ?side11 ?side12 A8.out).mono ?_); (case side1 => exact cop_ (Kd.C_below HR0_7.out HB.out)); (case side2 => exact HC0_7.out); (case side3 => exact cop_ (Kd.C_below HR0_8.out HB.out)); (case side4 => exact HC0_8.out); (case side5 => exact cop_ (Kd.C_below HR0_9.out HB.out)); (case side6 => exact HC0_9.out); (case side7 => exact cop_ (Kd.C_below HR0_10.out HB.out)); (case side8 => exact HC0_10.out); (case side9 => exact cop_ (Kd.C_below HR0_11.out HB.out)); (case side10 => exact HC0_11.out); (case side11 => exact cop_ (Kd.C_below HR0_12.out HB.out)); (case side12 => exact HC0_12.out); rintro e w30 ⟨rfl, hb⟩; have n0_ := ad_ (blk_below (g := gb332) (o := .cells #[.int .i64 a0_0, .int .i64 a0_1, .bool a0_2, .int .i64 a0_3, .int .i64 a0_4, .int .i64 a0_5, .int .i64 a0_6, .slice A0_7 l0_7.length c0_7, .slice A0_8 l0_8.length c0_8, .slice A0_9 l0_9.length c0_9, .slice A0_10 l0_10.length c0_10, .slice A0_11 l0_11.length c0_11, .slice A0_12 l0_12.length c0_12] 29 (0, 0)) (blo_ BK332.out) hb); have n1_ := ad_ (below_step belg_ hb); clear BK332; clear HB; have BK332 := n0_; have HB := n1_; clear n0_ n1_; (try clear hb); (try clear hb2); (try clear hk); (try clear hi); have hcz31_ := cells13_ BK332.out) | (go_at_call 7; (with_reducible refine (posthornlaw23_Great.calls a0_0 a0_1 a0_2 a0_3 a0_4 a0_5 a0_6 _ _ l0_7 _ _ l0_8 _ _ l0_9 _ _ l0_10 _ _ l0_11 _ _ l0_12 a1 false _ ?side1 ?side2 ?side3 ?side4 ?side5 ?side6 ?side7 ?side8 ?side9 ?side10 ?side11 ?side12 A12.out).mono ?_); (case side1 => exact cop_ (Kd.C_below HR0_7.out HB.out)); (case side2 => exact HC0_7.out); (case side3 => exact cop_ (Kd.C_below HR0_8.out HB.out)); (case side4 => exact HC0_8.out); (case side5 => exact cop_ (Kd.C_below HR0_9.out HB.out)); (case side6 => exact HC0_9.out); (case side7 => exact cop_ (Kd.C_below HR0_10.out HB.out)); (case side8 => exact HC0_10.out); (case side9 => exact cop_ (Kd.C_below HR0_11.out HB.out)); (case side10 => exact HC0_11.out); (case side11 => exact cop_ (Kd.C_below HR0_12.out HB.out)); (case side12 => exact HC0_12.out); rintro e w32 ⟨rfl, hb⟩; have n0_ := ad_ (blk_below (g := gb332) (o := .cells #[.int .i64 a0_0, .int .i64 a0_1, .bool a0_2, .int .i64 a0_3, .int .i64 a0_4, .int .i64 a0_5, .int .i64 a0_6, .slice A0_7 l0_7.length c0_7, .slice A0_8 l0_8.length c0_8, .slice A0_9 l0_9.length c0_9, .slice A0_10 l0_10.length c0_10, .slice A0_11 l0_11.length c0_11, .slice A0_12 l0_12.length c0_12] 29 (0, 0)) (blo_ BK332.out) hb); have n1_ := ad_ (below_step belg_ hb); clear BK332; clear HB; have BK332 := n0_; have HB := n1_; clear n0_ n1_; (try clear hb); (try clear hb2); (try clear hk); (try clear hi))))
       go_meet
       case rel => exact ⟨_, (true), val_, H', ⟨by first | omega | exact Nat.le_refl _⟩, ⟨blo_ BK332.out⟩, ⟨belg_⟩⟩
      ·as_aux_lemma =>
       rw [if_neg c28] at H
       have c28b0 : decide (a4 < 0) = false := decide_eq_false c28
       clear c28
       by_cases c33 : a4 > 4194304
       ·as_aux_lemma =>
        rw [if_pos c33] at H
        have c33b0 : decide (4194304 < a4) = true := decide_eq_true c33
        clear c33
        have H' := Aside0.mk H
        clear H
        have hcz34_ := cells13_ BK332.out
        go_wp2_with (first | (go_at_call 7; (with_reducible refine (posthornlaw23_Great.calls a0_0 a0_1 a0_2 a0_3 a0_4 a0_5 a0_6 _ _ l0_7 _ _ l0_8 _ _ l0_9 _ _ l0_10 _ _ l0_11 _ _ l0_12 a2 false _ ?side1 ?side2 ?side3 ?side4 ?side5 ?side6 ?side7 ?side8 ?side9 ?side10 ?side11 ?side12 A8.out).mono ?_); (case side1 => exact cop_ (Kd.C_below HR0_7.out HB.out)); (case side2 => exact HC0_7.out); (case side3 => exact cop_ (Kd.C_below HR0_8.out HB.out)); (case side4 => exact HC0_8.out); (case side5 => exact cop_ (Kd.C_below HR0_9.out HB.out)); (case side6 => exact HC0_9.out); (case side7 => exact cop_ (Kd.C_below HR0_10.out HB.out)); (case side8 => exact HC0_10.out); (case side9 => exact cop_ (Kd.C_below HR0_11.out HB.out)); (case side10 => exact HC0_11.out); (case side11 => exact cop_ (Kd.C_below HR0_12.out HB.out)); (case side12 => exact HC0_12.out); rintro e w35 ⟨rfl, hb⟩; have n0_ := ad_ (blk_below (g := gb332) (o := .cells #[.int .i64 a0_0, .int .i64 a0_1, .bool a0_2, .int .i64 a0_3, .int .i64 a0_4, .int .i64 a0_5, .int .i64 a0_6, .slice A0_7 l0_7.length c0_7, .slice A0_8 l0_8.length c0_8, .slice A0_9 l0_9.length c0_9, .slice A0_10 l0_10.length c0_10, .slice A0_11 l0_11.length c0_11, .slice A0_12 l0_12.length c0_12] 29 (0, 0)) (blo_ BK332.out) hb); have n1_ := ad_ (below_step belg_ hb); clear BK332; clear HB; have BK332 := n0_; have HB := n1_; clear n0_ n1_; (try clear hb); (try clear hb2); (try clear hk); (try clear hi); have hcz36_ := cells13_ BK332.out) | (go_at_call 7; (with_reducible refine (posthornlaw23_Great.calls a0_0 a0_1 a0_2 a0_3 a0_4 a0_5 a0_6 _ _ l0_7 _ _ l0_8 _ _ l0_9 _ _ l0_10 _ _ l0_11 _ _ l0_12 a1 false _ ?side1 ?side2 ?side3 ?side4 ?side5 ?side6 ?side7 ?side8 ?side9 ?side10 ?side11 ?side12 A12.out).mono ?_); (case side1 => exact cop_ (Kd.C_below HR0_7.out HB.out)); (case side2 => exact HC0_7.out); (case side3 => exact cop_ (Kd.C_below HR0_8.out HB.out)); (case side4 => exact HC0_8.out); (case side5 => exact cop_ (Kd.C_below HR0_9.out HB.out)); (case side6 => exact HC0_9.out); (case side7 => exact cop_ (Kd.C_below HR0_10.out HB.out)); (case side8 => exact HC0_10.out); (case side9 => exact cop_ (Kd.C_below HR0_11.out HB.out)); (case side10 => exact HC0_11.out); (case side11 => exact cop_ (Kd.C_below HR0_12.out HB.out)); (case side12 => exact HC0_12.out); rintro e w37 ⟨rfl, hb⟩; have n0_ := ad_ (blk_below (g := gb332) (o := .cells #[.int .i64 a0_0, .int .i64 a0_1, .bool a0_2, .int .i64 a0_3, .int .i64 a0_4, .int .i64 a0_5, .int .i64 a0_6, .slice A0_7 l0_7.length c0_7, .slice A0_8 l0_8.length c0_8, .slice A0_9 l0_9.length c0_9, .slice A0_10 l0_10.length c0_10, .slice A0_11 l0_11.length c0_11, .slice A0_12 l0_12.length c0_12] 29 (0, 0)) (blo_ BK332.out) hb); have n1_ := ad_ (below_step belg_ hb); clear BK332; clear HB; have BK332 := n0_; have HB := n1_; clear n0_ n1_; (try clear hb); (try clear hb2); (try clear hk); (try clear hi)))
        repeat (go_quiet (first | (go_at_call 7; (with_reducible refine (posthornlaw23_Great.calls a0_0 a0_1 a0_2 a0_3 a0_4 a0_5 a0_6 _ _ l0_7 _ _ l0_8 _ _ l0_9 _ _ l0_10 _ _ l0_11 _ _ l0_12 a2 false _ ?side1 ?side2 ?side3 ?side4 ?side5 ?side6 ?side7 ?side8 ?side9 ?side10 ?side11 ?side12 A8.out).mono ?_); (case side1 => exact cop_ (Kd.C_below HR0_7.out HB.out)); (case side2 => exact HC0_7.out); (case side3 => exact cop_ (Kd.C_below HR0_8.out HB.out)); (case side4 => exact HC0_8.out); (case side5 => exact cop_ (Kd.C_below HR0_9.out HB.out)); (case side6 => exact HC0_9.out); (case side7 => exact cop_ (Kd.C_below HR0_10.out HB.out)); (case side8 => exact HC0_10.out); (case side9 => exact cop_ (Kd.C_below HR0_11.out HB.out)); (case side10 => exact HC0_11.out); (case side11 => exact cop_ (Kd.C_below HR0_12.out HB.out)); (case side12 => exact HC0_12.out); rintro e w35 ⟨rfl, hb⟩; have n0_ := ad_ (blk_below (g := gb332) (o := .cells #[.int .i64 a0_0, .int .i64 a0_1, .bool a0_2, .int .i64 a0_3, .int .i64 a0_4, .int .i64 a0_5, .int .i64 a0_6, .slice A0_7 l0_7.length c0_7, .slice A0_8 l0_8.length c0_8, .slice A0_9 l0_9.length c0_9, .slice A0_10 l0_10.length c0_10, .slice A0_11 l0_11.length c0_11, .slice A0_12 l0_12.length c0_12] 29 (0, 0)) (blo_ BK332.out) hb); have n1_ := ad_ (below_step belg_ hb); clear BK332; clear HB; have BK332 := n0_; have HB := n1_; clear n0_ n1_; (try clear hb); (try clear hb2); (try clear hk); (try clear hi); have hcz36_ := cells13_ BK332.out) | (go_at_call 7; (with_reducible refine (posthornlaw23_Great.calls a0_0 a0_1 a0_2 a0_3 a0_4 a0_5 a0_6 _ _ l0_7 _ _ l0_8 _ _ l0_9 _ _ l0_10 _ _ l0_11 _ _ l0_12 a1 false _ ?side1 ?side2 ?side3 ?side4 ?side5 ?side6 ?side7 ?side8 ?side9 ?side10 ?side11 ?side12 A12.out).mono ?_); (case side1 => exact cop_ (Kd.C_below HR0_7.out HB.out)); (case side2 => exact HC0_7.out); (case side3 => exact cop_ (Kd.C_below HR0_8.out HB.out)); (case side4 => exact HC0_8.out); (case side5 => exact cop_ (Kd.C_below HR0_9.out HB.out)); (case side6 => exact HC0_9.out); (case side7 => exact cop_ (Kd.C_below HR0_10.out HB.out)); (case side8 => exact HC0_10.out); (case side9 => exact cop_ (Kd.C_below HR0_11.out HB.out)); (case side10 => exact HC0_11.out); (case side11 => exact cop_ (Kd.C_below HR0_12.out HB.out)); (case side12 => exact HC0_12.out); rintro e w37 ⟨rfl, hb⟩; have n0_ := ad_ (blk_below (g := gb332) (o := .cells #[.int .i64 a0_0, .int .i64 a0_1, .bool a0_2, .int .i64 a0_3, .int .i64 a0_4, .int .i64 a0_5, .int .i64 a0_6, .slice A0_7 l0_7.length c0_7, .slice A0_8 l0_8.length c0_8, .slice A0_9 l0_9.length c0_9, .slice A0_10 l0_10.length c0_10, .slice A0_11 l0_11.length c0_11, .slice A0_12 l0_12.length c0_12] 29 (0, 0)) (blo_ BK332.out) hb); have n1_ := ad_ (below_step belg_ hb); clear BK332; clear HB; have BK332 := n0_; have HB := n1_; clear n0_ n1_; (try clear hb); (try clear hb2); (try clear hk); (try clear hi))); try go_wp2_with (first | (go_at_call 7; (with_reducible refine (posthornlaw23_Great.calls a0_0 a0_1 a0_2 a0_3 a0_4 a0_5 a0_6 _ _ l0_7 _ _ l0_8 _ _ l0_9 _ _ l0_10 _ _ l0_11 _ _ l0_12 a2 false _ ?side1 ?side2 ?side3 ?side4 ?side5 ?side6 ?side7 ?side8 ?side9 ?side10 ?side11 ?side12 A8.out).mono ?_); (case side1 => exact cop_ (Kd.C_below HR0_7.out HB.out)); (case side2 => exact HC0_7.out); (case side3 => exact cop_ (Kd.C_below HR0_8.out HB.out)); (case side4 => exact HC0_8.out); (case side5 => exact cop_ (Kd.C_below HR0_9.out HB.out)); (case side6 => exact HC0_9.out); (case side7 => exact cop_ (Kd.C_below HR0_10.out HB.out)); (case side8 => exact HC0_10.out); (case side9 => exact cop_ (Kd.C_below HR0_11.out HB.out)); (case side10 => exact HC0_11.out); (case side11 => exact cop_ (Kd.C_below HR0_12.out HB.out)); (case side12 => exact HC0_12.out); rintro e w35 ⟨rfl, hb⟩; have n0_ := ad_ (blk_below (g := gb332) (o := .cells #[.int .i64 a0_0, .int .i64 a0_1, .bool a0_2, .int .i64 a0_3, .int .i64 a0_4, .int .i64 a0_5, .int .i64 a0_6, .slice A0_7 l0_7.length c0_7, .slice A0_8 l0_8.length c0_8, .slice A0_9 l0_9.length c0_9, .slice A0_10 l0_10.length c0_10, .slice A0_11 l0_11.length c0_11, .slice A0_12 l0_12.length c0_12] 29 (0, 0)) (blo_ BK332.out) hb); have n1_ := ad_ (below_step belg_ hb); clear BK332; clear HB; have BK332 := n0_; have HB := n1_; clear n0_ n1_; (try clear hb); (try clear hb2); (try clear hk); (try clear hi); have hcz36_ := cells13_ BK332.out) | (go_at_call 7; (with_reducible refine (posthornlaw23_Great.calls a0_0 a0_1 a0_2 a0_3 a0_4 a0_5 a0_6 _ _ l0_7 _ _ l0_8 _ _ l0_9 _ _ l0_10 _ _ l0_11 _ _ l0_12 a1 false _ ?side1 ?side2 ?side3 ?side4 ?side5 ?side6 ?side7 ?side8 ?side9 ?side10 ?side11 ?side12 A12.out).mono ?_); (case side1 => exact cop_ (Kd.C_below HR0_7.out HB.out)); (case side2 => exact HC0_7.out); (case side3 => exact cop_ (Kd.C_below HR0_8.out HB.out)); (case side4 => exact HC0_8.out); (case side5 => exact cop_ (Kd.C_below HR0_9.out HB.out)); (case side6 => exact HC0_9.out); (case side7 => exact cop_ (Kd.C_below HR0_10.out HB.out)); (case side8 => exact HC0_10.out); (case side9 => exact cop_ (Kd.C_below HR0_11.out HB.out)); (case side10 => exact HC0_11.out); (case side11 => exact cop_ (Kd.C_below HR0_12.out HB.out)); (case side12 => exact HC0_12.out); rintro e w37 ⟨rfl, hb⟩; have n0_ := ad_ (blk_below (g := gb332) (o := .cells #[.int .i64 a0_0, .int .i64 a0_1, .bool a0_2, .int .i64 a0_3, .int .i64 a0_4, .int .i64 a0_5, .int .i64 a0_6, .slice A0_7 l0_7.length c0_7, .slice A0_8 l0_8.length c0_8, .slice A0_9 l0_9.length c0_9, .slice A0_10 l0_10.length c0_10, .slice A0_11 l0_11.length c0_11, .slice A0_12 l0_12.length c0_12] 29 (0, 0)) (blo_ BK332.out) hb); have n1_ := ad_ (below_step belg_ hb); clear BK332; clear HB; have BK332 := n0_; have HB := n1_; clear n0_ n1_; (try clear hb); (try clear hb2); (try clear hk); (try clear hi))))
        go_meet
        case rel => exact ⟨_, (true), val_, H', ⟨by first | omega | exact Nat.le_refl _⟩, ⟨blo_ BK332.out⟩, ⟨belg_⟩⟩
       ·as_aux_lemma =>
        rw [if_neg c33] at H
        have c33b0 : decide (4194304 < a4) = false := decide_eq_false c33
        clear c33
        have H' := Aside0.mk H
        clear H
        have hcz38_ := cells13_ BK332.out
        go_wp2_with (first | (go_at_call 7; (with_reducible refine (posthornlaw23_Great.calls a0_0 a0_1 a0_2 a0_3 a0_4 a0_5 a0_6 _ _ l0_7 _ _ l0_8 _ _ l0_9 _ _ l0_10 _ _ l0_11 _ _ l0_12 a2 false _ ?side1 ?side2 ?side3 ?side4 ?side5 ?side6 ?side7 ?side8 ?side9 ?side10 ?side11 ?side12 A8.out).mono ?_); (case side1 => exact cop_ (Kd.C_below HR0_7.out HB.out)); (case side2 => exact HC0_7.out); (case side3 => exact cop_ (Kd.C_below HR0_8.out HB.out)); (case side4 => exact HC0_8.out); (case side5 => exact cop_ (Kd.C_below HR0_9.out HB.out)); (case side6 => exact HC0_9.out); (case side7 => exact cop_ (Kd.C_below HR0_10.out HB.out)); (case side8 => exact HC0_10.out); (case side9 => exact cop_ (Kd.C_below HR0_11.out HB.out)); (case side10 => exact HC0_11.out); (case side11 => exact cop_ (Kd.C_below HR0_12.out HB.out)); (case side12 => exact HC0_12.out); rintro e w39 ⟨rfl, hb⟩; have n0_ := ad_ (blk_below (g := gb332) (o := .cells #[.int .i64 a0_0, .int .i64 a0_1, .bool a0_2, .int .i64 a0_3, .int .i64 a0_4, .int .i64 a0_5, .int .i64 a0_6, .slice A0_7 l0_7.length c0_7, .slice A0_8 l0_8.length c0_8, .slice A0_9 l0_9.length c0_9, .slice A0_10 l0_10.length c0_10, .slice A0_11 l0_11.length c0_11, .slice A0_12 l0_12.length c0_12] 29 (0, 0)) (blo_ BK332.out) hb); have n1_ := ad_ (below_step belg_ hb); clear BK332; clear HB; have BK332 := n0_; have HB := n1_; clear n0_ n1_; (try clear hb); (try clear hb2); (try clear hk); (try clear hi); have hcz40_ := cells13_ BK332.out) | (go_at_call 7; (with_reducible refine (posthornlaw23_Great.calls a0_0 a0_1 a0_2 a0_3 a0_4 a0_5 a0_6 _ _ l0_7 _ _ l0_8 _ _ l0_9 _ _ l0_10 _ _ l0_11 _ _ l0_12 a1 false _ ?side1 ?side2 ?side3 ?side4 ?side5 ?side6 ?side7 ?side8 ?side9 ?side10 ?side11 ?side12 A12.out).mono ?_); (case side1 => exact cop_ (Kd.C_below HR0_7.out HB.out)); (case side2 => exact HC0_7.out); (case side3 => exact cop_ (Kd.C_below HR0_8.out HB.out)); (case side4 => exact HC0_8.out); (case side5 => exact cop_ (Kd.C_below HR0_9.out HB.out)); (case side6 => exact HC0_9.out); (case side7 => exact cop_ (Kd.C_below HR0_10.out HB.out)); (case side8 => exact HC0_10.out); (case side9 => exact cop_ (Kd.C_below HR0_11.out HB.out)); (case side10 => exact HC0_11.out); (case side11 => exact cop_ (Kd.C_below HR0_12.out HB.out)); (case side12 => exact HC0_12.out); rintro e w41 ⟨rfl, hb⟩; have n0_ := ad_ (blk_below (g := gb332) (o := .cells #[.int .i64 a0_0, .int .i64 a0_1, .bool a0_2, .int .i64 a0_3, .int .i64 a0_4, .int .i64 a0_5, .int .i64 a0_6, .slice A0_7 l0_7.length c0_7, .slice A0_8 l0_8.length c0_8, .slice A0_9 l0_9.length c0_9, .slice A0_10 l0_10.length c0_10, .slice A0_11 l0_11.length c0_11, .slice A0_12 l0_12.length c0_12] 29 (0, 0)) (blo_ BK332.out) hb); have n1_ := ad_ (below_step belg_ hb); clear BK332; clear HB; have BK332 := n0_; have HB := n1_; clear n0_ n1_; (try clear hb); (try clear hb2); (try clear hk); (try clear hi)))
        repeat (go_quiet (first | (go_at_call 7; (with_reducible refine (posthornlaw23_Great.calls a0_0 a0_1 a0_2 a0_3 a0_4 a0_5 a0_6 _ _ l0_7 _ _ l0_8 _ _ l0_9 _ _ l0_10 _ _ l0_11 _ _ l0_12 a2 false _ ?side1 ?side2 ?side3 ?side4 ?side5 ?side6 ?side7 ?side8 ?side9 ?side10 ?side11 ?side12 A8.out).mono ?_); (case side1 => exact cop_ (Kd.C_below HR0_7.out HB.out)); (case side2 => exact HC0_7.out); (case side3 => exact cop_ (Kd.C_below HR0_8.out HB.out)); (case side4 => exact HC0_8.out); (case side5 => exact cop_ (Kd.C_below HR0_9.out HB.out)); (case side6 => exact HC0_9.out); (case side7 => exact cop_ (Kd.C_below HR0_10.out HB.out)); (case side8 => exact HC0_10.out); (case side9 => exact cop_ (Kd.C_below HR0_11.out HB.out)); (case side10 => exact HC0_11.out); (case side11 => exact cop_ (Kd.C_below HR0_12.out HB.out)); (case side12 => exact HC0_12.out); rintro e w39 ⟨rfl, hb⟩; have n0_ := ad_ (blk_below (g := gb332) (o := .cells #[.int .i64 a0_0, .int .i64 a0_1, .bool a0_2, .int .i64 a0_3, .int .i64 a0_4, .int .i64 a0_5, .int .i64 a0_6, .slice A0_7 l0_7.length c0_7, .slice A0_8 l0_8.length c0_8, .slice A0_9 l0_9.length c0_9, .slice A0_10 l0_10.length c0_10, .slice A0_11 l0_11.length c0_11, .slice A0_12 l0_12.length c0_12] 29 (0, 0)) (blo_ BK332.out) hb); have n1_ := ad_ (below_step belg_ hb); clear BK332; clear HB; have BK332 := n0_; have HB := n1_; clear n0_ n1_; (try clear hb); (try clear hb2); (try clear hk); (try clear hi); have hcz40_ := cells13_ BK332.out) | (go_at_call 7; (with_reducible refine (posthornlaw23_Great.calls a0_0 a0_1 a0_2 a0_3 a0_4 a0_5 a0_6 _ _ l0_7 _ _ l0_8 _ _ l0_9 _ _ l0_10 _ _ l0_11 _ _ l0_12 a1 false _ ?side1 ?side2 ?side3 ?side4 ?side5 ?side6 ?side7 ?side8 ?side9 ?side10 ?side11 ?side12 A12.out).mono ?_); (case side1 => exact cop_ (Kd.C_below HR0_7.out HB.out)); (case side2 => exact HC0_7.out); (case side3 => exact cop_ (Kd.C_below HR0_8.out HB.out)); (case side4 => exact HC0_8.out); (case side5 => exact cop_ (Kd.C_below HR0_9.out HB.out)); (case side6 => exact HC0_9.out); (case side7 => exact cop_ (Kd.C_below HR0_10.out HB.out)); (case side8 => exact HC0_10.out); (case side9 => exact cop_ (Kd.C_below HR0_11.out HB.out)); (case side10 => exact HC0_11.out); (case side11 => exact cop_ (Kd.C_below HR0_12.out HB.out)); (case side12 => exact HC0_12.out); rintro e w41 ⟨rfl, hb⟩; have n0_ := ad_ (blk_below (g := gb332) (o := .cells #[.int .i64 a0_0, .int .i64 a0_1, .bool a0_2, .int .i64 a0_3, .int .i64 a0_4, .int .i64 a0_5, .int .i64 a0_6, .slice A0_7 l0_7.length c0_7, .slice A0_8 l0_8.length c0_8, .slice A0_9 l0_9.length c0_9, .slice A0_10 l0_10.length c0_10, .slice A0_11 l0_11.length c0_11, .slice A0_12 l0_12.length c0_12] 29 (0, 0)) (blo_ BK332.out) hb); have n1_ := ad_ (below_step belg_ hb); clear BK332; clear HB; have BK332 := n0_; have HB := n1_; clear n0_ n1_; (try clear hb); (try clear hb2); (try clear hk); (try clear hi))); try go_wp2_with (first | (go_at_call 7; (with_reducible refine (posthornlaw23_Great.calls a0_0 a0_1 a0_2 a0_3 a0_4 a0_5 a0_6 _ _ l0_7 _ _ l0_8 _ _ l0_9 _ _ l0_10 _ _ l0_11 _ _ l0_12 a2 false _ ?side1 ?side2 ?side3 ?side4 ?side5 ?side6 ?side7 ?side8 ?side9 ?side10 ?side11 ?side12 A8.out).mono ?_); (case side1 => exact cop_ (Kd.C_below HR0_7.out HB.out)); (case side2 => exact HC0_7.out); (case side3 => exact cop_ (Kd.C_below HR0_8.out HB.out)); (case side4 => exact HC0_8.out); (case side5 => exact cop_ (Kd.C_below HR0_9.out HB.out)); (case side6 => exact HC0_9.out); (case side7 => exact cop_ (Kd.C_below HR0_10.out HB.out)); (case side8 => exact HC0_10.out); (case side9 => exact cop_ (Kd.C_below HR0_11.out HB.out)); (case side10 => exact HC0_11.out); (case side11 => exact cop_ (Kd.C_below HR0_12.out HB.out)); (case side12 => exact HC0_12.out); rintro e w39 ⟨rfl, hb⟩; have n0_ := ad_ (blk_below (g := gb332) (o := .cells #[.int .i64 a0_0, .int .i64 a0_1, .bool a0_2, .int .i64 a0_3, .int .i64 a0_4, .int .i64 a0_5, .int .i64 a0_6, .slice A0_7 l0_7.length c0_7, .slice A0_8 l0_8.length c0_8, .slice A0_9 l0_9.length c0_9, .slice A0_10 l0_10.length c0_10, .slice A0_11 l0_11.length c0_11, .slice A0_12 l0_12.length c0_12] 29 (0, 0)) (blo_ BK332.out) hb); have n1_ := ad_ (below_step belg_ hb); clear BK332; clear HB; have BK332 := n0_; have HB := n1_; clear n0_ n1_; (try clear hb); (try clear hb2); (try clear hk); (try clear hi); have hcz40_ := cells13_ BK332.out) | (go_at_call 7; (with_reducible refine (posthornlaw23_Great.calls a0_0 a0_1 a0_2 a0_3 a0_4 a0_5 a0_6 _ _ l0_7 _ _ l0_8 _ _ l0_9 _ _ l0_10 _ _ l0_11 _ _ l0_12 a1 false _ ?side1 ?side2 ?side3 ?side4 ?side5 ?side6 ?side7 ?side8 ?side9 ?side10 ?side11 ?side12 A12.out).mono ?_); (case side1 => exact cop_ (Kd.C_below HR0_7.out HB.out)); (case side2 => exact HC0_7.out); (case side3 => exact cop_ (Kd.C_below HR0_8.out HB.out)); (case side4 => exact HC0_8.out); (case side5 => exact cop_ (Kd.C_below HR0_9.out HB.out)); (case side6 => exact HC0_9.out); (case side7 => exact cop_ (Kd.C_below HR0_10.out HB.out)); (case side8 => exact HC0_10.out); (case side9 => exact cop_ (Kd.C_below HR0_11.out HB.out)); (case side10 => exact HC0_11.out); (case side11 => exact cop_ (Kd.C_below HR0_12.out HB.out)); (case side12 => exact HC0_12.out); rintro e w41 ⟨rfl, hb⟩; have n0_ := ad_ (blk_below (g := gb332) (o := .cells #[.int .i64 a0_0, .int .i64 a0_1, .bool a0_2, .int .i64 a0_3, .int .i64 a0_4, .int .i64 a0_5, .int .i64 a0_6, .slice A0_7 l0_7.length c0_7, .slice A0_8 l0_8.length c0_8, .slice A0_9 l0_9.length c0_9, .slice A0_10 l0_10.length c0_10, .slice A0_11 l0_11.length c0_11, .slice A0_12 l0_12.length c0_12] 29 (0, 0)) (blo_ BK332.out) hb); have n1_ := ad_ (below_step belg_ hb); clear BK332; clear HB; have BK332 := n0_; have HB := n1_; clear n0_ n1_; (try clear hb); (try clear hb2); (try clear hk); (try clear hi))))
        go_meet
        case rel => exact ⟨_, (decide (a1 < a3)), val_, H', ⟨by first | omega | exact Nat.le_refl _⟩, ⟨blo_ BK332.out⟩, ⟨belg_⟩⟩
 case rest =>
  as_aux_lemma =>
  clear HC6
  try clear c1
  try clear c2
  try clear p2
  try clear c3
  try clear c4
  try clear c9
  try clear c13
  try clear c18
  try clear c18b0
  try clear c23
  try clear c23b0
  try clear c28
  try clear c28b0
  try clear c33
  try clear c33b0
  try clear hcz10_
  try clear hcz14_
  try clear hcz16_
  try clear hcz19_
  try clear hcz21_
  try clear hcz24_
  try clear hcz26_
  try clear hcz29_
  try clear hcz31_
  try clear hcz34_
  try clear hcz36_
  try clear hcz38_
  try clear hcz40_
  obtain ⟨kq, x46_5, rfl, HA, HJ5, BK332, HB⟩ := hcut
  cases kq with
  | zero => exact absurd HA.out (by simp [posthornlaw23_SeriesWider.j0])
  | succ kj5 =>
   have H := HA.out
   clear HA
   simp only [posthornlaw23_SeriesWider.j0] at H
   by_cases c42 : x46_5 = true
   ·subst c42
    have H1 := ifp_ H
    clear H
    have H := H1
    clear H1
    replace H := Option.bind_eq_some_iff.mp H
    obtain ⟨t335, A430, H⟩ := H
    try dsimp only at H
    have A43 := Aside0.mk A430
    clear A430
    obtain rfl := Option.some.inj H
    go_wp2_with (first | (go_at_call 8; (with_reducible refine (posthornlaw23_alive.calls kj5  t335 _ A43.out).mono ?_); rintro e w44 ⟨rfl, hb⟩; have n0_ := ad_ (blk_below (g := gb332) (o := .cells #[.int .i64 a0_0, .int .i64 a0_1, .bool a0_2, .int .i64 a0_3, .int .i64 a0_4, .int .i64 a0_5, .int .i64 a0_6, .slice A0_7 l0_7.length c0_7, .slice A0_8 l0_8.length c0_8, .slice A0_9 l0_9.length c0_9, .slice A0_10 l0_10.length c0_10, .slice A0_11 l0_11.length c0_11, .slice A0_12 l0_12.length c0_12] 29 (0, 0)) (blo_ BK332.out) hb); have n1_ := ad_ (below_step belg_ hb); clear BK332; clear HB; have BK332 := n0_; have HB := n1_; clear n0_ n1_; (try clear hb); (try clear hb2); (try clear hk); (try clear hi)))
    repeat (go_quiet (first | (go_at_call 8; (with_reducible refine (posthornlaw23_alive.calls kj5  t335 _ A43.out).mono ?_); rintro e w44 ⟨rfl, hb⟩; have n0_ := ad_ (blk_below (g := gb332) (o := .cells #[.int .i64 a0_0, .int .i64 a0_1, .bool a0_2, .int .i64 a0_3, .int .i64 a0_4, .int .i64 a0_5, .int .i64 a0_6, .slice A0_7 l0_7.length c0_7, .slice A0_8 l0_8.length c0_8, .slice A0_9 l0_9.length c0_9, .slice A0_10 l0_10.length c0_10, .slice A0_11 l0_11.length c0_11, .slice A0_12 l0_12.length c0_12] 29 (0, 0)) (blo_ BK332.out) hb); have n1_ := ad_ (below_step belg_ hb); clear BK332; clear HB; have BK332 := n0_; have HB := n1_; clear n0_ n1_; (try clear hb); (try clear hb2); (try clear hk); (try clear hi))); try go_wp2_with (first | (go_at_call 8; (with_reducible refine (posthornlaw23_alive.calls kj5  t335 _ A43.out).mono ?_); rintro e w44 ⟨rfl, hb⟩; have n0_ := ad_ (blk_below (g := gb332) (o := .cells #[.int .i64 a0_0, .int .i64 a0_1, .bool a0_2, .int .i64 a0_3, .int .i64 a0_4, .int .i64 a0_5, .int .i64 a0_6, .slice A0_7 l0_7.length c0_7, .slice A0_8 l0_8.length c0_8, .slice A0_9 l0_9.length c0_9, .slice A0_10 l0_10.length c0_10, .slice A0_11 l0_11.length c0_11, .slice A0_12 l0_12.length c0_12] 29 (0, 0)) (blo_ BK332.out) hb); have n1_ := ad_ (below_step belg_ hb); clear BK332; clear HB; have BK332 := n0_; have HB := n1_; clear n0_ n1_; (try clear hb); (try clear hb2); (try clear hk); (try clear hi))))
    go_ret
    exact ⟨ret_, belg_⟩
   ·as_aux_lemma =>
    replace c42 := Bool.eq_false_iff.mpr c42
    subst c42
    have H1 := ifn_ H
    clear H
    have H := H1
    clear H1
    replace H := Option.bind_eq_some_iff.mp H
    obtain ⟨⟨t336, t339⟩, A450, H⟩ := H
    try dsimp only at H
    have A45 := Aside0.mk A450
    clear A450
    replace H := Option.bind_eq_some_iff.mp H
    obtain ⟨⟨t340, t343⟩, A460, H⟩ := H
    try dsimp only at H
    have A46 := Aside0.mk A460
    clear A460
    have HC47 := Aside0.mk H
    clear H
    have hcz48_ := cells13_ BK332.out
    go_upto_region 5 with (first | (go_at_call 9; (with_reducible refine (series_Instances.calls kj5 a0_0 a0_1 a0_2 a0_3 a0_4 a0_5 a0_6 _ _ l0_7 _ _ l0_8 _ _ l0_9 _ _ l0_10 _ _ l0_11 _ _ l0_12 a1 a2 t336 t339 _ ?side1 ?side2 ?side3 ?side4 ?side5 ?side6 ?side7 ?side8 ?side9 ?side10 ?side11 ?side12 A45.out).mono ?_); (case side1 => exact cop_ (Kd.C_below HR0_7.out HB.out)); (case side2 => exact HC0_7.out); (case side3 => exact cop_ (Kd.C_below HR0_8.out HB.out)); (case side4 => exact HC0_8.out); (case side5 => exact cop_ (Kd.C_below HR0_9.out HB.out)); (case side6 => exact HC0_9.out); (case side7 => exact cop_ (Kd.C_below HR0_10.out HB.out)); (case side8 => exact HC0_10.out); (case side9 => exact cop_ (Kd.C_below HR0_11.out HB.out)); (case side10 => exact HC0_11.out); (case side11 => exact cop_ (Kd.C_below HR0_12.out HB.out)); (case side12 => exact HC0_12.out); rintro e w49 ⟨v337, rfl, ho0, hb⟩; have n0_ := ad_ (Kd.R_lower ho0 (below_size belg_)); have n1_ := ad_ (blk_below (g := gb332) (o := .cells #[.int .i64 a0_0, .int .i64 a0_1, .bool a0_2, .int .i64 a0_3, .int .i64 a0_4, .int .i64 a0_5, .int .i64 a0_6, .slice A0_7 l0_7.length c0_7, .slice A0_8 l0_8.length c0_8, .slice A0_9 l0_9.length c0_9, .slice A0_10 l0_10.length c0_10, .slice A0_11 l0_11.length c0_11, .slice A0_12 l0_12.length c0_12] 29 (0, 0)) (blo_ BK332.out) hb); have n2_ := ad_ (below_step belg_ hb); clear BK332; clear HB; have HO338 := n0_; have BK332 := n1_; have HB := n2_; clear n0_ n1_ n2_; (try clear hb); (try clear hb2); (try clear hk); (try clear hi); (try clear ho0); have hcz50_ := cells13_ BK332.out) | (go_at_call 9; (with_reducible refine (series_Instances.calls kj5 a0_0 a0_1 a0_2 a0_3 a0_4 a0_5 a0_6 _ _ l0_7 _ _ l0_8 _ _ l0_9 _ _ l0_10 _ _ l0_11 _ _ l0_12 (wrap64 (a1 - a3)) (wrap64 (a2 + a4)) t340 t343 _ ?side1 ?side2 ?side3 ?side4 ?side5 ?side6 ?side7 ?side8 ?side9 ?side10 ?side11 ?side12 A46.out).mono ?_); (case side1 => exact cop_ (Kd.C_below HR0_7.out HB.out)); (case side2 => exact HC0_7.out); (case side3 => exact cop_ (Kd.C_below HR0_8.out HB.out)); (case side4 => exact HC0_8.out); (case side5 => exact cop_ (Kd.C_below HR0_9.out HB.out)); (case side6 => exact HC0_9.out); (case side7 => exact cop_ (Kd.C_below HR0_10.out HB.out)); (case side8 => exact HC0_10.out); (case side9 => exact cop_ (Kd.C_below HR0_11.out HB.out)); (case side10 => exact HC0_11.out); (case side11 => exact cop_ (Kd.C_below HR0_12.out HB.out)); (case side12 => exact HC0_12.out); rintro e w51 ⟨v341, rfl, ho0, hb⟩; have n0_ := ad_ (Kd.R_elder' (rod_ HO338) (Kd.R_base ho0) hb); have n1_ := ad_ (Kd.R_lower (Kd.R_new' ho0 (Kd.R_lt (rod_ HO338))) (below_size belg_)); have n2_ := ad_ (blk_below (g := gb332) (o := .cells #[.int .i64 a0_0, .int .i64 a0_1, .bool a0_2, .int .i64 a0_3, .int .i64 a0_4, .int .i64 a0_5, .int .i64 a0_6, .slice A0_7 l0_7.length c0_7, .slice A0_8 l0_8.length c0_8, .slice A0_9 l0_9.length c0_9, .slice A0_10 l0_10.length c0_10, .slice A0_11 l0_11.length c0_11, .slice A0_12 l0_12.length c0_12] 29 (0, 0)) (blo_ BK332.out) hb); have n3_ := ad_ (below_step belg_ hb); clear HO338; clear BK332; clear HB; have HO338 := n0_; have HO342 := n1_; have BK332 := n2_; have HB := n3_; clear n0_ n1_ n2_ n3_; (try clear hb); (try clear hb2); (try clear hk); (try clear hi); (try clear ho0)))
    repeat (go_quiet (first | (go_at_call 9; (with_reducible refine (series_Instances.calls kj5 a0_0 a0_1 a0_2 a0_3 a0_4 a0_5 a0_6 _ _ l0_7 _ _ l0_8 _ _ l0_9 _ _ l0_10 _ _ l0_11 _ _ l0_12 a1 a2 t336 t339 _ ?side1 ?side2 ?side3 ?side4 ?side5 ?side6 ?side7 ?side8 ?side9 ?side10 ?side11 ?side12 A45.out).mono ?_); (case side1 => exact cop_ (Kd.C_below HR0_7.out HB.out)); (case side2 => exact HC0_7.out); (case side3 => exact cop_ (Kd.C_below HR0_8.out HB.out)); (case side4 => exact HC0_8.out); (case side5 => exact cop_ (Kd.C_below HR0_9.out HB.out)); (case side6 => exact HC0_9.out); (case side7 => exact cop_ (Kd.C_below HR0_10.out HB.out)); (case side8 => exact HC0_10.out); (case side9 => exact cop_ (Kd.C_below HR0_11.out HB.out)); (case side10 => exact HC0_11.out); (case side11 => exact cop_ (Kd.C_below HR0_12.out HB.out)); (case side12 => exact HC0_12.out); rintro e w49 ⟨v337, rfl, ho0, hb⟩; have n0_ := ad_ (Kd.R_lower ho0 (below_size belg_)); have n1_ := ad_ (blk_below (g := gb332) (o := .cells #[.int .i64 a0_0, .int .i64 a0_1, .bool a0_2, .int .i64 a0_3, .int .i64 a0_4, .int .i64 a0_5, .int .i64 a0_6, .slice A0_7 l0_7.length c0_7, .slice A0_8 l0_8.length c0_8, .slice A0_9 l0_9.length c0_9, .slice A0_10 l0_10.length c0_10, .slice A0_11 l0_11.length c0_11, .slice A0_12 l0_12.length c0_12] 29 (0, 0)) (blo_ BK332.out) hb); have n2_ := ad_ (below_step belg_ hb); clear BK332; clear HB; have HO338 := n0_; have BK332 := n1_; have HB := n2_; clear n0_ n1_ n2_; (try clear hb); (try clear hb2); (try clear hk); (try clear hi); (try clear ho0); have hcz50_ := cells13_ BK332.out) | (go_at_call 9; (with_reducible refine (series_Instances.calls kj5 a0_0 a0_1 a0_2 a0_3 a0_4 a0_5 a0_6 _ _ l0_7 _ _ l0_8 _ _ l0_9 _ _ l0_10 _ _ l0_11 _ _ l0_12 (wrap64 (a1 - a3)) (wrap64 (a2 + a4)) t340 t343 _ ?side1 ?side2 ?side3 ?side4 ?side5 ?side6 ?side7 ?side8 ?side9 ?side10 ?side11 ?side12 A46.out).mono ?_); (case side1 => exact cop_ (Kd.C_below HR0_7.out HB.out)); (case side2 => exact HC0_7.out); (case side3 => exact cop_ (Kd.C_below HR0_8.out HB.out)); (case side4 => exact HC0_8.out); (case side5 => exact cop_ (Kd.C_below HR0_9.out HB.out)); (case side6 => exact HC0_9.out); (case side7 => exact cop_ (Kd.C_below HR0_10.out HB.out)); (case side8 => exact HC0_10.out); (case side9 => exact cop_ (Kd.C_below HR0_11.out HB.out)); (case side10 => exact HC0_11.out); (case side11 => exact cop_ (Kd.C_below HR0_12.out HB.out)); (case side12 => exact HC0_12.out); rintro e w51 ⟨v341, rfl, ho0, hb⟩; have n0_ := ad_ (Kd.R_elder' (rod_ HO338) (Kd.R_base ho0) hb); have n1_ := ad_ (Kd.R_lower (Kd.R_new' ho0 (Kd.R_lt (rod_ HO338))) (below_size belg_)); have n2_ := ad_ (blk_below (g := gb332) (o := .cells #[.int .i64 a0_0, .int .i64 a0_1, .bool a0_2, .int .i64 a0_3, .int .i64 a0_4, .int .i64 a0_5, .int .i64 a0_6, .slice A0_7 l0_7.length c0_7, .slice A0_8 l0_8.length c0_8, .slice A0_9 l0_9.length c0_9, .slice A0_10 l0_10.length c0_10, .slice A0_11 l0_11.length c0_11, .slice A0_12 l0_12.length c0_12] 29 (0, 0)) (blo_ BK332.out) hb); have n3_ := ad_ (below_step belg_ hb); clear HO338; clear BK332; clear HB; have HO338 := n0_; have HO342 := n1_; have BK332 := n2_; have HB := n3_; clear n0_ n1_ n2_ n3_; (try clear hb); (try clear hb2); (try clear hk); (try clear hi); (try clear ho0))); go_upto_region 5 with (first | (go_at_call 9; (with_reducible refine (series_Instances.calls kj5 a0_0 a0_1 a0_2 a0_3 a0_4 a0_5 a0_6 _ _ l0_7 _ _ l0_8 _ _ l0_9 _ _ l0_10 _ _ l0_11 _ _ l0_12 a1 a2 t336 t339 _ ?side1 ?side2 ?side3 ?side4 ?side5 ?side6 ?side7 ?side8 ?side9 ?side10 ?side11 ?side12 A45.out).mono ?_); (case side1 => exact cop_ (Kd.C_below HR0_7.out HB.out)); (case side2 => exact HC0_7.out); (case side3 => exact cop_ (Kd.C_below HR0_8.out HB.out)); (case side4 => exact HC0_8.out); (case side5 => exact cop_ (Kd.C_below HR0_9.out HB.out)); (case side6 => exact HC0_9.out); (case side7 => exact cop_ (Kd.C_below HR0_10.out HB.out)); (case side8 => exact HC0_10.out); (case side9 => exact cop_ (Kd.C_below HR0_11.out HB.out)); (case side10 => exact HC0_11.out); (case side11 => exact cop_ (Kd.C_below HR0_12.out HB.out)); (case side12 => exact HC0_12.out); rintro e w49 ⟨v337, rfl, ho0, hb⟩; have n0_ := ad_ (Kd.R_lower ho0 (below_size belg_)); have n1_ := ad_ (blk_below (g := gb332) (o := .cells #[.int .i64 a0_0, .int .i64 a0_1, .bool a0_2, .int .i64 a0_3, .int .i64 a0_4, .int .i64 a0_5, .int .i64 a0_6, .slice A0_7 l0_7.length c0_7, .slice A0_8 l0_8.length c0_8, .slice A0_9 l0_9.length c0_9, .slice A0_10 l0_10.length c0_10, .slice A0_11 l0_11.length c0_11, .slice A0_12 l0_12.length c0_12] 29 (0, 0)) (blo_ BK332.out) hb); have n2_ := ad_ (below_step belg_ hb); clear BK332; clear HB; have HO338 := n0_; have BK332 := n1_; have HB := n2_; clear n0_ n1_ n2_; (try clear hb); (try clear hb2); (try clear hk); (try clear hi); (try clear ho0); have hcz50_ := cells13_ BK332.out) | (go_at_call 9; (with_reducible refine (series_Instances.calls kj5 a0_0 a0_1 a0_2 a0_3 a0_4 a0_5 a0_6 _ _ l0_7 _ _ l0_8 _ _ l0_9 _ _ l0_10 _ _ l0_11 _ _ l0_12 (wrap64 (a1 - a3)) (wrap64 (a2 + a4)) t340 t343 _ ?side1 ?side2 ?side3 ?side4 ?side5 ?side6 ?side7 ?side8 ?side9 ?side10 ?side11 ?side12 A46.out).mono ?_); (case side1 => exact cop_ (Kd.C_below HR0_7.out HB.out)); (case side2 => exact HC0_7.out); (case side3 => exact cop_ (Kd.C_below HR0_8.out HB.out)); (case side4 => exact HC0_8.out); (case side5 => exact cop_ (Kd.C_below HR0_9.out HB.out)); (case side6 => exact HC0_9.out); (case side7 => exact cop_ (Kd.C_below HR0_10.out HB.out)); (case side8 => exact HC0_10.out); (case side9 => exact cop_ (Kd.C_below HR0_11.out HB.out)); (case side10 => exact HC0_11.out); (case side11 => exact cop_ (Kd.C_below HR0_12.out HB.out)); (case side12 => exact HC0_12.out); rintro e w51 ⟨v341, rfl, ho0, hb⟩; have n0_ := ad_ (Kd.R_elder' (rod_ HO338) (Kd.R_base ho0) hb); have n1_ := ad_ (Kd.R_lower (Kd.R_new' ho0 (Kd.R_lt (rod_ HO338))) (below_size belg_)); have n2_ := ad_ (blk_below (g := gb332) (o := .cells #[.int .i64 a0_0, .int .i64 a0_1, .bool a0_2, .int .i64 a0_3, .int .i64 a0_4, .int .i64 a0_5, .int .i64 a0_6, .slice A0_7 l0_7.length c0_7, .slice A0_8 l0_8.length c0_8, .slice A0_9 l0_9.length c0_9, .slice A0_10 l0_10.length c0_10, .slice A0_11 l0_11.length c0_11, .slice A0_12 l0_12.length c0_12] 29 (0, 0)) (blo_ BK332.out) hb); have n3_ := ad_ (below_step belg_ hb); clear HO338; clear BK332; clear HB; have HO338 := n0_; have HO342 := n1_; have BK332 := n2_; have HB := n3_; clear n0_ n1_ n2_ n3_; (try clear hb); (try clear hb2); (try clear hk); (try clear hi); (try clear ho0))))
    (try simp only [Act.put, List.setIfInBounds_toArray, List.set_cons_zero, List.set_cons_succ])
    go_cut [71] (fun v71 wc => ∃ (kq : Nat) (x71_46 : Bool), v71 = .bool x71_46 ∧ Aside0 (posthornlaw23_SeriesWider.j1 kq t336 t340 x71_46 = some r) ∧ Aside0 (kq ≤ kj5) ∧ Aside0 (Kd.R k37 37 wc w.heap.size (fun k_ => some k_ ≠ (v341 : Value).ownBlock) v337 t336) ∧ Aside0 (Kd.R k37 37 wc w.heap.size (fun k_ => some k_ ≠ (v337 : Value).ownBlock) v341 t340) ∧ Aside0 (wc.heap[gb332]? = some (.cells #[.int .i64 a0_0, .int .i64 a0_1, .bool a0_2, .int .i64 a0_3, .int .i64 a0_4, .int .i64 a0_5, .int .i64 a0_6, (.slice A0_7 l0_7.length c0_7), (.slice A0_8 l0_8.length c0_8), (.slice A0_9 l0_9.length c0_9), (.slice A0_10 l0_10.length c0_10), (.slice A0_11 l0_11.length c0_11), (.slice A0_12 l0_12.length c0_12)] 29 (0, 0))) ∧ Aside0 (Below w.heap.size w wc))
    case first =>
     have H := HC47.out
     clear HC47
     by_cases c52 : t339 = 0
     ·rw [if_pos c52] at H
      have c52b0 : (t339 == 0) = true := beq_iff_eq.mpr c52
      have c52b1 : (t339 != 0) = false := bne_eq_false_iff_eq.mpr c52
      clear c52
      (first | rw [c52b0] | (simp only [i64_w, i32_w]; rw [c52b0]) | skip)
      have H' := Aside0.mk H
      clear H
      go_wp2
      repeat (go_quiet (fail); try go_wp2)
      go_meet
      case rel => exact ⟨_, ((t343 != 0)), val_, H', ⟨by have := HJ5.out; first | omega | exact Nat.le_refl _⟩, ⟨by (with_reducible repeat (first | apply Kd.R_alloc | apply Kd.R_drewN | apply Kd.R_drew)); exact Kd.R_mono HO338.out (fun _ hk => hk.2)⟩, ⟨by (with_reducible repeat (first | apply Kd.R_alloc | apply Kd.R_drewN | apply Kd.R_drew)); exact Kd.R_mono HO342.out (fun _ hk => hk.2)⟩, ⟨blo_ BK332.out⟩, ⟨belg_⟩⟩
     ·rw [if_neg c52] at H
      have c52b0 : (t339 == 0) = false := beq_eq_false_iff_ne.mpr c52
      have c52b1 : (t339 != 0) = true := bne_iff_ne.mpr c52
      (first | rw [c52b0] | (simp only [i64_w, i32_w]; rw [c52b0]) | skip)
      have H' := Aside0.mk H
      clear H
      go_wp2
      repeat (go_quiet (fail); try go_wp2)
      go_meet
      case rel => exact ⟨_, (true), val_, H', ⟨by have := HJ5.out; first | omega | exact Nat.le_refl _⟩, ⟨by (with_reducible repeat (first | apply Kd.R_alloc | apply Kd.R_drewN | apply Kd.R_drew)); exact Kd.R_mono HO338.out (fun _ hk => hk.2)⟩, ⟨by (with_reducible repeat (first | apply Kd.R_alloc | apply Kd.R_drewN | apply Kd.R_drew)); exact Kd.R_mono HO342.out (fun _ hk => hk.2)⟩, ⟨blo_ BK332.out⟩, ⟨belg_⟩⟩
    case rest =>
     as_aux_lemma =>
     clear HC47
     try clear c1
     try clear c2
     try clear p2
     try clear c3
     try clear c4
     try clear c5
     try clear p6
     try clear c9
     try clear c13
     try clear c18
     try clear c18b0
     try clear c23
     try clear c23b0
     try clear c28
     try clear c28b0
     try clear c33
     try clear c33b0
     try clear c42
     try clear c52
     try clear c52b0
     try clear c52b1
     try clear hcz10_
     try clear hcz14_
     try clear hcz16_
     try clear hcz19_
     try clear hcz21_
     try clear hcz24_
     try clear hcz26_
     try clear hcz29_
     try clear hcz31_
     try clear hcz34_
     try clear hcz36_
     try clear hcz38_
     try clear hcz40_
     try clear hcz48_
     try clear hcz50_
     try clear p2
     obtain ⟨kq, x71_46, rfl, HA, HJ46, HO_11, HO_13, BK332, HB⟩ := hcut
     cases kq with
     | zero => exact absurd HA.out (by simp [posthornlaw23_SeriesWider.j1])
     | succ kj46 =>
      have H := HA.out
      clear HA
      simp only [posthornlaw23_SeriesWider.j1] at H
      by_cases c53 : x71_46 = true
      ·subst c53
       have H1 := ifp_ H
       clear H
       have H := H1
       clear H1
       replace H := Option.bind_eq_some_iff.mp H
       obtain ⟨t344, A540, H⟩ := H
       try dsimp only at H
       have A54 := Aside0.mk A540
       clear A540
       obtain rfl := Option.some.inj H
       go_wp2_with (first | (go_at_call 8; (with_reducible refine (posthornlaw23_alive.calls kj46  t344 _ A54.out).mono ?_); rintro e w55 ⟨rfl, hb⟩; have n0_ := ad_ (Kd.R_below (rod_ HO_11) hb); have n1_ := ad_ (Kd.R_below (rod_ HO_13) hb); have n2_ := ad_ (blk_below (g := gb332) (o := .cells #[.int .i64 a0_0, .int .i64 a0_1, .bool a0_2, .int .i64 a0_3, .int .i64 a0_4, .int .i64 a0_5, .int .i64 a0_6, .slice A0_7 l0_7.length c0_7, .slice A0_8 l0_8.length c0_8, .slice A0_9 l0_9.length c0_9, .slice A0_10 l0_10.length c0_10, .slice A0_11 l0_11.length c0_11, .slice A0_12 l0_12.length c0_12] 29 (0, 0)) (blo_ BK332.out) hb); have n3_ := ad_ (below_step belg_ hb); clear HO_11; clear HO_13; clear BK332; clear HB; have HO_11 := n0_; have HO_13 := n1_; have BK332 := n2_; have HB := n3_; clear n0_ n1_ n2_ n3_; (try clear hb); (try clear hb2); (try clear hk); (try clear hi)))
       repeat (go_quiet (first | (go_at_call 8; (with_reducible refine (posthornlaw23_alive.calls kj46  t344 _ A54.out).mono ?_); rintro e w55 ⟨rfl, hb⟩; have n0_ := ad_ (Kd.R_below (rod_ HO_11) hb); have n1_ := ad_ (Kd.R_below (rod_ HO_13) hb); have n2_ := ad_ (blk_below (g := gb332) (o := .cells #[.int .i64 a0_0, .int .i64 a0_1, .bool a0_2, .int .i64 a0_3, .int .i64 a0_4, .int .i64 a0_5, .int .i64 a0_6, .slice A0_7 l0_7.length c0_7, .slice A0_8 l0_8.length c0_8, .slice A0_9 l0_9.length c0_9, .slice A0_10 l0_10.length c0_10, .slice A0_11 l0_11.length c0_11, .slice A0_12 l0_12.length c0_12] 29 (0, 0)) (blo_ BK332.out) hb); have n3_ := ad_ (below_step belg_ hb); clear HO_11; clear HO_13; clear BK332; clear HB; have HO_11 := n0_; have HO_13 := n1_; have BK332 := n2_; have HB := n3_; clear n0_ n1_ n2_ n3_; (try clear hb); (try clear hb2); (try clear hk); (try clear hi))); try go_wp2_with (first | (go_at_call 8; (with_reducible refine (posthornlaw23_alive.calls kj46  t344 _ A54.out).mono ?_); rintro e w55 ⟨rfl, hb⟩; have n0_ := ad_ (Kd.R_below (rod_ HO_11) hb); have n1_ := ad_ (Kd.R_below (rod_ HO_13) hb); have n2_ := ad_ (blk_below (g := gb332) (o := .cells #[.int .i64 a0_0, .int .i64 a0_1, .bool a0_2, .int .i64 a0_3, .int .i64 a0_4, .int .i64 a0_5, .int .i64 a0_6, .slice A0_7 l0_7.length c0_7, .slice A0_8 l0_8.length c0_8, .slice A0_9 l0_9.length c0_9, .slice A0_10 l0_10.length c0_10, .slice A0_11 l0_11.length c0_11, .slice A0_12 l0_12.length c0_12] 29 (0, 0)) (blo_ BK332.out) hb); have n3_ := ad_ (below_step belg_ hb); clear HO_11; clear HO_13; clear BK332; clear HB; have HO_11 := n0_; have HO_13 := n1_; have BK332 := n2_; have HB := n3_; clear n0_ n1_ n2_ n3_; (try clear hb); (try clear hb2); (try clear hk); (try clear hi))))
       go_ret
       exact ⟨ret_, belg_⟩
      ·as_aux_lemma =>
       replace c53 := Bool.eq_false_iff.mpr c53
       subst c53
       have H1 := ifn_ H
       clear H
       have H := H1
       clear H1
       have H' := Aside0.mk H
       clear H
       go_wp2
       repeat (go_quiet (fail); try go_wp2)
       go_loopg [15] kj46 (fun kq v15 w' => ∃ (x15_3 : Int), v15 = .int .i64 x15_3 ∧ Aside0 (posthornlaw23_SeriesWider.l0 kq t336 t340 x15_3 = some r) ∧ Aside0 (kq ≤ kj46) ∧ Aside0 (Kd.R k37 37 w' w.heap.size (fun k_ => some k_ ≠ (v341 : Value).ownBlock) v337 t336) ∧ Aside0 (Kd.R k37 37 w' w.heap.size (fun k_ => some k_ ≠ (v337 : Value).ownBlock) v341 t340) ∧ Aside0 (w'.heap[gb332]? = some (.cells #[.int .i64 a0_0, .int .i64 a0_1, .bool a0_2, .int .i64 a0_3, .int .i64 a0_4, .int .i64 a0_5, .int .i64 a0_6, (.slice A0_7 l0_7.length c0_7), (.slice A0_8 l0_8.length c0_8), (.slice A0_9 l0_9.length c0_9), (.slice A0_10 l0_10.length c0_10), (.slice A0_11 l0_11.length c0_11), (.slice A0_12 l0_12.length c0_12)] 29 (0, 0))) ∧ Aside0 (Below w.heap.size w w'))
       case atStart => exact ⟨(0), val_, H', ⟨Nat.le_refl _⟩, ⟨rod_ HO_11⟩, ⟨rod_ HO_13⟩, ⟨blo_ BK332.out⟩, ⟨belg_⟩⟩
       case round =>
        as_aux_lemma =>
        clear H'
        try clear c1
        try clear c2
        try clear p2
        try clear c3
        try clear c4
        try clear c5
        try clear p6
        try clear c9
        try clear c13
        try clear c18
        try clear c18b0
        try clear c23
        try clear c23b0
        try clear c28
        try clear c28b0
        try clear c33
        try clear c33b0
        try clear c42
        try clear c52
        try clear c52b0
        try clear c52b1
        try clear c53
        try clear hcz10_
        try clear hcz14_
        try clear hcz16_
        try clear hcz19_
        try clear hcz21_
        try clear hcz24_
        try clear hcz26_
        try clear hcz29_
        try clear hcz31_
        try clear hcz34_
        try clear hcz36_
        try clear hcz38_
        try clear hcz40_
        try clear hcz48_
        try clear hcz50_
        try clear p2
        try clear p6
        obtain ⟨x15_3, rfl, HA, HK3, HO_11, HO_13, BK332, HB⟩ := hrel
        cases gk with
        | zero => exact absurd HA.out (by simp [posthornlaw23_SeriesWider.l0])
        | succ k3 =>
         have H := HA.out
         clear HA
         simp only [posthornlaw23_SeriesWider.l0] at H
         by_cases c56 : x15_3 < (t336.length : Int)
         ·as_aux_lemma =>
          rw [if_pos c56] at H
          have c56b0 : decide (x15_3 < (t336.length : Int)) = true := decide_eq_true c56
          clear c56
          have H' := Aside0.mk H
          clear H
          obtain ⟨Ao57, co57, eo57⟩ := Kd.R_slice HO_11.out
          subst eo57
          go_wp2
          repeat (go_quiet (fail); try go_wp2)
          go_loopg [16, 17] k3 (fun kq v16 v17 w' => ∃ (x16_4 : Bool) (x17_4 : Int), v16 = .bool x16_4 ∧ v17 = .int .i64 x17_4 ∧ Aside0 (posthornlaw23_SeriesWider.l1 kq t336 t340 x15_3 x16_4 x17_4 = some r) ∧ Aside0 (kq ≤ k3) ∧ Aside0 (Kd.R k37 37 w' w.heap.size (fun k_ => some k_ ≠ (v341 : Value).ownBlock) (.slice Ao57 t336.length co57) t336) ∧ Aside0 (Kd.R k37 37 w' w.heap.size (fun k_ => some k_ ≠ ((.slice Ao57 t336.length co57) : Value).ownBlock) v341 t340) ∧ Aside0 (w'.heap[gb332]? = some (.cells #[.int .i64 a0_0, .int .i64 a0_1, .bool a0_2, .int .i64 a0_3, .int .i64 a0_4, .int .i64 a0_5, .int .i64 a0_6, (.slice A0_7 l0_7.length c0_7), (.slice A0_8 l0_8.length c0_8), (.slice A0_9 l0_9.length c0_9), (.slice A0_10 l0_10.length c0_10), (.slice A0_11 l0_11.length c0_11), (.slice A0_12 l0_12.length c0_12)] 29 (0, 0))) ∧ Aside0 (Below w.heap.size w w'))
          case atStart => exact ⟨(false), (0), val_, val_, H', ⟨Nat.le_refl _⟩, ⟨rod_ HO_11⟩, ⟨rod_ HO_13⟩, ⟨blo_ BK332.out⟩, ⟨belg_⟩⟩
          case round =>
           as_aux_lemma =>
           clear H'
           try clear c1
           try clear c2
           try clear p2
           try clear c3
           try clear c4
           try clear c5
           try clear p6
           try clear c9
           try clear c13
           try clear c18
           try clear c18b0
           try clear c23
           try clear c23b0
           try clear c28
           try clear c28b0
           try clear c33
           try clear c33b0
           try clear c42
           try clear c52
           try clear c52b0
           try clear c52b1
           try clear c53
           try clear c56
           try clear c56b0
           try clear hcz10_
           try clear hcz14_
           try clear hcz16_
           try clear hcz19_
           try clear hcz21_
           try clear hcz24_
           try clear hcz26_
           try clear hcz29_
           try clear hcz31_
           try clear hcz34_
           try clear hcz36_
           try clear hcz38_
           try clear hcz40_
           try clear hcz48_
           try clear hcz50_
           try clear p2
           try clear p6
           obtain ⟨x16_4, x17_4, rfl, rfl, HA, HK4, HO_11, HO_13, BK332, HB⟩ := hrel
           cases gk with
           | zero => exact absurd HA.out (by simp [posthornlaw23_SeriesWider.l1])
           | succ k4 =>
            have H := HA.out
            clear HA
            simp only [posthornlaw23_SeriesWider.l1] at H
            by_cases c58 : x17_4 < (t340.length : Int)
            ·rw [if_pos c58] at H
             have c58b0 : decide (x17_4 < (t340.length : Int)) = true := decide_eq_true c58
             clear c58
             by_cases c59 : x16_4 = true
             ·subst c59
              have H1 := ifp_ H
              clear H
              have H := H1
              clear H1
              have H' := Aside0.mk H
              clear H
              obtain ⟨Ao60, co60, eo60⟩ := Kd.R_slice HO_13.out
              subst eo60
              go_wp2
              repeat (go_quiet (fail); try go_wp2)
              go_roundg k4
              case measure => have := HJ5.out; have := HJ46.out; have := HK3.out; have := HK4.out; omega
              case rel => exact ⟨(true), (wrap64 (x17_4 + 1)), val_, val_, H', ⟨by have := HJ5.out; have := HJ46.out; have := HK3.out; have := HK4.out; omega⟩, ⟨rod_ HO_11⟩, ⟨rod_ HO_13⟩, ⟨blo_ BK332.out⟩, ⟨belg_⟩⟩
             ·replace c59 := Bool.eq_false_iff.mpr c59
              subst c59
              have H1 := ifn_ H
              clear H
              have H := H1
              clear H1
              by_cases c61 : 0 ≤ x15_3
              ·rw [if_pos c61] at H
               have c61b0 : decide (0 ≤ x15_3) = true := decide_eq_true c61
               clear c61
               by_cases c62 : x15_3 < (t336.length : Int)
               ·rw [if_pos c62] at H
                have c62b0 : decide (x15_3 < (t336.length : Int)) = true := decide_eq_true c62
                clear c62
                by_cases c63 : 0 ≤ x17_4
                ·rw [if_pos c63] at H
                 have c63b0 : decide (0 ≤ x17_4) = true := decide_eq_true c63
                 clear c63
                 have H' := Aside0.mk H
                 clear H
                 obtain ⟨Ao64, co64, eo64⟩ := Kd.R_slice HO_13.out
                 subst eo64
                 have p346 : 0 ≤ (x15_3 : Int) := dec_
                 have q346 : x15_3 < (t336.length : Int) := dec_
                 obtain ⟨ad346, e346, hx346_0, hx346_1, hx346_2, hx346_3⟩ := at_T37 (Kd.R_reads' HO_11.out).2.2 x15_3 p346 q346
                 cases e346
                 replace p346 := eq_true p346
                 replace q346 := eq_true q346
                 have p347 : 0 ≤ (x17_4 : Int) := dec_
                 have q347 : x17_4 < (t340.length : Int) := dec_
                 obtain ⟨ad347, e347, hx347_0, hx347_1, hx347_2, hx347_3⟩ := at_T37 (Kd.R_reads' HO_13.out).2.2 x17_4 p347 q347
                 cases e347
                 replace p347 := eq_true p347
                 replace q347 := eq_true q347
                 go_wp2
                 repeat (go_quiet (fail); try go_wp2)
                 go_roundg k4
                 case measure => have := HJ5.out; have := HJ46.out; have := HK3.out; have := HK4.out; omega
                 case rel => exact ⟨((((rd_T37 t336 x15_3).f0) == ((rd_T37 t340 x17_4).f0) && (((rd_T37 t336 x15_3).f1) == ((rd_T37 t340 x17_4).f1) && (((rd_T37 t336 x15_3).f2) == ((rd_T37 t340 x17_4).f2) && (((rd_T37 t336 x15_3).f3) == ((rd_T37 t340 x17_4).f3)))))), (wrap64 (x17_4 + 1)), val_, val_, H', ⟨by have := HJ5.out; have := HJ46.out; have := HK3.out; have := HK4.out; omega⟩, ⟨rod_ HO_11⟩, ⟨rod_ HO_13⟩, ⟨blo_ BK332.out⟩, ⟨belg_⟩⟩
                ·rw [if_neg c63] at H
                 exact absurd H (by simp)
               ·rw [if_neg c62] at H
                exact absurd H (by simp)
              ·rw [if_neg c61] at H
               exact absurd H (by simp)
            ·rw [if_neg c58] at H
             have c58b0 : decide (x17_4 < (t340.length : Int)) = false := decide_eq_false c58
             clear c58
             by_cases c65 : x16_4 = true
             ·subst c65
              have H1 := ifp_ H
              clear H
              have H := H1
              clear H1
              have H' := Aside0.mk H
              clear H
              obtain ⟨Ao66, co66, eo66⟩ := Kd.R_slice HO_13.out
              subst eo66
              go_wp2
              repeat (go_quiet (fail); try go_wp2)
              go_roundg k4
              case measure => have := HJ5.out; have := HJ46.out; have := HK3.out; have := HK4.out; omega
              case rel => exact ⟨(wrap64 (x15_3 + 1)), val_, H', ⟨by have := HJ5.out; have := HJ46.out; have := HK3.out; have := HK4.out; omega⟩, ⟨rod_ HO_11⟩, ⟨rod_ HO_13⟩, ⟨blo_ BK332.out⟩, ⟨belg_⟩⟩
             ·replace c65 := Bool.eq_false_iff.mpr c65
              subst c65
              have H1 := ifn_ H
              clear H
              have H := H1
              clear H1
              exact absurd (Option.some.inj H) (by rw [hr_.out]; decide)
         ·rw [if_neg c56] at H
          have c56b0 : decide (x15_3 < (t336.length : Int)) = false := decide_eq_false c56
          clear c56
          replace H := Option.bind_eq_some_iff.mp H
          obtain ⟨t345, A670, H⟩ := H
          try dsimp only at H
          have A67 := Aside0.mk A670
          clear A670
          obtain rfl := Option.some.inj H
          obtain ⟨Ao68, co68, eo68⟩ := Kd.R_slice HO_11.out
          subst eo68
          go_wp2_with (first | (go_at_call 8; (with_reducible refine (posthornlaw23_alive.calls k3  t345 _ A67.out).mono ?_); rintro e w69 ⟨rfl, hb⟩; have n0_ := ad_ (Kd.R_below (rod_ HO_11) hb); have n1_ := ad_ (Kd.R_below (rod_ HO_13) hb); have n2_ := ad_ (blk_below (g := gb332) (o := .cells #[.int .i64 a0_0, .int .i64 a0_1, .bool a0_2, .int .i64 a0_3, .int .i64 a0_4, .int .i64 a0_5, .int .i64 a0_6, .slice A0_7 l0_7.length c0_7, .slice A0_8 l0_8.length c0_8, .slice A0_9 l0_9.length c0_9, .slice A0_10 l0_10.length c0_10, .slice A0_11 l0_11.length c0_11, .slice A0_12 l0_12.length c0_12] 29 (0, 0)) (blo_ BK332.out) hb); have n3_ := ad_ (below_step belg_ hb); clear HO_11; clear HO_13; clear BK332; clear HB; have HO_11 := n0_; have HO_13 := n1_; have BK332 := n2_; have HB := n3_; clear n0_ n1_ n2_ n3_; (try clear hb); (try clear hb2); (try clear hk); (try clear hi)))
          repeat (go_quiet (first | (go_at_call 8; (with_reducible refine (posthornlaw23_alive.calls k3  t345 _ A67.out).mono ?_); rintro e w69 ⟨rfl, hb⟩; have n0_ := ad_ (Kd.R_below (rod_ HO_11) hb); have n1_ := ad_ (Kd.R_below (rod_ HO_13) hb); have n2_ := ad_ (blk_below (g := gb332) (o := .cells #[.int .i64 a0_0, .int .i64 a0_1, .bool a0_2, .int .i64 a0_3, .int .i64 a0_4, .int .i64 a0_5, .int .i64 a0_6, .slice A0_7 l0_7.length c0_7, .slice A0_8 l0_8.length c0_8, .slice A0_9 l0_9.length c0_9, .slice A0_10 l0_10.length c0_10, .slice A0_11 l0_11.length c0_11, .slice A0_12 l0_12.length c0_12] 29 (0, 0)) (blo_ BK332.out) hb); have n3_ := ad_ (below_step belg_ hb); clear HO_11; clear HO_13; clear BK332; clear HB; have HO_11 := n0_; have HO_13 := n1_; have BK332 := n2_; have HB := n3_; clear n0_ n1_ n2_ n3_; (try clear hb); (try clear hb2); (try clear hk); (try clear hi))); try go_wp2_with (first | (go_at_call 8; (with_reducible refine (posthornlaw23_alive.calls k3  t345 _ A67.out).mono ?_); rintro e w69 ⟨rfl, hb⟩; have n0_ := ad_ (Kd.R_below (rod_ HO_11) hb); have n1_ := ad_ (Kd.R_below (rod_ HO_13) hb); have n2_ := ad_ (blk_below (g := gb332) (o := .cells #[.int .i64 a0_0, .int .i64 a0_1, .bool a0_2, .int .i64 a0_3, .int .i64 a0_4, .int .i64 a0_5, .int .i64 a0_6, .slice A0_7 l0_7.length c0_7, .slice A0_8 l0_8.length c0_8, .slice A0_9 l0_9.length c0_9, .slice A0_10 l0_10.length c0_10, .slice A0_11 l0_11.length c0_11, .slice A0_12 l0_12.length c0_12] 29 (0, 0)) (blo_ BK332.out) hb); have n3_ := ad_ (below_step belg_ hb); clear HO_11; clear HO_13; clear BK332; clear HB; have HO_11 := n0_; have HO_13 := n1_; have BK332 := n2_; have HB := n3_; clear n0_ n1_ n2_ n3_; (try clear hb); (try clear hb2); (try clear hk); (try clear hi))))
          go_ret
          exact ⟨ret_, belg_⟩

end Go.Proofs.Ytkgkblmeafhkfaa.PS

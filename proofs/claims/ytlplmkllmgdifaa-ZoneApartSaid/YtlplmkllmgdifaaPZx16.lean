-- Written by a program of the session (wip/tools).
import Derived.Test.YtlplmkllmgdifaaPZx0
import Derived.Test.YtlplmkllmgdifaaPZx1
import Derived.Test.YtlplmkllmgdifaaPZx12
import Derived.Test.YtlplmkllmgdifaaPZx15
namespace Go.Proofs.Ytlplmkllmgdifaa.PZ
open Go.RowKit Go.Proofs.YtlplmkllmgdifaaW.PrintWords Go.Proofs.YtlplmkllmgdifaaW.PrintLast Go.Proofs.YtlplmkllmgdifaaW.PrintMore
attribute [local go_sem] max2_int min2_int max_two min_two max_three min_three max_four min_four   -- for this text's walks alone
set_option linter.unusedVariables false
set_option linter.unusedSimpArgs false

/-! ### posthornlaw22_ZoneApart: function 4 -/
mutual
def posthornlaw22_ZoneApart.j0 : Nat → Int → Int → Bool → ByteArray → Int → List (S42) → Option (Bool)
 | 0, _, _, _, _, _, _ => none
 | k + 1, x1, x2, x25, x339000, x339001, x339002 => if x25 = true then ((posthornlaw22_alive.f k).bind fun t341 => (some t341)) else ((zone_Shift.f k x339000 x339001 x339002 x1).bind fun bt342 => ((zone_Shift.f k x339000 x339001 x339002 x2).bind fun bt344 => ((zone_Local.f k x339000 x339001 x339002 x1).bind fun bt346 => ((zone_Local.f k x339000 x339001 x339002 x2).bind fun bt348 => (if bt342.2 = 0 then (posthornlaw22_ZoneApart.j1 k x1 x2 bt342.1 bt344.1 bt346.1 bt346.2 bt348.1 bt348.2 (bt344.2 != 0) x339000 x339001 x339002) else (posthornlaw22_ZoneApart.j1 k x1 x2 bt342.1 bt344.1 bt346.1 bt346.2 bt348.1 bt348.2 true x339000 x339001 x339002))))))
def posthornlaw22_ZoneApart.j1 : Nat → Int → Int → Int → Int → Int → Int → Int → Int → Bool → ByteArray → Int → List (S42) → Option (Bool)
 | 0, _, _, _, _, _, _, _, _, _, _, _, _ => none
 | k + 1, x1, x2, x7, x9, x11, x12, x13, x14, x56, x339000, x339001, x339002 => if x56 = true then ((posthornlaw22_alive.f k).bind fun t350 => (some t350)) else (posthornlaw22_ZoneApart.l0 k x1 x2 x7 x9 x11 x12 x13 x14 true (x7 == x339001) 0 x339000 x339001 x339002)
def posthornlaw22_ZoneApart.l0 : Nat → Int → Int → Int → Int → Int → Int → Int → Int → Bool → Bool → Int → ByteArray → Int → List (S42) → Option (Bool)
 | 0, _, _, _, _, _, _, _, _, _, _, _, _, _, _ => none
 | k + 1, x1, x2, x7, x9, x11, x12, x13, x14, x15, x16, x17, x339000, x339001, x339002 => if x17 < (x339002.length : Int) then (if x15 = true then (if 0 ≤ x17 then (if x16 = true then (posthornlaw22_ZoneApart.l0 k x1 x2 x7 x9 x11 x12 x13 x14 (((rd_T42 x339002 x17).f2) == x339001) true (wrap64 (x17 + 1)) x339000 x339001 x339002) else (posthornlaw22_ZoneApart.l0 k x1 x2 x7 x9 x11 x12 x13 x14 (((rd_T42 x339002 x17).f2) == x339001) (x7 == ((rd_T42 x339002 x17).f2)) (wrap64 (x17 + 1)) x339000 x339001 x339002)) else (none)) else (if x16 = true then (posthornlaw22_ZoneApart.l0 k x1 x2 x7 x9 x11 x12 x13 x14 false true (wrap64 (x17 + 1)) x339000 x339001 x339002) else (if 0 ≤ x17 then (posthornlaw22_ZoneApart.l0 k x1 x2 x7 x9 x11 x12 x13 x14 false (x7 == ((rd_T42 x339002 x17).f2)) (wrap64 (x17 + 1)) x339000 x339001 x339002) else (none)))) else (if x16 = true then (if x15 = true then (if x7 = x339001 then (if x9 = x339001 then ((posthornlaw22_alive.f k).bind fun t354 => (if t354 = true then (if x12 = 0 then (if x14 = 0 then (if x7 = x9 then (some ((wrap64 (x11 - x13)) == (wrap64 (x1 - x2)))) else (some true)) else (some true)) else (some true)) else (some false))) else (some false)) else (some false)) else ((posthornlaw22_alive.f k).bind fun t355 => (if t355 = true then (if x12 = 0 then (if x14 = 0 then (if x7 = x9 then (some ((wrap64 (x11 - x13)) == (wrap64 (x1 - x2)))) else (some true)) else (some true)) else (some true)) else (some false)))) else (some false))
end
def posthornlaw22_ZoneApart.f (k : Nat) (a0_0 : ByteArray) (a0_1 : Int) (l0_2 : List (S42)) (a1 : Int) (a2 : Int) : Option (Bool) := (posthornlaw22_Great.f k a0_0 a0_1 l0_2 a1).bind fun t339 => (if t339 = true then (posthornlaw22_ZoneApart.j0 k a1 a2 true a0_0 a0_1 l0_2) else ((posthornlaw22_Great.f k a0_0 a0_1 l0_2 a2).bind fun t340 => (posthornlaw22_ZoneApart.j0 k a1 a2 t340 a0_0 a0_1 l0_2)))
theorem posthornlaw22_ZoneApart.mono_l : ∀ k, (∀ y0 y1 y2 y3 y4 y5, LeO (posthornlaw22_ZoneApart.j0 k y0 y1 y2 y3 y4 y5) (posthornlaw22_ZoneApart.j0 (k + 1) y0 y1 y2 y3 y4 y5)) ∧ (∀ y0 y1 y2 y3 y4 y5 y6 y7 y8 y9 y10 y11, LeO (posthornlaw22_ZoneApart.j1 k y0 y1 y2 y3 y4 y5 y6 y7 y8 y9 y10 y11) (posthornlaw22_ZoneApart.j1 (k + 1) y0 y1 y2 y3 y4 y5 y6 y7 y8 y9 y10 y11)) ∧ (∀ y0 y1 y2 y3 y4 y5 y6 y7 y8 y9 y10 y11 y12 y13, LeO (posthornlaw22_ZoneApart.l0 k y0 y1 y2 y3 y4 y5 y6 y7 y8 y9 y10 y11 y12 y13) (posthornlaw22_ZoneApart.l0 (k + 1) y0 y1 y2 y3 y4 y5 y6 y7 y8 y9 y10 y11 y12 y13))
 | 0 => ⟨fun _ _ _ _ _ _ r h => by simp [posthornlaw22_ZoneApart.j0] at h, fun _ _ _ _ _ _ _ _ _ _ _ _ r h => by simp [posthornlaw22_ZoneApart.j1] at h, fun _ _ _ _ _ _ _ _ _ _ _ _ _ _ r h => by simp [posthornlaw22_ZoneApart.l0] at h⟩
 | k + 1 => by
  obtain ⟨ih0, ih1, ih2⟩ := posthornlaw22_ZoneApart.mono_l k
  refine ⟨?_, ?_, ?_⟩
  all_goals
   intros
   first | unfold posthornlaw22_ZoneApart.j0 | unfold posthornlaw22_ZoneApart.j1 | unfold posthornlaw22_ZoneApart.l0
   repeat' first
   | (with_reducible exact ih0 ..)
   | (with_reducible exact ih1 ..)
   | (with_reducible exact ih2 ..)
   | (with_reducible exact posthornlaw22_Great.mono ..)
   | (with_reducible exact posthornlaw22_alive.mono ..)
   | (with_reducible exact zone_Local.mono ..)
   | (with_reducible exact zone_Shift.mono ..)
   | (with_reducible exact LeO.refl ..)
   | (with_reducible exact LeO.none ..)
   | (with_reducible refine LeO.ite ?_ ?_)
   | (with_reducible refine LeO.bind ?_ (fun _ => ?_))
   | exact ih0 ..
   | exact ih1 ..
   | exact ih2 ..
   | exact posthornlaw22_Great.mono ..
   | exact posthornlaw22_alive.mono ..
   | exact zone_Local.mono ..
   | exact zone_Shift.mono ..
   | exact LeO.none ..
   | refine LeO.ite ?_ ?_
   | refine LeO.bind ?_ (fun _ => ?_)
theorem posthornlaw22_ZoneApart.mono : ∀ a0 a1 a2 a3 a4 k, LeO (posthornlaw22_ZoneApart.f k a0 a1 a2 a3 a4) (posthornlaw22_ZoneApart.f (k + 1) a0 a1 a2 a3 a4) := by
 intro a0 a1 a2 a3 a4 k
 obtain ⟨ih0, ih1, ih2⟩ := posthornlaw22_ZoneApart.mono_l k
 unfold posthornlaw22_ZoneApart.f
 repeat' first
   | (with_reducible exact ih0 ..)
   | (with_reducible exact ih1 ..)
   | (with_reducible exact ih2 ..)
   | (with_reducible exact posthornlaw22_Great.mono ..)
   | (with_reducible exact posthornlaw22_alive.mono ..)
   | (with_reducible exact zone_Local.mono ..)
   | (with_reducible exact zone_Shift.mono ..)
   | (with_reducible exact LeO.refl ..)
   | (with_reducible exact LeO.none ..)
   | (with_reducible refine LeO.ite ?_ ?_)
   | (with_reducible refine LeO.bind ?_ (fun _ => ?_))
   | exact ih0 ..
   | exact ih1 ..
   | exact ih2 ..
   | exact posthornlaw22_Great.mono ..
   | exact posthornlaw22_alive.mono ..
   | exact zone_Local.mono ..
   | exact zone_Shift.mono ..
   | exact LeO.none ..
   | refine LeO.ite ?_ ?_
   | refine LeO.bind ?_ (fun _ => ?_)
set_option maxHeartbeats 8000000 in
set_option maxRecDepth 100000 in
theorem posthornlaw22_ZoneApart.calls (k : Nat) (a0_0 : ByteArray) (a0_1 : Int) (A0_2 : Option Addr) (c0_2 : Nat) (l0_2 : List (S42)) (a1 : Int) (a2 : Int) (r : Bool) (w : World) (hr0_2 : Kd.C k42 w A0_2 l0_2.length l0_2) (hc0_2 : l0_2.length ≤ c0_2) (h : posthornlaw22_ZoneApart.f k a0_0 a0_1 l0_2 a1 a2 = some r) (hr_ : Aside0 (r = true) := by first | exact ⟨rfl⟩ | assumption) :
  Calls Try.prog 4 #[.agg #[.string a0_0, .int .i64 a0_1, .slice A0_2 l0_2.length c0_2], .int .i64 a1, .int .i64 a2] w fun e w' => e = .returned (.bool r) ∧ Below w.heap.size w w' := by
 have hu24 := Try.underlying24
 have HR0_2 := Aside0.mk hr0_2
 have HC0_2 := Aside0.mk hc0_2
 clear hr0_2 hc0_2
 have HB := Aside0.mk (Below.refl w.heap.size w)
 have H : ((posthornlaw22_Great.f k a0_0 a0_1 l0_2 a1).bind fun t339 => (if t339 = true then (posthornlaw22_ZoneApart.j0 k a1 a2 true a0_0 a0_1 l0_2) else ((posthornlaw22_Great.f k a0_0 a0_1 l0_2 a2).bind fun t340 => (posthornlaw22_ZoneApart.j0 k a1 a2 t340 a0_0 a0_1 l0_2)))) = some r := h
 clear h
 have HC4 := Aside0.mk H
 clear H
 go_enter Try.func4, Try.ntmps4
 go_upto_region 1 with (first | ((with_reducible refine gate_dst (N := 3) rfl ?_); refine box_event ?hg (N := 3) ?hd (cs := #[.string a0_0, .int .i64 a0_1, .slice A0_2 l0_2.length c0_2]) (t := 24) ?hr ?_; (case hd => rfl); (case hg => rfl); (case hr => first | (go_simp; done) | (go_simp; rfl)); intro gb338 hg w5 hbox hb; have n0_ := Aside0.mk (below_step bel_ hb); have n1_ := Aside0.mk (hbox); have n2_ := Aside0.mk ((by rw [hg]; exact (below_size bel_) : w.heap.size ≤ gb338)); have n3_ := Aside0.mk ((by rw [hg]; exact (below_size bel_) : w.heap.size ≤ gb338)); clear HB; have HB := n0_; have BK338 := n1_; have GW338 := n2_; have GE338 := n3_; clear n0_ n1_ n2_ n3_; clear hb hbox hg))
 repeat (go_quiet (first | ((with_reducible refine gate_dst (N := 3) rfl ?_); refine box_event ?hg (N := 3) ?hd (cs := #[.string a0_0, .int .i64 a0_1, .slice A0_2 l0_2.length c0_2]) (t := 24) ?hr ?_; (case hd => rfl); (case hg => rfl); (case hr => first | (go_simp; done) | (go_simp; rfl)); intro gb338 hg w5 hbox hb; have n0_ := Aside0.mk (below_step bel_ hb); have n1_ := Aside0.mk (hbox); have n2_ := Aside0.mk ((by rw [hg]; exact (below_size bel_) : w.heap.size ≤ gb338)); have n3_ := Aside0.mk ((by rw [hg]; exact (below_size bel_) : w.heap.size ≤ gb338)); clear HB; have HB := n0_; have BK338 := n1_; have GW338 := n2_; have GE338 := n3_; clear n0_ n1_ n2_ n3_; clear hb hbox hg)); go_upto_region 1 with (first | ((with_reducible refine gate_dst (N := 3) rfl ?_); refine box_event ?hg (N := 3) ?hd (cs := #[.string a0_0, .int .i64 a0_1, .slice A0_2 l0_2.length c0_2]) (t := 24) ?hr ?_; (case hd => rfl); (case hg => rfl); (case hr => first | (go_simp; done) | (go_simp; rfl)); intro gb338 hg w5 hbox hb; have n0_ := Aside0.mk (below_step bel_ hb); have n1_ := Aside0.mk (hbox); have n2_ := Aside0.mk ((by rw [hg]; exact (below_size bel_) : w.heap.size ≤ gb338)); have n3_ := Aside0.mk ((by rw [hg]; exact (below_size bel_) : w.heap.size ≤ gb338)); clear HB; have HB := n0_; have BK338 := n1_; have GW338 := n2_; have GE338 := n3_; clear n0_ n1_ n2_ n3_; clear hb hbox hg)))
 (try simp only [Act.put, List.setIfInBounds_toArray, List.set_cons_zero, List.set_cons_succ])
 go_cut [25] (fun v25 wc => ∃ (kq : Nat) (x25_3 : Bool), v25 = .bool x25_3 ∧ Aside0 (posthornlaw22_ZoneApart.j0 kq a1 a2 x25_3 a0_0 a0_1 l0_2 = some r) ∧ Aside0 (kq ≤ k) ∧ Aside0 (wc.heap[gb338]? = some (.cells #[.string a0_0, .int .i64 a0_1, (.slice A0_2 l0_2.length c0_2)] 24 (0, 0))) ∧ Aside0 (Below w.heap.size w wc))
 case first =>
  have H := HC4.out
  clear HC4
  replace H := Option.bind_eq_some_iff.mp H
  obtain ⟨t339, A60, H⟩ := H
  replace H : (if t339 = true then (posthornlaw22_ZoneApart.j0 k a1 a2 true a0_0 a0_1 l0_2) else ((posthornlaw22_Great.f k a0_0 a0_1 l0_2 a2).bind fun t340 => (posthornlaw22_ZoneApart.j0 k a1 a2 t340 a0_0 a0_1 l0_2))) = some r := H
  have A6 := Aside0.mk A60
  clear A60
  by_cases c7 : t339 = true
  ·subst c7
   have H1 : (posthornlaw22_ZoneApart.j0 k a1 a2 true a0_0 a0_1 l0_2) = some r := by rw [if_pos rfl] at H; exact H
   clear H
   have H := H1
   clear H1
   have H' := Aside0.mk H
   clear H
   have hcz8_ := cells3_ BK338.out
   go_wp2_with (first | (go_at_call 8; (with_reducible refine (posthornlaw22_Great.calls k a0_0 a0_1 _ _ l0_2 a1 true _ ?side1 ?side2 A6.out).mono ?_); (case side1 => repeat (first | exact (Kd.C_below HR0_2.out HB.out) | (with_reducible refine Kd.C_alloc ?_ _) | (with_reducible refine Kd.C_drewN ?_ _) | (with_reducible refine Kd.C_drew ?_))); (case side2 => exact HC0_2.out); rintro e w9 ⟨rfl, hb⟩; have n0_ := Aside0.mk (blk_below (g := gb338) (o := .cells #[.string a0_0, .int .i64 a0_1, .slice A0_2 l0_2.length c0_2] 24 (0, 0)) (by (with_reducible repeat (first | refine blk_drewN ?_ _ | refine blk_drew ?_ | refine blk_alloc ?_ _)); exact BK338.out) hb); have n1_ := Aside0.mk (below_step (by repeat (first | (with_reducible first | exact HB.out | apply below_alloc | apply pw_below_drewN | apply below_drew1 | refine below_set ?_ GE338.out) | exact HB.out)) hb); clear BK338; clear HB; have BK338 := n0_; have HB := n1_; clear n0_ n1_; (try clear hb); (try clear hb2); (try clear hk); (try clear hi)))
   repeat (go_quiet (first | (go_at_call 8; (with_reducible refine (posthornlaw22_Great.calls k a0_0 a0_1 _ _ l0_2 a1 true _ ?side1 ?side2 A6.out).mono ?_); (case side1 => repeat (first | exact (Kd.C_below HR0_2.out HB.out) | (with_reducible refine Kd.C_alloc ?_ _) | (with_reducible refine Kd.C_drewN ?_ _) | (with_reducible refine Kd.C_drew ?_))); (case side2 => exact HC0_2.out); rintro e w9 ⟨rfl, hb⟩; have n0_ := Aside0.mk (blk_below (g := gb338) (o := .cells #[.string a0_0, .int .i64 a0_1, .slice A0_2 l0_2.length c0_2] 24 (0, 0)) (by (with_reducible repeat (first | refine blk_drewN ?_ _ | refine blk_drew ?_ | refine blk_alloc ?_ _)); exact BK338.out) hb); have n1_ := Aside0.mk (below_step (by repeat (first | (with_reducible first | exact HB.out | apply below_alloc | apply pw_below_drewN | apply below_drew1 | refine below_set ?_ GE338.out) | exact HB.out)) hb); clear BK338; clear HB; have BK338 := n0_; have HB := n1_; clear n0_ n1_; (try clear hb); (try clear hb2); (try clear hk); (try clear hi))); try go_wp2_with (first | (go_at_call 8; (with_reducible refine (posthornlaw22_Great.calls k a0_0 a0_1 _ _ l0_2 a1 true _ ?side1 ?side2 A6.out).mono ?_); (case side1 => repeat (first | exact (Kd.C_below HR0_2.out HB.out) | (with_reducible refine Kd.C_alloc ?_ _) | (with_reducible refine Kd.C_drewN ?_ _) | (with_reducible refine Kd.C_drew ?_))); (case side2 => exact HC0_2.out); rintro e w9 ⟨rfl, hb⟩; have n0_ := Aside0.mk (blk_below (g := gb338) (o := .cells #[.string a0_0, .int .i64 a0_1, .slice A0_2 l0_2.length c0_2] 24 (0, 0)) (by (with_reducible repeat (first | refine blk_drewN ?_ _ | refine blk_drew ?_ | refine blk_alloc ?_ _)); exact BK338.out) hb); have n1_ := Aside0.mk (below_step (by repeat (first | (with_reducible first | exact HB.out | apply below_alloc | apply pw_below_drewN | apply below_drew1 | refine below_set ?_ GE338.out) | exact HB.out)) hb); clear BK338; clear HB; have BK338 := n0_; have HB := n1_; clear n0_ n1_; (try clear hb); (try clear hb2); (try clear hk); (try clear hi))))
   go_meet
   case rel => exact ⟨_, (true), val_, H', ⟨by first | omega | exact Nat.le_refl _⟩, ⟨by (with_reducible repeat (first | refine blk_drewN ?_ _ | refine blk_drew ?_ | refine blk_alloc ?_ _)); exact BK338.out⟩, ⟨by repeat (first | (with_reducible first | exact HB.out | apply below_alloc | apply pw_below_drewN | apply below_drew1 | refine below_set ?_ GE338.out) | exact HB.out)⟩⟩
  ·replace c7 := Bool.eq_false_iff.mpr c7
   subst c7
   have H1 : ((posthornlaw22_Great.f k a0_0 a0_1 l0_2 a2).bind fun t340 => (posthornlaw22_ZoneApart.j0 k a1 a2 t340 a0_0 a0_1 l0_2)) = some r := by rw [if_neg (show ¬ (false = true) by decide)] at H; exact H
   clear H
   have H := H1
   clear H1
   replace H := Option.bind_eq_some_iff.mp H
   obtain ⟨t340, A100, H⟩ := H
   replace H : (posthornlaw22_ZoneApart.j0 k a1 a2 t340 a0_0 a0_1 l0_2) = some r := H
   have A10 := Aside0.mk A100
   clear A100
   have H' := Aside0.mk H
   clear H
   have hcz11_ := cells3_ BK338.out
   go_wp2_with (first | (go_at_call 8; (with_reducible refine (posthornlaw22_Great.calls k a0_0 a0_1 _ _ l0_2 a1 false _ ?side1 ?side2 A6.out).mono ?_); (case side1 => repeat (first | exact (Kd.C_below HR0_2.out HB.out) | (with_reducible refine Kd.C_alloc ?_ _) | (with_reducible refine Kd.C_drewN ?_ _) | (with_reducible refine Kd.C_drew ?_))); (case side2 => exact HC0_2.out); rintro e w12 ⟨rfl, hb⟩; have n0_ := Aside0.mk (blk_below (g := gb338) (o := .cells #[.string a0_0, .int .i64 a0_1, .slice A0_2 l0_2.length c0_2] 24 (0, 0)) (by (with_reducible repeat (first | refine blk_drewN ?_ _ | refine blk_drew ?_ | refine blk_alloc ?_ _)); exact BK338.out) hb); have n1_ := Aside0.mk (below_step (by repeat (first | (with_reducible first | exact HB.out | apply below_alloc | apply pw_below_drewN | apply below_drew1 | refine below_set ?_ GE338.out) | exact HB.out)) hb); clear BK338; clear HB; have BK338 := n0_; have HB := n1_; clear n0_ n1_; (try clear hb); (try clear hb2); (try clear hk); (try clear hi); have hcz13_ := cells3_ BK338.out) | (go_at_call 8; (with_reducible refine (posthornlaw22_Great.calls k a0_0 a0_1 _ _ l0_2 a2 t340 _ ?side1 ?side2 A10.out).mono ?_); (case side1 => repeat (first | exact (Kd.C_below HR0_2.out HB.out) | (with_reducible refine Kd.C_alloc ?_ _) | (with_reducible refine Kd.C_drewN ?_ _) | (with_reducible refine Kd.C_drew ?_))); (case side2 => exact HC0_2.out); rintro e w14 ⟨rfl, hb⟩; have n0_ := Aside0.mk (blk_below (g := gb338) (o := .cells #[.string a0_0, .int .i64 a0_1, .slice A0_2 l0_2.length c0_2] 24 (0, 0)) (by (with_reducible repeat (first | refine blk_drewN ?_ _ | refine blk_drew ?_ | refine blk_alloc ?_ _)); exact BK338.out) hb); have n1_ := Aside0.mk (below_step (by repeat (first | (with_reducible first | exact HB.out | apply below_alloc | apply pw_below_drewN | apply below_drew1 | refine below_set ?_ GE338.out) | exact HB.out)) hb); clear BK338; clear HB; have BK338 := n0_; have HB := n1_; clear n0_ n1_; (try clear hb); (try clear hb2); (try clear hk); (try clear hi)))
   repeat (go_quiet (first | (go_at_call 8; (with_reducible refine (posthornlaw22_Great.calls k a0_0 a0_1 _ _ l0_2 a1 false _ ?side1 ?side2 A6.out).mono ?_); (case side1 => repeat (first | exact (Kd.C_below HR0_2.out HB.out) | (with_reducible refine Kd.C_alloc ?_ _) | (with_reducible refine Kd.C_drewN ?_ _) | (with_reducible refine Kd.C_drew ?_))); (case side2 => exact HC0_2.out); rintro e w12 ⟨rfl, hb⟩; have n0_ := Aside0.mk (blk_below (g := gb338) (o := .cells #[.string a0_0, .int .i64 a0_1, .slice A0_2 l0_2.length c0_2] 24 (0, 0)) (by (with_reducible repeat (first | refine blk_drewN ?_ _ | refine blk_drew ?_ | refine blk_alloc ?_ _)); exact BK338.out) hb); have n1_ := Aside0.mk (below_step (by repeat (first | (with_reducible first | exact HB.out | apply below_alloc | apply pw_below_drewN | apply below_drew1 | refine below_set ?_ GE338.out) | exact HB.out)) hb); clear BK338; clear HB; have BK338 := n0_; have HB := n1_; clear n0_ n1_; (try clear hb); (try clear hb2); (try clear hk); (try clear hi); have hcz13_ := cells3_ BK338.out) | (go_at_call 8; (with_reducible refine (posthornlaw22_Great.calls k a0_0 a0_1 _ _ l0_2 a2 t340 _ ?side1 ?side2 A10.out).mono ?_); (case side1 => repeat (first | exact (Kd.C_below HR0_2.out HB.out) | (with_reducible refine Kd.C_alloc ?_ _) | (with_reducible refine Kd.C_drewN ?_ _) | (with_reducible refine Kd.C_drew ?_))); (case side2 => exact HC0_2.out); rintro e w14 ⟨rfl, hb⟩; have n0_ := Aside0.mk (blk_below (g := gb338) (o := .cells #[.string a0_0, .int .i64 a0_1, .slice A0_2 l0_2.length c0_2] 24 (0, 0)) (by (with_reducible repeat (first | refine blk_drewN ?_ _ | refine blk_drew ?_ | refine blk_alloc ?_ _)); exact BK338.out) hb); have n1_ := Aside0.mk (below_step (by repeat (first | (with_reducible first | exact HB.out | apply below_alloc | apply pw_below_drewN | apply below_drew1 | refine below_set ?_ GE338.out) | exact HB.out)) hb); clear BK338; clear HB; have BK338 := n0_; have HB := n1_; clear n0_ n1_; (try clear hb); (try clear hb2); (try clear hk); (try clear hi))); try go_wp2_with (first | (go_at_call 8; (with_reducible refine (posthornlaw22_Great.calls k a0_0 a0_1 _ _ l0_2 a1 false _ ?side1 ?side2 A6.out).mono ?_); (case side1 => repeat (first | exact (Kd.C_below HR0_2.out HB.out) | (with_reducible refine Kd.C_alloc ?_ _) | (with_reducible refine Kd.C_drewN ?_ _) | (with_reducible refine Kd.C_drew ?_))); (case side2 => exact HC0_2.out); rintro e w12 ⟨rfl, hb⟩; have n0_ := Aside0.mk (blk_below (g := gb338) (o := .cells #[.string a0_0, .int .i64 a0_1, .slice A0_2 l0_2.length c0_2] 24 (0, 0)) (by (with_reducible repeat (first | refine blk_drewN ?_ _ | refine blk_drew ?_ | refine blk_alloc ?_ _)); exact BK338.out) hb); have n1_ := Aside0.mk (below_step (by repeat (first | (with_reducible first | exact HB.out | apply below_alloc | apply pw_below_drewN | apply below_drew1 | refine below_set ?_ GE338.out) | exact HB.out)) hb); clear BK338; clear HB; have BK338 := n0_; have HB := n1_; clear n0_ n1_; (try clear hb); (try clear hb2); (try clear hk); (try clear hi); have hcz13_ := cells3_ BK338.out) | (go_at_call 8; (with_reducible refine (posthornlaw22_Great.calls k a0_0 a0_1 _ _ l0_2 a2 t340 _ ?side1 ?side2 A10.out).mono ?_); (case side1 => repeat (first | exact (Kd.C_below HR0_2.out HB.out) | (with_reducible refine Kd.C_alloc ?_ _) | (with_reducible refine Kd.C_drewN ?_ _) | (with_reducible refine Kd.C_drew ?_))); (case side2 => exact HC0_2.out); rintro e w14 ⟨rfl, hb⟩; have n0_ := Aside0.mk (blk_below (g := gb338) (o := .cells #[.string a0_0, .int .i64 a0_1, .slice A0_2 l0_2.length c0_2] 24 (0, 0)) (by (with_reducible repeat (first | refine blk_drewN ?_ _ | refine blk_drew ?_ | refine blk_alloc ?_ _)); exact BK338.out) hb); have n1_ := Aside0.mk (below_step (by repeat (first | (with_reducible first | exact HB.out | apply below_alloc | apply pw_below_drewN | apply below_drew1 | refine below_set ?_ GE338.out) | exact HB.out)) hb); clear BK338; clear HB; have BK338 := n0_; have HB := n1_; clear n0_ n1_; (try clear hb); (try clear hb2); (try clear hk); (try clear hi))))
   go_meet
   case rel => exact ⟨_, (t340), val_, H', ⟨by first | omega | exact Nat.le_refl _⟩, ⟨by (with_reducible repeat (first | refine blk_drewN ?_ _ | refine blk_drew ?_ | refine blk_alloc ?_ _)); exact BK338.out⟩, ⟨by repeat (first | (with_reducible first | exact HB.out | apply below_alloc | apply pw_below_drewN | apply below_drew1 | refine below_set ?_ GE338.out) | exact HB.out)⟩⟩
 case rest =>
  clear HC4
  try clear p2
  try clear c4
  try clear c7
  try clear hcz11_
  try clear hcz13_
  try clear hcz8_
  obtain ⟨kq, x25_3, rfl, HA, HJ3, BK338, HB⟩ := hcut
  cases kq with
  | zero => exact absurd HA.out (by simp [posthornlaw22_ZoneApart.j0])
  | succ kj3 =>
   have H := HA.out
   clear HA
   simp only [posthornlaw22_ZoneApart.j0] at H
   by_cases c15 : x25_3 = true
   ·subst c15
    have H1 : ((posthornlaw22_alive.f kj3).bind fun t341 => (some t341)) = some r := by rw [if_pos rfl] at H; exact H
    clear H
    have H := H1
    clear H1
    replace H := Option.bind_eq_some_iff.mp H
    obtain ⟨t341, A160, H⟩ := H
    replace H : (some t341) = some r := H
    have A16 := Aside0.mk A160
    clear A160
    obtain rfl := Option.some.inj H
    go_wp2_with (first | (go_at_call 9; (with_reducible refine (posthornlaw22_alive.calls kj3  t341 _ A16.out).mono ?_); rintro e w17 ⟨rfl, hb⟩; have n0_ := Aside0.mk (blk_below (g := gb338) (o := .cells #[.string a0_0, .int .i64 a0_1, .slice A0_2 l0_2.length c0_2] 24 (0, 0)) (by (with_reducible repeat (first | refine blk_drewN ?_ _ | refine blk_drew ?_ | refine blk_alloc ?_ _)); exact BK338.out) hb); have n1_ := Aside0.mk (below_step (by repeat (first | (with_reducible first | exact HB.out | apply below_alloc | apply pw_below_drewN | apply below_drew1 | refine below_set ?_ GE338.out) | exact HB.out)) hb); clear BK338; clear HB; have BK338 := n0_; have HB := n1_; clear n0_ n1_; (try clear hb); (try clear hb2); (try clear hk); (try clear hi)))
    repeat (go_quiet (first | (go_at_call 9; (with_reducible refine (posthornlaw22_alive.calls kj3  t341 _ A16.out).mono ?_); rintro e w17 ⟨rfl, hb⟩; have n0_ := Aside0.mk (blk_below (g := gb338) (o := .cells #[.string a0_0, .int .i64 a0_1, .slice A0_2 l0_2.length c0_2] 24 (0, 0)) (by (with_reducible repeat (first | refine blk_drewN ?_ _ | refine blk_drew ?_ | refine blk_alloc ?_ _)); exact BK338.out) hb); have n1_ := Aside0.mk (below_step (by repeat (first | (with_reducible first | exact HB.out | apply below_alloc | apply pw_below_drewN | apply below_drew1 | refine below_set ?_ GE338.out) | exact HB.out)) hb); clear BK338; clear HB; have BK338 := n0_; have HB := n1_; clear n0_ n1_; (try clear hb); (try clear hb2); (try clear hk); (try clear hi))); try go_wp2_with (first | (go_at_call 9; (with_reducible refine (posthornlaw22_alive.calls kj3  t341 _ A16.out).mono ?_); rintro e w17 ⟨rfl, hb⟩; have n0_ := Aside0.mk (blk_below (g := gb338) (o := .cells #[.string a0_0, .int .i64 a0_1, .slice A0_2 l0_2.length c0_2] 24 (0, 0)) (by (with_reducible repeat (first | refine blk_drewN ?_ _ | refine blk_drew ?_ | refine blk_alloc ?_ _)); exact BK338.out) hb); have n1_ := Aside0.mk (below_step (by repeat (first | (with_reducible first | exact HB.out | apply below_alloc | apply pw_below_drewN | apply below_drew1 | refine below_set ?_ GE338.out) | exact HB.out)) hb); clear BK338; clear HB; have BK338 := n0_; have HB := n1_; clear n0_ n1_; (try clear hb); (try clear hb2); (try clear hk); (try clear hi))))
    go_ret
    exact ⟨ret_, by repeat (first | (with_reducible first | exact HB.out | apply below_alloc | apply pw_below_drewN | apply below_drew1 | refine below_set ?_ GE338.out) | exact HB.out)⟩
   ·replace c15 := Bool.eq_false_iff.mpr c15
    subst c15
    have H1 : ((zone_Shift.f kj3 a0_0 a0_1 l0_2 a1).bind fun bt342 => ((zone_Shift.f kj3 a0_0 a0_1 l0_2 a2).bind fun bt344 => ((zone_Local.f kj3 a0_0 a0_1 l0_2 a1).bind fun bt346 => ((zone_Local.f kj3 a0_0 a0_1 l0_2 a2).bind fun bt348 => (if bt342.2 = 0 then (posthornlaw22_ZoneApart.j1 kj3 a1 a2 bt342.1 bt344.1 bt346.1 bt346.2 bt348.1 bt348.2 (bt344.2 != 0) a0_0 a0_1 l0_2) else (posthornlaw22_ZoneApart.j1 kj3 a1 a2 bt342.1 bt344.1 bt346.1 bt346.2 bt348.1 bt348.2 true a0_0 a0_1 l0_2)))))) = some r := by rw [if_neg (show ¬ (false = true) by decide)] at H; exact H
    clear H
    have H := H1
    clear H1
    replace H := Option.bind_eq_some_iff.mp H
    obtain ⟨⟨t342, t343⟩, A180, H⟩ := H
    replace H : ((zone_Shift.f kj3 a0_0 a0_1 l0_2 a2).bind fun bt344 => ((zone_Local.f kj3 a0_0 a0_1 l0_2 a1).bind fun bt346 => ((zone_Local.f kj3 a0_0 a0_1 l0_2 a2).bind fun bt348 => (if t343 = 0 then (posthornlaw22_ZoneApart.j1 kj3 a1 a2 t342 bt344.1 bt346.1 bt346.2 bt348.1 bt348.2 (bt344.2 != 0) a0_0 a0_1 l0_2) else (posthornlaw22_ZoneApart.j1 kj3 a1 a2 t342 bt344.1 bt346.1 bt346.2 bt348.1 bt348.2 true a0_0 a0_1 l0_2))))) = some r := H
    have A18 := Aside0.mk A180
    clear A180
    replace H := Option.bind_eq_some_iff.mp H
    obtain ⟨⟨t344, t345⟩, A190, H⟩ := H
    replace H : ((zone_Local.f kj3 a0_0 a0_1 l0_2 a1).bind fun bt346 => ((zone_Local.f kj3 a0_0 a0_1 l0_2 a2).bind fun bt348 => (if t343 = 0 then (posthornlaw22_ZoneApart.j1 kj3 a1 a2 t342 t344 bt346.1 bt346.2 bt348.1 bt348.2 (t345 != 0) a0_0 a0_1 l0_2) else (posthornlaw22_ZoneApart.j1 kj3 a1 a2 t342 t344 bt346.1 bt346.2 bt348.1 bt348.2 true a0_0 a0_1 l0_2)))) = some r := H
    have A19 := Aside0.mk A190
    clear A190
    replace H := Option.bind_eq_some_iff.mp H
    obtain ⟨⟨t346, t347⟩, A200, H⟩ := H
    replace H : ((zone_Local.f kj3 a0_0 a0_1 l0_2 a2).bind fun bt348 => (if t343 = 0 then (posthornlaw22_ZoneApart.j1 kj3 a1 a2 t342 t344 t346 t347 bt348.1 bt348.2 (t345 != 0) a0_0 a0_1 l0_2) else (posthornlaw22_ZoneApart.j1 kj3 a1 a2 t342 t344 t346 t347 bt348.1 bt348.2 true a0_0 a0_1 l0_2))) = some r := H
    have A20 := Aside0.mk A200
    clear A200
    replace H := Option.bind_eq_some_iff.mp H
    obtain ⟨⟨t348, t349⟩, A210, H⟩ := H
    replace H : (if t343 = 0 then (posthornlaw22_ZoneApart.j1 kj3 a1 a2 t342 t344 t346 t347 t348 t349 (t345 != 0) a0_0 a0_1 l0_2) else (posthornlaw22_ZoneApart.j1 kj3 a1 a2 t342 t344 t346 t347 t348 t349 true a0_0 a0_1 l0_2)) = some r := H
    have A21 := Aside0.mk A210
    clear A210
    have HC22 := Aside0.mk H
    clear H
    have hcz23_ := cells3_ BK338.out
    go_upto_region 7 with (first | (go_at_call 11; (with_reducible refine (zone_Shift.calls kj3 a0_0 a0_1 _ _ l0_2 a1 t342 t343 _ ?side1 ?side2 A18.out).mono ?_); (case side1 => repeat (first | exact (Kd.C_below HR0_2.out HB.out) | (with_reducible refine Kd.C_alloc ?_ _) | (with_reducible refine Kd.C_drewN ?_ _) | (with_reducible refine Kd.C_drew ?_))); (case side2 => exact HC0_2.out); rintro e w24 ⟨rfl, hb⟩; have n0_ := Aside0.mk (blk_below (g := gb338) (o := .cells #[.string a0_0, .int .i64 a0_1, .slice A0_2 l0_2.length c0_2] 24 (0, 0)) (by (with_reducible repeat (first | refine blk_drewN ?_ _ | refine blk_drew ?_ | refine blk_alloc ?_ _)); exact BK338.out) hb); have n1_ := Aside0.mk (below_step (by repeat (first | (with_reducible first | exact HB.out | apply below_alloc | apply pw_below_drewN | apply below_drew1 | refine below_set ?_ GE338.out) | exact HB.out)) hb); clear BK338; clear HB; have BK338 := n0_; have HB := n1_; clear n0_ n1_; (try clear hb); (try clear hb2); (try clear hk); (try clear hi); have hcz25_ := cells3_ BK338.out) | (go_at_call 11; (with_reducible refine (zone_Shift.calls kj3 a0_0 a0_1 _ _ l0_2 a2 t344 t345 _ ?side1 ?side2 A19.out).mono ?_); (case side1 => repeat (first | exact (Kd.C_below HR0_2.out HB.out) | (with_reducible refine Kd.C_alloc ?_ _) | (with_reducible refine Kd.C_drewN ?_ _) | (with_reducible refine Kd.C_drew ?_))); (case side2 => exact HC0_2.out); rintro e w26 ⟨rfl, hb⟩; have n0_ := Aside0.mk (blk_below (g := gb338) (o := .cells #[.string a0_0, .int .i64 a0_1, .slice A0_2 l0_2.length c0_2] 24 (0, 0)) (by (with_reducible repeat (first | refine blk_drewN ?_ _ | refine blk_drew ?_ | refine blk_alloc ?_ _)); exact BK338.out) hb); have n1_ := Aside0.mk (below_step (by repeat (first | (with_reducible first | exact HB.out | apply below_alloc | apply pw_below_drewN | apply below_drew1 | refine below_set ?_ GE338.out) | exact HB.out)) hb); clear BK338; clear HB; have BK338 := n0_; have HB := n1_; clear n0_ n1_; (try clear hb); (try clear hb2); (try clear hk); (try clear hi); have hcz27_ := cells3_ BK338.out) | (go_at_call 13; (with_reducible refine (zone_Local.calls kj3 a0_0 a0_1 _ _ l0_2 a1 t346 t347 _ ?side1 ?side2 A20.out).mono ?_); (case side1 => repeat (first | exact (Kd.C_below HR0_2.out HB.out) | (with_reducible refine Kd.C_alloc ?_ _) | (with_reducible refine Kd.C_drewN ?_ _) | (with_reducible refine Kd.C_drew ?_))); (case side2 => exact HC0_2.out); rintro e w28 ⟨rfl, hb⟩; have n0_ := Aside0.mk (blk_below (g := gb338) (o := .cells #[.string a0_0, .int .i64 a0_1, .slice A0_2 l0_2.length c0_2] 24 (0, 0)) (by (with_reducible repeat (first | refine blk_drewN ?_ _ | refine blk_drew ?_ | refine blk_alloc ?_ _)); exact BK338.out) hb); have n1_ := Aside0.mk (below_step (by repeat (first | (with_reducible first | exact HB.out | apply below_alloc | apply pw_below_drewN | apply below_drew1 | refine below_set ?_ GE338.out) | exact HB.out)) hb); clear BK338; clear HB; have BK338 := n0_; have HB := n1_; clear n0_ n1_; (try clear hb); (try clear hb2); (try clear hk); (try clear hi); have hcz29_ := cells3_ BK338.out) | (go_at_call 13; (with_reducible refine (zone_Local.calls kj3 a0_0 a0_1 _ _ l0_2 a2 t348 t349 _ ?side1 ?side2 A21.out).mono ?_); (case side1 => repeat (first | exact (Kd.C_below HR0_2.out HB.out) | (with_reducible refine Kd.C_alloc ?_ _) | (with_reducible refine Kd.C_drewN ?_ _) | (with_reducible refine Kd.C_drew ?_))); (case side2 => exact HC0_2.out); rintro e w30 ⟨rfl, hb⟩; have n0_ := Aside0.mk (blk_below (g := gb338) (o := .cells #[.string a0_0, .int .i64 a0_1, .slice A0_2 l0_2.length c0_2] 24 (0, 0)) (by (with_reducible repeat (first | refine blk_drewN ?_ _ | refine blk_drew ?_ | refine blk_alloc ?_ _)); exact BK338.out) hb); have n1_ := Aside0.mk (below_step (by repeat (first | (with_reducible first | exact HB.out | apply below_alloc | apply pw_below_drewN | apply below_drew1 | refine below_set ?_ GE338.out) | exact HB.out)) hb); clear BK338; clear HB; have BK338 := n0_; have HB := n1_; clear n0_ n1_; (try clear hb); (try clear hb2); (try clear hk); (try clear hi)))
    repeat (go_quiet (first | (go_at_call 11; (with_reducible refine (zone_Shift.calls kj3 a0_0 a0_1 _ _ l0_2 a1 t342 t343 _ ?side1 ?side2 A18.out).mono ?_); (case side1 => repeat (first | exact (Kd.C_below HR0_2.out HB.out) | (with_reducible refine Kd.C_alloc ?_ _) | (with_reducible refine Kd.C_drewN ?_ _) | (with_reducible refine Kd.C_drew ?_))); (case side2 => exact HC0_2.out); rintro e w24 ⟨rfl, hb⟩; have n0_ := Aside0.mk (blk_below (g := gb338) (o := .cells #[.string a0_0, .int .i64 a0_1, .slice A0_2 l0_2.length c0_2] 24 (0, 0)) (by (with_reducible repeat (first | refine blk_drewN ?_ _ | refine blk_drew ?_ | refine blk_alloc ?_ _)); exact BK338.out) hb); have n1_ := Aside0.mk (below_step (by repeat (first | (with_reducible first | exact HB.out | apply below_alloc | apply pw_below_drewN | apply below_drew1 | refine below_set ?_ GE338.out) | exact HB.out)) hb); clear BK338; clear HB; have BK338 := n0_; have HB := n1_; clear n0_ n1_; (try clear hb); (try clear hb2); (try clear hk); (try clear hi); have hcz25_ := cells3_ BK338.out) | (go_at_call 11; (with_reducible refine (zone_Shift.calls kj3 a0_0 a0_1 _ _ l0_2 a2 t344 t345 _ ?side1 ?side2 A19.out).mono ?_); (case side1 => repeat (first | exact (Kd.C_below HR0_2.out HB.out) | (with_reducible refine Kd.C_alloc ?_ _) | (with_reducible refine Kd.C_drewN ?_ _) | (with_reducible refine Kd.C_drew ?_))); (case side2 => exact HC0_2.out); rintro e w26 ⟨rfl, hb⟩; have n0_ := Aside0.mk (blk_below (g := gb338) (o := .cells #[.string a0_0, .int .i64 a0_1, .slice A0_2 l0_2.length c0_2] 24 (0, 0)) (by (with_reducible repeat (first | refine blk_drewN ?_ _ | refine blk_drew ?_ | refine blk_alloc ?_ _)); exact BK338.out) hb); have n1_ := Aside0.mk (below_step (by repeat (first | (with_reducible first | exact HB.out | apply below_alloc | apply pw_below_drewN | apply below_drew1 | refine below_set ?_ GE338.out) | exact HB.out)) hb); clear BK338; clear HB; have BK338 := n0_; have HB := n1_; clear n0_ n1_; (try clear hb); (try clear hb2); (try clear hk); (try clear hi); have hcz27_ := cells3_ BK338.out) | (go_at_call 13; (with_reducible refine (zone_Local.calls kj3 a0_0 a0_1 _ _ l0_2 a1 t346 t347 _ ?side1 ?side2 A20.out).mono ?_); (case side1 => repeat (first | exact (Kd.C_below HR0_2.out HB.out) | (with_reducible refine Kd.C_alloc ?_ _) | (with_reducible refine Kd.C_drewN ?_ _) | (with_reducible refine Kd.C_drew ?_))); (case side2 => exact HC0_2.out); rintro e w28 ⟨rfl, hb⟩; have n0_ := Aside0.mk (blk_below (g := gb338) (o := .cells #[.string a0_0, .int .i64 a0_1, .slice A0_2 l0_2.length c0_2] 24 (0, 0)) (by (with_reducible repeat (first | refine blk_drewN ?_ _ | refine blk_drew ?_ | refine blk_alloc ?_ _)); exact BK338.out) hb); have n1_ := Aside0.mk (below_step (by repeat (first | (with_reducible first | exact HB.out | apply below_alloc | apply pw_below_drewN | apply below_drew1 | refine below_set ?_ GE338.out) | exact HB.out)) hb); clear BK338; clear HB; have BK338 := n0_; have HB := n1_; clear n0_ n1_; (try clear hb); (try clear hb2); (try clear hk); (try clear hi); have hcz29_ := cells3_ BK338.out) | (go_at_call 13; (with_reducible refine (zone_Local.calls kj3 a0_0 a0_1 _ _ l0_2 a2 t348 t349 _ ?side1 ?side2 A21.out).mono ?_); (case side1 => repeat (first | exact (Kd.C_below HR0_2.out HB.out) | (with_reducible refine Kd.C_alloc ?_ _) | (with_reducible refine Kd.C_drewN ?_ _) | (with_reducible refine Kd.C_drew ?_))); (case side2 => exact HC0_2.out); rintro e w30 ⟨rfl, hb⟩; have n0_ := Aside0.mk (blk_below (g := gb338) (o := .cells #[.string a0_0, .int .i64 a0_1, .slice A0_2 l0_2.length c0_2] 24 (0, 0)) (by (with_reducible repeat (first | refine blk_drewN ?_ _ | refine blk_drew ?_ | refine blk_alloc ?_ _)); exact BK338.out) hb); have n1_ := Aside0.mk (below_step (by repeat (first | (with_reducible first | exact HB.out | apply below_alloc | apply pw_below_drewN | apply below_drew1 | refine below_set ?_ GE338.out) | exact HB.out)) hb); clear BK338; clear HB; have BK338 := n0_; have HB := n1_; clear n0_ n1_; (try clear hb); (try clear hb2); (try clear hk); (try clear hi))); go_upto_region 7 with (first | (go_at_call 11; (with_reducible refine (zone_Shift.calls kj3 a0_0 a0_1 _ _ l0_2 a1 t342 t343 _ ?side1 ?side2 A18.out).mono ?_); (case side1 => repeat (first | exact (Kd.C_below HR0_2.out HB.out) | (with_reducible refine Kd.C_alloc ?_ _) | (with_reducible refine Kd.C_drewN ?_ _) | (with_reducible refine Kd.C_drew ?_))); (case side2 => exact HC0_2.out); rintro e w24 ⟨rfl, hb⟩; have n0_ := Aside0.mk (blk_below (g := gb338) (o := .cells #[.string a0_0, .int .i64 a0_1, .slice A0_2 l0_2.length c0_2] 24 (0, 0)) (by (with_reducible repeat (first | refine blk_drewN ?_ _ | refine blk_drew ?_ | refine blk_alloc ?_ _)); exact BK338.out) hb); have n1_ := Aside0.mk (below_step (by repeat (first | (with_reducible first | exact HB.out | apply below_alloc | apply pw_below_drewN | apply below_drew1 | refine below_set ?_ GE338.out) | exact HB.out)) hb); clear BK338; clear HB; have BK338 := n0_; have HB := n1_; clear n0_ n1_; (try clear hb); (try clear hb2); (try clear hk); (try clear hi); have hcz25_ := cells3_ BK338.out) | (go_at_call 11; (with_reducible refine (zone_Shift.calls kj3 a0_0 a0_1 _ _ l0_2 a2 t344 t345 _ ?side1 ?side2 A19.out).mono ?_); (case side1 => repeat (first | exact (Kd.C_below HR0_2.out HB.out) | (with_reducible refine Kd.C_alloc ?_ _) | (with_reducible refine Kd.C_drewN ?_ _) | (with_reducible refine Kd.C_drew ?_))); (case side2 => exact HC0_2.out); rintro e w26 ⟨rfl, hb⟩; have n0_ := Aside0.mk (blk_below (g := gb338) (o := .cells #[.string a0_0, .int .i64 a0_1, .slice A0_2 l0_2.length c0_2] 24 (0, 0)) (by (with_reducible repeat (first | refine blk_drewN ?_ _ | refine blk_drew ?_ | refine blk_alloc ?_ _)); exact BK338.out) hb); have n1_ := Aside0.mk (below_step (by repeat (first | (with_reducible first | exact HB.out | apply below_alloc | apply pw_below_drewN | apply below_drew1 | refine below_set ?_ GE338.out) | exact HB.out)) hb); clear BK338; clear HB; have BK338 := n0_; have HB := n1_; clear n0_ n1_; (try clear hb); (try clear hb2); (try clear hk); (try clear hi); have hcz27_ := cells3_ BK338.out) | (go_at_call 13; (with_reducible refine (zone_Local.calls kj3 a0_0 a0_1 _ _ l0_2 a1 t346 t347 _ ?side1 ?side2 A20.out).mono ?_); (case side1 => repeat (first | exact (Kd.C_below HR0_2.out HB.out) | (with_reducible refine Kd.C_alloc ?_ _) | (with_reducible refine Kd.C_drewN ?_ _) | (with_reducible refine Kd.C_drew ?_))); (case side2 => exact HC0_2.out); rintro e w28 ⟨rfl, hb⟩; have n0_ := Aside0.mk (blk_below (g := gb338) (o := .cells #[.string a0_0, .int .i64 a0_1, .slice A0_2 l0_2.length c0_2] 24 (0, 0)) (by (with_reducible repeat (first | refine blk_drewN ?_ _ | refine blk_drew ?_ | refine blk_alloc ?_ _)); exact BK338.out) hb); have n1_ := Aside0.mk (below_step (by repeat (first | (with_reducible first | exact HB.out | apply below_alloc | apply pw_below_drewN | apply below_drew1 | refine below_set ?_ GE338.out) | exact HB.out)) hb); clear BK338; clear HB; have BK338 := n0_; have HB := n1_; clear n0_ n1_; (try clear hb); (try clear hb2); (try clear hk); (try clear hi); have hcz29_ := cells3_ BK338.out) | (go_at_call 13; (with_reducible refine (zone_Local.calls kj3 a0_0 a0_1 _ _ l0_2 a2 t348 t349 _ ?side1 ?side2 A21.out).mono ?_); (case side1 => repeat (first | exact (Kd.C_below HR0_2.out HB.out) | (with_reducible refine Kd.C_alloc ?_ _) | (with_reducible refine Kd.C_drewN ?_ _) | (with_reducible refine Kd.C_drew ?_))); (case side2 => exact HC0_2.out); rintro e w30 ⟨rfl, hb⟩; have n0_ := Aside0.mk (blk_below (g := gb338) (o := .cells #[.string a0_0, .int .i64 a0_1, .slice A0_2 l0_2.length c0_2] 24 (0, 0)) (by (with_reducible repeat (first | refine blk_drewN ?_ _ | refine blk_drew ?_ | refine blk_alloc ?_ _)); exact BK338.out) hb); have n1_ := Aside0.mk (below_step (by repeat (first | (with_reducible first | exact HB.out | apply below_alloc | apply pw_below_drewN | apply below_drew1 | refine below_set ?_ GE338.out) | exact HB.out)) hb); clear BK338; clear HB; have BK338 := n0_; have HB := n1_; clear n0_ n1_; (try clear hb); (try clear hb2); (try clear hk); (try clear hi))))
    (try simp only [Act.put, List.setIfInBounds_toArray, List.set_cons_zero, List.set_cons_succ])
    go_cut [56] (fun v56 wc => ∃ (kq : Nat) (x56_21 : Bool), v56 = .bool x56_21 ∧ Aside0 (posthornlaw22_ZoneApart.j1 kq a1 a2 t342 t344 t346 t347 t348 t349 x56_21 a0_0 a0_1 l0_2 = some r) ∧ Aside0 (kq ≤ kj3) ∧ Aside0 (wc.heap[gb338]? = some (.cells #[.string a0_0, .int .i64 a0_1, (.slice A0_2 l0_2.length c0_2)] 24 (0, 0))) ∧ Aside0 (Below w.heap.size w wc))
    case first =>
     have H := HC22.out
     clear HC22
     by_cases c31 : t343 = 0
     ·rw [if_pos c31] at H
      have c31b0 : (t343 == 0) = true := beq_iff_eq.mpr c31
      have c31b1 : (t343 != 0) = false := bne_eq_false_iff_eq.mpr c31
      clear c31
      (first | rw [c31b0] | (simp only [i64_w, i32_w]; rw [c31b0]) | skip)
      have H' := Aside0.mk H
      clear H
      go_wp2
      repeat (go_quiet (fail); try go_wp2)
      go_meet
      case rel => exact ⟨_, ((t345 != 0)), val_, H', ⟨by have := HJ3.out; first | omega | exact Nat.le_refl _⟩, ⟨by (with_reducible repeat (first | refine blk_drewN ?_ _ | refine blk_drew ?_ | refine blk_alloc ?_ _)); exact BK338.out⟩, ⟨by repeat (first | (with_reducible first | exact HB.out | apply below_alloc | apply pw_below_drewN | apply below_drew1 | refine below_set ?_ GE338.out) | exact HB.out)⟩⟩
     ·rw [if_neg c31] at H
      have c31b0 : (t343 == 0) = false := beq_eq_false_iff_ne.mpr c31
      have c31b1 : (t343 != 0) = true := bne_iff_ne.mpr c31
      (first | rw [c31b0] | (simp only [i64_w, i32_w]; rw [c31b0]) | skip)
      have H' := Aside0.mk H
      clear H
      go_wp2
      repeat (go_quiet (fail); try go_wp2)
      go_meet
      case rel => exact ⟨_, (true), val_, H', ⟨by have := HJ3.out; first | omega | exact Nat.le_refl _⟩, ⟨by (with_reducible repeat (first | refine blk_drewN ?_ _ | refine blk_drew ?_ | refine blk_alloc ?_ _)); exact BK338.out⟩, ⟨by repeat (first | (with_reducible first | exact HB.out | apply below_alloc | apply pw_below_drewN | apply below_drew1 | refine below_set ?_ GE338.out) | exact HB.out)⟩⟩
    case rest =>
     clear HC22
     try clear c1
     try clear p2
     try clear c3
     try clear c4
     try clear c7
     try clear c15
     try clear c31
     try clear c31b0
     try clear c31b1
     try clear hcz11_
     try clear hcz13_
     try clear hcz23_
     try clear hcz25_
     try clear hcz27_
     try clear hcz29_
     try clear hcz8_
     try clear p2
     obtain ⟨kq, x56_21, rfl, HA, HJ21, BK338, HB⟩ := hcut
     cases kq with
     | zero => exact absurd HA.out (by simp [posthornlaw22_ZoneApart.j1])
     | succ kj21 =>
      have H := HA.out
      clear HA
      simp only [posthornlaw22_ZoneApart.j1] at H
      by_cases c32 : x56_21 = true
      ·subst c32
       have H1 : ((posthornlaw22_alive.f kj21).bind fun t350 => (some t350)) = some r := by rw [if_pos rfl] at H; exact H
       clear H
       have H := H1
       clear H1
       replace H := Option.bind_eq_some_iff.mp H
       obtain ⟨t350, A330, H⟩ := H
       replace H : (some t350) = some r := H
       have A33 := Aside0.mk A330
       clear A330
       obtain rfl := Option.some.inj H
       go_wp2_with (first | (go_at_call 9; (with_reducible refine (posthornlaw22_alive.calls kj21  t350 _ A33.out).mono ?_); rintro e w34 ⟨rfl, hb⟩; have n0_ := Aside0.mk (blk_below (g := gb338) (o := .cells #[.string a0_0, .int .i64 a0_1, .slice A0_2 l0_2.length c0_2] 24 (0, 0)) (by (with_reducible repeat (first | refine blk_drewN ?_ _ | refine blk_drew ?_ | refine blk_alloc ?_ _)); exact BK338.out) hb); have n1_ := Aside0.mk (below_step (by repeat (first | (with_reducible first | exact HB.out | apply below_alloc | apply pw_below_drewN | apply below_drew1 | refine below_set ?_ GE338.out) | exact HB.out)) hb); clear BK338; clear HB; have BK338 := n0_; have HB := n1_; clear n0_ n1_; (try clear hb); (try clear hb2); (try clear hk); (try clear hi)))
       repeat (go_quiet (first | (go_at_call 9; (with_reducible refine (posthornlaw22_alive.calls kj21  t350 _ A33.out).mono ?_); rintro e w34 ⟨rfl, hb⟩; have n0_ := Aside0.mk (blk_below (g := gb338) (o := .cells #[.string a0_0, .int .i64 a0_1, .slice A0_2 l0_2.length c0_2] 24 (0, 0)) (by (with_reducible repeat (first | refine blk_drewN ?_ _ | refine blk_drew ?_ | refine blk_alloc ?_ _)); exact BK338.out) hb); have n1_ := Aside0.mk (below_step (by repeat (first | (with_reducible first | exact HB.out | apply below_alloc | apply pw_below_drewN | apply below_drew1 | refine below_set ?_ GE338.out) | exact HB.out)) hb); clear BK338; clear HB; have BK338 := n0_; have HB := n1_; clear n0_ n1_; (try clear hb); (try clear hb2); (try clear hk); (try clear hi))); try go_wp2_with (first | (go_at_call 9; (with_reducible refine (posthornlaw22_alive.calls kj21  t350 _ A33.out).mono ?_); rintro e w34 ⟨rfl, hb⟩; have n0_ := Aside0.mk (blk_below (g := gb338) (o := .cells #[.string a0_0, .int .i64 a0_1, .slice A0_2 l0_2.length c0_2] 24 (0, 0)) (by (with_reducible repeat (first | refine blk_drewN ?_ _ | refine blk_drew ?_ | refine blk_alloc ?_ _)); exact BK338.out) hb); have n1_ := Aside0.mk (below_step (by repeat (first | (with_reducible first | exact HB.out | apply below_alloc | apply pw_below_drewN | apply below_drew1 | refine below_set ?_ GE338.out) | exact HB.out)) hb); clear BK338; clear HB; have BK338 := n0_; have HB := n1_; clear n0_ n1_; (try clear hb); (try clear hb2); (try clear hk); (try clear hi))))
       go_ret
       exact ⟨ret_, by repeat (first | (with_reducible first | exact HB.out | apply below_alloc | apply pw_below_drewN | apply below_drew1 | refine below_set ?_ GE338.out) | exact HB.out)⟩
      ·replace c32 := Bool.eq_false_iff.mpr c32
       subst c32
       have H1 : (posthornlaw22_ZoneApart.l0 kj21 a1 a2 t342 t344 t346 t347 t348 t349 true (t342 == a0_1) 0 a0_0 a0_1 l0_2) = some r := by rw [if_neg (show ¬ (false = true) by decide)] at H; exact H
       clear H
       have H := H1
       clear H1
       have H' := Aside0.mk H
       clear H
       have hcz35_ := cells3_ BK338.out
       go_wp2
       repeat (go_quiet (fail); try go_wp2)
       go_loopg [15, 16, 17] kj21 (fun kq v15 v16 v17 w' => ∃ (x15_3 : Bool) (x16_3 : Bool) (x17_3 : Int), v15 = .bool x15_3 ∧ v16 = .bool x16_3 ∧ v17 = .int .i64 x17_3 ∧ Aside0 (posthornlaw22_ZoneApart.l0 kq a1 a2 t342 t344 t346 t347 t348 t349 x15_3 x16_3 x17_3 a0_0 a0_1 l0_2 = some r) ∧ Aside0 (kq ≤ kj21) ∧ Aside0 (w'.heap[gb338]? = some (.cells #[.string a0_0, .int .i64 a0_1, (.slice A0_2 l0_2.length c0_2)] 24 (0, 0))) ∧ Aside0 (Below w.heap.size w w'))
       case atStart => exact ⟨(true), ((t342 == a0_1)), (0), val_, val_, val_, H', ⟨Nat.le_refl _⟩, ⟨by (with_reducible repeat (first | refine blk_drewN ?_ _ | refine blk_drew ?_ | refine blk_alloc ?_ _)); exact BK338.out⟩, ⟨by repeat (first | (with_reducible first | exact HB.out | apply below_alloc | apply pw_below_drewN | apply below_drew1 | refine below_set ?_ GE338.out) | exact HB.out)⟩⟩
       case round =>
        clear H'
        try clear c1
        try clear p2
        try clear c3
        try clear c4
        try clear c7
        try clear c15
        try clear c31
        try clear c31b0
        try clear c31b1
        try clear c32
        try clear hcz11_
        try clear hcz13_
        try clear hcz23_
        try clear hcz25_
        try clear hcz27_
        try clear hcz29_
        try clear hcz35_
        try clear hcz8_
        try clear p2
        obtain ⟨x15_3, x16_3, x17_3, rfl, rfl, rfl, HA, HK3, BK338, HB⟩ := hrel
        cases gk with
        | zero => exact absurd HA.out (by simp [posthornlaw22_ZoneApart.l0])
        | succ k3 =>
         have H := HA.out
         clear HA
         simp only [posthornlaw22_ZoneApart.l0] at H
         by_cases c36 : x17_3 < (l0_2.length : Int)
         ·rw [if_pos c36] at H
          have c36b0 : decide (x17_3 < (l0_2.length : Int)) = true := decide_eq_true c36
          clear c36
          by_cases c37 : x15_3 = true
          ·subst c37
           have H1 : (if 0 ≤ x17_3 then (if x16_3 = true then (posthornlaw22_ZoneApart.l0 k3 a1 a2 t342 t344 t346 t347 t348 t349 (((rd_T42 l0_2 x17_3).f2) == a0_1) true (wrap64 (x17_3 + 1)) a0_0 a0_1 l0_2) else (posthornlaw22_ZoneApart.l0 k3 a1 a2 t342 t344 t346 t347 t348 t349 (((rd_T42 l0_2 x17_3).f2) == a0_1) (t342 == ((rd_T42 l0_2 x17_3).f2)) (wrap64 (x17_3 + 1)) a0_0 a0_1 l0_2)) else (none)) = some r := by rw [if_pos rfl] at H; exact H
           clear H
           have H := H1
           clear H1
           by_cases c38 : 0 ≤ x17_3
           ·rw [if_pos c38] at H
            have c38b0 : decide (0 ≤ x17_3) = true := decide_eq_true c38
            clear c38
            by_cases c39 : x16_3 = true
            ·subst c39
             have H1 : (posthornlaw22_ZoneApart.l0 k3 a1 a2 t342 t344 t346 t347 t348 t349 (((rd_T42 l0_2 x17_3).f2) == a0_1) true (wrap64 (x17_3 + 1)) a0_0 a0_1 l0_2) = some r := by rw [if_pos rfl] at H; exact H
             clear H
             have H := H1
             clear H1
             have H' := Aside0.mk H
             clear H
             have hcz40_ := cells3_ BK338.out
             have p351 : 0 ≤ (x17_3 : Int) := dec_
             have q351 : x17_3 < (l0_2.length : Int) := dec_
             obtain ⟨ad351, A351_8, c351_8, A351_9, c351_9, A351_10, c351_10, e351, hx351_0, hx351_1, hx351_2, hx351_3, hx351_4, hx351_5, hx351_6, hx351_7, hx351_8, hx351_9, hx351_10, hl351_8, hi351_8, hl351_9, hi351_9, hl351_10, hi351_10⟩ := at_T42 HR0_2.out x17_3 p351 q351
             cases e351
             replace hx351_0 := (HB.out.cell (World.block_lt_of_cell? w _ hx351_0)).trans hx351_0
             replace hx351_1 := (HB.out.cell (World.block_lt_of_cell? w _ hx351_1)).trans hx351_1
             replace hx351_2 := (HB.out.cell (World.block_lt_of_cell? w _ hx351_2)).trans hx351_2
             replace hx351_3 := (HB.out.cell (World.block_lt_of_cell? w _ hx351_3)).trans hx351_3
             replace hx351_4 := (HB.out.cell (World.block_lt_of_cell? w _ hx351_4)).trans hx351_4
             replace hx351_5 := (HB.out.cell (World.block_lt_of_cell? w _ hx351_5)).trans hx351_5
             replace hx351_6 := (HB.out.cell (World.block_lt_of_cell? w _ hx351_6)).trans hx351_6
             replace hx351_7 := (HB.out.cell (World.block_lt_of_cell? w _ hx351_7)).trans hx351_7
             replace hx351_8 := (HB.out.cell (World.block_lt_of_cell? w _ hx351_8)).trans hx351_8
             replace hx351_9 := (HB.out.cell (World.block_lt_of_cell? w _ hx351_9)).trans hx351_9
             replace hx351_10 := (HB.out.cell (World.block_lt_of_cell? w _ hx351_10)).trans hx351_10
             have HR351_8 := Aside0.mk hi351_8
             have HC351_8 := Aside0.mk hl351_8
             clear hi351_8 hl351_8
             have HR351_9 := Aside0.mk hi351_9
             have HC351_9 := Aside0.mk hl351_9
             clear hi351_9 hl351_9
             have HR351_10 := Aside0.mk hi351_10
             have HC351_10 := Aside0.mk hl351_10
             clear hi351_10 hl351_10
             replace p351 := eq_true p351
             replace q351 := eq_true q351
             go_wp2
             repeat (go_quiet (fail); try go_wp2)
             go_roundg k3
             case measure => have := HJ3.out; have := HJ21.out; have := HK3.out; omega
             case rel => exact ⟨((((rd_T42 l0_2 x17_3).f2) == a0_1)), (true), (wrap64 (x17_3 + 1)), val_, val_, val_, H', ⟨by have := HJ3.out; have := HJ21.out; have := HK3.out; omega⟩, ⟨by (with_reducible repeat (first | refine blk_drewN ?_ _ | refine blk_drew ?_ | refine blk_alloc ?_ _)); exact BK338.out⟩, ⟨by repeat (first | (with_reducible first | exact HB.out | apply below_alloc | apply pw_below_drewN | apply below_drew1 | refine below_set ?_ GE338.out) | exact HB.out)⟩⟩
            ·replace c39 := Bool.eq_false_iff.mpr c39
             subst c39
             have H1 : (posthornlaw22_ZoneApart.l0 k3 a1 a2 t342 t344 t346 t347 t348 t349 (((rd_T42 l0_2 x17_3).f2) == a0_1) (t342 == ((rd_T42 l0_2 x17_3).f2)) (wrap64 (x17_3 + 1)) a0_0 a0_1 l0_2) = some r := by rw [if_neg (show ¬ (false = true) by decide)] at H; exact H
             clear H
             have H := H1
             clear H1
             have H' := Aside0.mk H
             clear H
             have hcz41_ := cells3_ BK338.out
             have p351 : 0 ≤ (x17_3 : Int) := dec_
             have q351 : x17_3 < (l0_2.length : Int) := dec_
             obtain ⟨ad351, A351_8, c351_8, A351_9, c351_9, A351_10, c351_10, e351, hx351_0, hx351_1, hx351_2, hx351_3, hx351_4, hx351_5, hx351_6, hx351_7, hx351_8, hx351_9, hx351_10, hl351_8, hi351_8, hl351_9, hi351_9, hl351_10, hi351_10⟩ := at_T42 HR0_2.out x17_3 p351 q351
             cases e351
             replace hx351_0 := (HB.out.cell (World.block_lt_of_cell? w _ hx351_0)).trans hx351_0
             replace hx351_1 := (HB.out.cell (World.block_lt_of_cell? w _ hx351_1)).trans hx351_1
             replace hx351_2 := (HB.out.cell (World.block_lt_of_cell? w _ hx351_2)).trans hx351_2
             replace hx351_3 := (HB.out.cell (World.block_lt_of_cell? w _ hx351_3)).trans hx351_3
             replace hx351_4 := (HB.out.cell (World.block_lt_of_cell? w _ hx351_4)).trans hx351_4
             replace hx351_5 := (HB.out.cell (World.block_lt_of_cell? w _ hx351_5)).trans hx351_5
             replace hx351_6 := (HB.out.cell (World.block_lt_of_cell? w _ hx351_6)).trans hx351_6
             replace hx351_7 := (HB.out.cell (World.block_lt_of_cell? w _ hx351_7)).trans hx351_7
             replace hx351_8 := (HB.out.cell (World.block_lt_of_cell? w _ hx351_8)).trans hx351_8
             replace hx351_9 := (HB.out.cell (World.block_lt_of_cell? w _ hx351_9)).trans hx351_9
             replace hx351_10 := (HB.out.cell (World.block_lt_of_cell? w _ hx351_10)).trans hx351_10
             have HR351_8 := Aside0.mk hi351_8
             have HC351_8 := Aside0.mk hl351_8
             clear hi351_8 hl351_8
             have HR351_9 := Aside0.mk hi351_9
             have HC351_9 := Aside0.mk hl351_9
             clear hi351_9 hl351_9
             have HR351_10 := Aside0.mk hi351_10
             have HC351_10 := Aside0.mk hl351_10
             clear hi351_10 hl351_10
             replace p351 := eq_true p351
             replace q351 := eq_true q351
             have p352 : 0 ≤ (x17_3 : Int) := dec_
             have q352 : x17_3 < (l0_2.length : Int) := dec_
             obtain ⟨ad352, A352_8, c352_8, A352_9, c352_9, A352_10, c352_10, e352, hx352_0, hx352_1, hx352_2, hx352_3, hx352_4, hx352_5, hx352_6, hx352_7, hx352_8, hx352_9, hx352_10, hl352_8, hi352_8, hl352_9, hi352_9, hl352_10, hi352_10⟩ := at_T42 HR0_2.out x17_3 p352 q352
             obtain rfl : ad351 = ad352 := (by injection e352)
             replace hx352_0 := (HB.out.cell (World.block_lt_of_cell? w _ hx352_0)).trans hx352_0
             replace hx352_1 := (HB.out.cell (World.block_lt_of_cell? w _ hx352_1)).trans hx352_1
             replace hx352_2 := (HB.out.cell (World.block_lt_of_cell? w _ hx352_2)).trans hx352_2
             replace hx352_3 := (HB.out.cell (World.block_lt_of_cell? w _ hx352_3)).trans hx352_3
             replace hx352_4 := (HB.out.cell (World.block_lt_of_cell? w _ hx352_4)).trans hx352_4
             replace hx352_5 := (HB.out.cell (World.block_lt_of_cell? w _ hx352_5)).trans hx352_5
             replace hx352_6 := (HB.out.cell (World.block_lt_of_cell? w _ hx352_6)).trans hx352_6
             replace hx352_7 := (HB.out.cell (World.block_lt_of_cell? w _ hx352_7)).trans hx352_7
             replace hx352_8 := (HB.out.cell (World.block_lt_of_cell? w _ hx352_8)).trans hx352_8
             replace hx352_9 := (HB.out.cell (World.block_lt_of_cell? w _ hx352_9)).trans hx352_9
             replace hx352_10 := (HB.out.cell (World.block_lt_of_cell? w _ hx352_10)).trans hx352_10
             have HR352_8 := Aside0.mk hi352_8
             have HC352_8 := Aside0.mk hl352_8
             clear hi352_8 hl352_8
             have HR352_9 := Aside0.mk hi352_9
             have HC352_9 := Aside0.mk hl352_9
             clear hi352_9 hl352_9
             have HR352_10 := Aside0.mk hi352_10
             have HC352_10 := Aside0.mk hl352_10
             clear hi352_10 hl352_10
             replace p352 := eq_true p352
             replace q352 := eq_true q352
             have ea_ := Option.some.inj (hx351_8.symm.trans hx352_8)
             injection ea_ with ea_ en_ ec_
             subst ea_
             subst ec_
             clear en_
             have ea_ := Option.some.inj (hx351_9.symm.trans hx352_9)
             injection ea_ with ea_ en_ ec_
             subst ea_
             subst ec_
             clear en_
             have ea_ := Option.some.inj (hx351_10.symm.trans hx352_10)
             injection ea_ with ea_ en_ ec_
             subst ea_
             subst ec_
             clear en_
             go_wp2
             repeat (go_quiet (fail); try go_wp2)
             go_roundg k3
             case measure => have := HJ3.out; have := HJ21.out; have := HK3.out; omega
             case rel => exact ⟨((((rd_T42 l0_2 x17_3).f2) == a0_1)), ((t342 == ((rd_T42 l0_2 x17_3).f2))), (wrap64 (x17_3 + 1)), val_, val_, val_, H', ⟨by have := HJ3.out; have := HJ21.out; have := HK3.out; omega⟩, ⟨by (with_reducible repeat (first | refine blk_drewN ?_ _ | refine blk_drew ?_ | refine blk_alloc ?_ _)); exact BK338.out⟩, ⟨by repeat (first | (with_reducible first | exact HB.out | apply below_alloc | apply pw_below_drewN | apply below_drew1 | refine below_set ?_ GE338.out) | exact HB.out)⟩⟩
           ·rw [if_neg c38] at H
            exact absurd H (by simp)
          ·replace c37 := Bool.eq_false_iff.mpr c37
           subst c37
           have H1 : (if x16_3 = true then (posthornlaw22_ZoneApart.l0 k3 a1 a2 t342 t344 t346 t347 t348 t349 false true (wrap64 (x17_3 + 1)) a0_0 a0_1 l0_2) else (if 0 ≤ x17_3 then (posthornlaw22_ZoneApart.l0 k3 a1 a2 t342 t344 t346 t347 t348 t349 false (t342 == ((rd_T42 l0_2 x17_3).f2)) (wrap64 (x17_3 + 1)) a0_0 a0_1 l0_2) else (none))) = some r := by rw [if_neg (show ¬ (false = true) by decide)] at H; exact H
           clear H
           have H := H1
           clear H1
           by_cases c42 : x16_3 = true
           ·subst c42
            have H1 : (posthornlaw22_ZoneApart.l0 k3 a1 a2 t342 t344 t346 t347 t348 t349 false true (wrap64 (x17_3 + 1)) a0_0 a0_1 l0_2) = some r := by rw [if_pos rfl] at H; exact H
            clear H
            have H := H1
            clear H1
            have H' := Aside0.mk H
            clear H
            have hcz43_ := cells3_ BK338.out
            go_wp2
            repeat (go_quiet (fail); try go_wp2)
            go_roundg k3
            case measure => have := HJ3.out; have := HJ21.out; have := HK3.out; omega
            case rel => exact ⟨(false), (true), (wrap64 (x17_3 + 1)), val_, val_, val_, H', ⟨by have := HJ3.out; have := HJ21.out; have := HK3.out; omega⟩, ⟨by (with_reducible repeat (first | refine blk_drewN ?_ _ | refine blk_drew ?_ | refine blk_alloc ?_ _)); exact BK338.out⟩, ⟨by repeat (first | (with_reducible first | exact HB.out | apply below_alloc | apply pw_below_drewN | apply below_drew1 | refine below_set ?_ GE338.out) | exact HB.out)⟩⟩
           ·replace c42 := Bool.eq_false_iff.mpr c42
            subst c42
            have H1 : (if 0 ≤ x17_3 then (posthornlaw22_ZoneApart.l0 k3 a1 a2 t342 t344 t346 t347 t348 t349 false (t342 == ((rd_T42 l0_2 x17_3).f2)) (wrap64 (x17_3 + 1)) a0_0 a0_1 l0_2) else (none)) = some r := by rw [if_neg (show ¬ (false = true) by decide)] at H; exact H
            clear H
            have H := H1
            clear H1
            by_cases c44 : 0 ≤ x17_3
            ·rw [if_pos c44] at H
             have c44b0 : decide (0 ≤ x17_3) = true := decide_eq_true c44
             clear c44
             have H' := Aside0.mk H
             clear H
             have hcz45_ := cells3_ BK338.out
             have p353 : 0 ≤ (x17_3 : Int) := dec_
             have q353 : x17_3 < (l0_2.length : Int) := dec_
             obtain ⟨ad353, A353_8, c353_8, A353_9, c353_9, A353_10, c353_10, e353, hx353_0, hx353_1, hx353_2, hx353_3, hx353_4, hx353_5, hx353_6, hx353_7, hx353_8, hx353_9, hx353_10, hl353_8, hi353_8, hl353_9, hi353_9, hl353_10, hi353_10⟩ := at_T42 HR0_2.out x17_3 p353 q353
             cases e353
             replace hx353_0 := (HB.out.cell (World.block_lt_of_cell? w _ hx353_0)).trans hx353_0
             replace hx353_1 := (HB.out.cell (World.block_lt_of_cell? w _ hx353_1)).trans hx353_1
             replace hx353_2 := (HB.out.cell (World.block_lt_of_cell? w _ hx353_2)).trans hx353_2
             replace hx353_3 := (HB.out.cell (World.block_lt_of_cell? w _ hx353_3)).trans hx353_3
             replace hx353_4 := (HB.out.cell (World.block_lt_of_cell? w _ hx353_4)).trans hx353_4
             replace hx353_5 := (HB.out.cell (World.block_lt_of_cell? w _ hx353_5)).trans hx353_5
             replace hx353_6 := (HB.out.cell (World.block_lt_of_cell? w _ hx353_6)).trans hx353_6
             replace hx353_7 := (HB.out.cell (World.block_lt_of_cell? w _ hx353_7)).trans hx353_7
             replace hx353_8 := (HB.out.cell (World.block_lt_of_cell? w _ hx353_8)).trans hx353_8
             replace hx353_9 := (HB.out.cell (World.block_lt_of_cell? w _ hx353_9)).trans hx353_9
             replace hx353_10 := (HB.out.cell (World.block_lt_of_cell? w _ hx353_10)).trans hx353_10
             have HR353_8 := Aside0.mk hi353_8
             have HC353_8 := Aside0.mk hl353_8
             clear hi353_8 hl353_8
             have HR353_9 := Aside0.mk hi353_9
             have HC353_9 := Aside0.mk hl353_9
             clear hi353_9 hl353_9
             have HR353_10 := Aside0.mk hi353_10
             have HC353_10 := Aside0.mk hl353_10
             clear hi353_10 hl353_10
             replace p353 := eq_true p353
             replace q353 := eq_true q353
             go_wp2
             repeat (go_quiet (fail); try go_wp2)
             go_roundg k3
             case measure => have := HJ3.out; have := HJ21.out; have := HK3.out; omega
             case rel => exact ⟨(false), ((t342 == ((rd_T42 l0_2 x17_3).f2))), (wrap64 (x17_3 + 1)), val_, val_, val_, H', ⟨by have := HJ3.out; have := HJ21.out; have := HK3.out; omega⟩, ⟨by (with_reducible repeat (first | refine blk_drewN ?_ _ | refine blk_drew ?_ | refine blk_alloc ?_ _)); exact BK338.out⟩, ⟨by repeat (first | (with_reducible first | exact HB.out | apply below_alloc | apply pw_below_drewN | apply below_drew1 | refine below_set ?_ GE338.out) | exact HB.out)⟩⟩
            ·rw [if_neg c44] at H
             exact absurd H (by simp)
         ·rw [if_neg c36] at H
          have c36b0 : decide (x17_3 < (l0_2.length : Int)) = false := decide_eq_false c36
          clear c36
          by_cases c46 : x16_3 = true
          ·subst c46
           have H1 : (if x15_3 = true then (if t342 = a0_1 then (if t344 = a0_1 then ((posthornlaw22_alive.f k3).bind fun t354 => (if t354 = true then (if t347 = 0 then (if t349 = 0 then (if t342 = t344 then (some ((wrap64 (t346 - t348)) == (wrap64 (a1 - a2)))) else (some true)) else (some true)) else (some true)) else (some false))) else (some false)) else (some false)) else ((posthornlaw22_alive.f k3).bind fun t355 => (if t355 = true then (if t347 = 0 then (if t349 = 0 then (if t342 = t344 then (some ((wrap64 (t346 - t348)) == (wrap64 (a1 - a2)))) else (some true)) else (some true)) else (some true)) else (some false)))) = some r := by rw [if_pos rfl] at H; exact H
           clear H
           have H := H1
           clear H1
           by_cases c47 : x15_3 = true
           ·subst c47
            have H1 : (if t342 = a0_1 then (if t344 = a0_1 then ((posthornlaw22_alive.f k3).bind fun t354 => (if t354 = true then (if t347 = 0 then (if t349 = 0 then (if t342 = t344 then (some ((wrap64 (t346 - t348)) == (wrap64 (a1 - a2)))) else (some true)) else (some true)) else (some true)) else (some false))) else (some false)) else (some false)) = some r := by rw [if_pos rfl] at H; exact H
            clear H
            have H := H1
            clear H1
            by_cases c48 : t342 = a0_1
            ·rw [if_pos c48] at H
             have c48b0 : (t342 == a0_1) = true := beq_iff_eq.mpr c48
             have c48b1 : (t342 != a0_1) = false := bne_eq_false_iff_eq.mpr c48
             clear c48
             by_cases c49 : t344 = a0_1
             ·rw [if_pos c49] at H
              have c49b0 : (t344 == a0_1) = true := beq_iff_eq.mpr c49
              have c49b1 : (t344 != a0_1) = false := bne_eq_false_iff_eq.mpr c49
              clear c49
              replace H := Option.bind_eq_some_iff.mp H
              obtain ⟨t354, A500, H⟩ := H
              replace H : (if t354 = true then (if t347 = 0 then (if t349 = 0 then (if t342 = t344 then (some ((wrap64 (t346 - t348)) == (wrap64 (a1 - a2)))) else (some true)) else (some true)) else (some true)) else (some false)) = some r := H
              have A50 := Aside0.mk A500
              clear A500
              by_cases c51 : t354 = true
              ·subst c51
               have H1 : (if t347 = 0 then (if t349 = 0 then (if t342 = t344 then (some ((wrap64 (t346 - t348)) == (wrap64 (a1 - a2)))) else (some true)) else (some true)) else (some true)) = some r := by rw [if_pos rfl] at H; exact H
               clear H
               have H := H1
               clear H1
               by_cases c52 : t347 = 0
               ·rw [if_pos c52] at H
                have c52b0 : (t347 == 0) = true := beq_iff_eq.mpr c52
                have c52b1 : (t347 != 0) = false := bne_eq_false_iff_eq.mpr c52
                clear c52
                by_cases c53 : t349 = 0
                ·rw [if_pos c53] at H
                 have c53b0 : (t349 == 0) = true := beq_iff_eq.mpr c53
                 have c53b1 : (t349 != 0) = false := bne_eq_false_iff_eq.mpr c53
                 clear c53
                 by_cases c54 : t342 = t344
                 ·rw [if_pos c54] at H
                  have c54b0 : (t342 == t344) = true := beq_iff_eq.mpr c54
                  have c54b1 : (t342 != t344) = false := bne_eq_false_iff_eq.mpr c54
                  clear c54
                  obtain rfl := Option.some.inj H
                  have hcz55_ := cells3_ BK338.out
                  go_wp2_with (first | (go_at_call 9; (with_reducible refine (posthornlaw22_alive.calls k3  true _ A50.out).mono ?_); rintro e w56 ⟨rfl, hb⟩; have n0_ := Aside0.mk (blk_below (g := gb338) (o := .cells #[.string a0_0, .int .i64 a0_1, .slice A0_2 l0_2.length c0_2] 24 (0, 0)) (by (with_reducible repeat (first | refine blk_drewN ?_ _ | refine blk_drew ?_ | refine blk_alloc ?_ _)); exact BK338.out) hb); have n1_ := Aside0.mk (below_step (by repeat (first | (with_reducible first | exact HB.out | apply below_alloc | apply pw_below_drewN | apply below_drew1 | refine below_set ?_ GE338.out) | exact HB.out)) hb); clear BK338; clear HB; have BK338 := n0_; have HB := n1_; clear n0_ n1_; (try clear hb); (try clear hb2); (try clear hk); (try clear hi)))
                  repeat (go_quiet (first | (go_at_call 9; (with_reducible refine (posthornlaw22_alive.calls k3  true _ A50.out).mono ?_); rintro e w56 ⟨rfl, hb⟩; have n0_ := Aside0.mk (blk_below (g := gb338) (o := .cells #[.string a0_0, .int .i64 a0_1, .slice A0_2 l0_2.length c0_2] 24 (0, 0)) (by (with_reducible repeat (first | refine blk_drewN ?_ _ | refine blk_drew ?_ | refine blk_alloc ?_ _)); exact BK338.out) hb); have n1_ := Aside0.mk (below_step (by repeat (first | (with_reducible first | exact HB.out | apply below_alloc | apply pw_below_drewN | apply below_drew1 | refine below_set ?_ GE338.out) | exact HB.out)) hb); clear BK338; clear HB; have BK338 := n0_; have HB := n1_; clear n0_ n1_; (try clear hb); (try clear hb2); (try clear hk); (try clear hi))); try go_wp2_with (first | (go_at_call 9; (with_reducible refine (posthornlaw22_alive.calls k3  true _ A50.out).mono ?_); rintro e w56 ⟨rfl, hb⟩; have n0_ := Aside0.mk (blk_below (g := gb338) (o := .cells #[.string a0_0, .int .i64 a0_1, .slice A0_2 l0_2.length c0_2] 24 (0, 0)) (by (with_reducible repeat (first | refine blk_drewN ?_ _ | refine blk_drew ?_ | refine blk_alloc ?_ _)); exact BK338.out) hb); have n1_ := Aside0.mk (below_step (by repeat (first | (with_reducible first | exact HB.out | apply below_alloc | apply pw_below_drewN | apply below_drew1 | refine below_set ?_ GE338.out) | exact HB.out)) hb); clear BK338; clear HB; have BK338 := n0_; have HB := n1_; clear n0_ n1_; (try clear hb); (try clear hb2); (try clear hk); (try clear hi))))
                  go_ret
                  exact ⟨ret_, by repeat (first | (with_reducible first | exact HB.out | apply below_alloc | apply pw_below_drewN | apply below_drew1 | refine below_set ?_ GE338.out) | exact HB.out)⟩
                 ·rw [if_neg c54] at H
                  have c54b0 : (t342 == t344) = false := beq_eq_false_iff_ne.mpr c54
                  have c54b1 : (t342 != t344) = true := bne_iff_ne.mpr c54
                  obtain rfl := Option.some.inj H
                  have hcz57_ := cells3_ BK338.out
                  go_wp2_with (first | (go_at_call 9; (with_reducible refine (posthornlaw22_alive.calls k3  true _ A50.out).mono ?_); rintro e w58 ⟨rfl, hb⟩; have n0_ := Aside0.mk (blk_below (g := gb338) (o := .cells #[.string a0_0, .int .i64 a0_1, .slice A0_2 l0_2.length c0_2] 24 (0, 0)) (by (with_reducible repeat (first | refine blk_drewN ?_ _ | refine blk_drew ?_ | refine blk_alloc ?_ _)); exact BK338.out) hb); have n1_ := Aside0.mk (below_step (by repeat (first | (with_reducible first | exact HB.out | apply below_alloc | apply pw_below_drewN | apply below_drew1 | refine below_set ?_ GE338.out) | exact HB.out)) hb); clear BK338; clear HB; have BK338 := n0_; have HB := n1_; clear n0_ n1_; (try clear hb); (try clear hb2); (try clear hk); (try clear hi)))
                  repeat (go_quiet (first | (go_at_call 9; (with_reducible refine (posthornlaw22_alive.calls k3  true _ A50.out).mono ?_); rintro e w58 ⟨rfl, hb⟩; have n0_ := Aside0.mk (blk_below (g := gb338) (o := .cells #[.string a0_0, .int .i64 a0_1, .slice A0_2 l0_2.length c0_2] 24 (0, 0)) (by (with_reducible repeat (first | refine blk_drewN ?_ _ | refine blk_drew ?_ | refine blk_alloc ?_ _)); exact BK338.out) hb); have n1_ := Aside0.mk (below_step (by repeat (first | (with_reducible first | exact HB.out | apply below_alloc | apply pw_below_drewN | apply below_drew1 | refine below_set ?_ GE338.out) | exact HB.out)) hb); clear BK338; clear HB; have BK338 := n0_; have HB := n1_; clear n0_ n1_; (try clear hb); (try clear hb2); (try clear hk); (try clear hi))); try go_wp2_with (first | (go_at_call 9; (with_reducible refine (posthornlaw22_alive.calls k3  true _ A50.out).mono ?_); rintro e w58 ⟨rfl, hb⟩; have n0_ := Aside0.mk (blk_below (g := gb338) (o := .cells #[.string a0_0, .int .i64 a0_1, .slice A0_2 l0_2.length c0_2] 24 (0, 0)) (by (with_reducible repeat (first | refine blk_drewN ?_ _ | refine blk_drew ?_ | refine blk_alloc ?_ _)); exact BK338.out) hb); have n1_ := Aside0.mk (below_step (by repeat (first | (with_reducible first | exact HB.out | apply below_alloc | apply pw_below_drewN | apply below_drew1 | refine below_set ?_ GE338.out) | exact HB.out)) hb); clear BK338; clear HB; have BK338 := n0_; have HB := n1_; clear n0_ n1_; (try clear hb); (try clear hb2); (try clear hk); (try clear hi))))
                  go_ret
                  exact ⟨ret_, by repeat (first | (with_reducible first | exact HB.out | apply below_alloc | apply pw_below_drewN | apply below_drew1 | refine below_set ?_ GE338.out) | exact HB.out)⟩
                ·rw [if_neg c53] at H
                 have c53b0 : (t349 == 0) = false := beq_eq_false_iff_ne.mpr c53
                 have c53b1 : (t349 != 0) = true := bne_iff_ne.mpr c53
                 obtain rfl := Option.some.inj H
                 have hcz59_ := cells3_ BK338.out
                 go_wp2_with (first | (go_at_call 9; (with_reducible refine (posthornlaw22_alive.calls k3  true _ A50.out).mono ?_); rintro e w60 ⟨rfl, hb⟩; have n0_ := Aside0.mk (blk_below (g := gb338) (o := .cells #[.string a0_0, .int .i64 a0_1, .slice A0_2 l0_2.length c0_2] 24 (0, 0)) (by (with_reducible repeat (first | refine blk_drewN ?_ _ | refine blk_drew ?_ | refine blk_alloc ?_ _)); exact BK338.out) hb); have n1_ := Aside0.mk (below_step (by repeat (first | (with_reducible first | exact HB.out | apply below_alloc | apply pw_below_drewN | apply below_drew1 | refine below_set ?_ GE338.out) | exact HB.out)) hb); clear BK338; clear HB; have BK338 := n0_; have HB := n1_; clear n0_ n1_; (try clear hb); (try clear hb2); (try clear hk); (try clear hi)))
                 repeat (go_quiet (first | (go_at_call 9; (with_reducible refine (posthornlaw22_alive.calls k3  true _ A50.out).mono ?_); rintro e w60 ⟨rfl, hb⟩; have n0_ := Aside0.mk (blk_below (g := gb338) (o := .cells #[.string a0_0, .int .i64 a0_1, .slice A0_2 l0_2.length c0_2] 24 (0, 0)) (by (with_reducible repeat (first | refine blk_drewN ?_ _ | refine blk_drew ?_ | refine blk_alloc ?_ _)); exact BK338.out) hb); have n1_ := Aside0.mk (below_step (by repeat (first | (with_reducible first | exact HB.out | apply below_alloc | apply pw_below_drewN | apply below_drew1 | refine below_set ?_ GE338.out) | exact HB.out)) hb); clear BK338; clear HB; have BK338 := n0_; have HB := n1_; clear n0_ n1_; (try clear hb); (try clear hb2); (try clear hk); (try clear hi))); try go_wp2_with (first | (go_at_call 9; (with_reducible refine (posthornlaw22_alive.calls k3  true _ A50.out).mono ?_); rintro e w60 ⟨rfl, hb⟩; have n0_ := Aside0.mk (blk_below (g := gb338) (o := .cells #[.string a0_0, .int .i64 a0_1, .slice A0_2 l0_2.length c0_2] 24 (0, 0)) (by (with_reducible repeat (first | refine blk_drewN ?_ _ | refine blk_drew ?_ | refine blk_alloc ?_ _)); exact BK338.out) hb); have n1_ := Aside0.mk (below_step (by repeat (first | (with_reducible first | exact HB.out | apply below_alloc | apply pw_below_drewN | apply below_drew1 | refine below_set ?_ GE338.out) | exact HB.out)) hb); clear BK338; clear HB; have BK338 := n0_; have HB := n1_; clear n0_ n1_; (try clear hb); (try clear hb2); (try clear hk); (try clear hi))))
                 go_ret
                 exact ⟨ret_, by repeat (first | (with_reducible first | exact HB.out | apply below_alloc | apply pw_below_drewN | apply below_drew1 | refine below_set ?_ GE338.out) | exact HB.out)⟩
               ·rw [if_neg c52] at H
                have c52b0 : (t347 == 0) = false := beq_eq_false_iff_ne.mpr c52
                have c52b1 : (t347 != 0) = true := bne_iff_ne.mpr c52
                obtain rfl := Option.some.inj H
                have hcz61_ := cells3_ BK338.out
                go_wp2_with (first | (go_at_call 9; (with_reducible refine (posthornlaw22_alive.calls k3  true _ A50.out).mono ?_); rintro e w62 ⟨rfl, hb⟩; have n0_ := Aside0.mk (blk_below (g := gb338) (o := .cells #[.string a0_0, .int .i64 a0_1, .slice A0_2 l0_2.length c0_2] 24 (0, 0)) (by (with_reducible repeat (first | refine blk_drewN ?_ _ | refine blk_drew ?_ | refine blk_alloc ?_ _)); exact BK338.out) hb); have n1_ := Aside0.mk (below_step (by repeat (first | (with_reducible first | exact HB.out | apply below_alloc | apply pw_below_drewN | apply below_drew1 | refine below_set ?_ GE338.out) | exact HB.out)) hb); clear BK338; clear HB; have BK338 := n0_; have HB := n1_; clear n0_ n1_; (try clear hb); (try clear hb2); (try clear hk); (try clear hi)))
                repeat (go_quiet (first | (go_at_call 9; (with_reducible refine (posthornlaw22_alive.calls k3  true _ A50.out).mono ?_); rintro e w62 ⟨rfl, hb⟩; have n0_ := Aside0.mk (blk_below (g := gb338) (o := .cells #[.string a0_0, .int .i64 a0_1, .slice A0_2 l0_2.length c0_2] 24 (0, 0)) (by (with_reducible repeat (first | refine blk_drewN ?_ _ | refine blk_drew ?_ | refine blk_alloc ?_ _)); exact BK338.out) hb); have n1_ := Aside0.mk (below_step (by repeat (first | (with_reducible first | exact HB.out | apply below_alloc | apply pw_below_drewN | apply below_drew1 | refine below_set ?_ GE338.out) | exact HB.out)) hb); clear BK338; clear HB; have BK338 := n0_; have HB := n1_; clear n0_ n1_; (try clear hb); (try clear hb2); (try clear hk); (try clear hi))); try go_wp2_with (first | (go_at_call 9; (with_reducible refine (posthornlaw22_alive.calls k3  true _ A50.out).mono ?_); rintro e w62 ⟨rfl, hb⟩; have n0_ := Aside0.mk (blk_below (g := gb338) (o := .cells #[.string a0_0, .int .i64 a0_1, .slice A0_2 l0_2.length c0_2] 24 (0, 0)) (by (with_reducible repeat (first | refine blk_drewN ?_ _ | refine blk_drew ?_ | refine blk_alloc ?_ _)); exact BK338.out) hb); have n1_ := Aside0.mk (below_step (by repeat (first | (with_reducible first | exact HB.out | apply below_alloc | apply pw_below_drewN | apply below_drew1 | refine below_set ?_ GE338.out) | exact HB.out)) hb); clear BK338; clear HB; have BK338 := n0_; have HB := n1_; clear n0_ n1_; (try clear hb); (try clear hb2); (try clear hk); (try clear hi))))
                go_ret
                exact ⟨ret_, by repeat (first | (with_reducible first | exact HB.out | apply below_alloc | apply pw_below_drewN | apply below_drew1 | refine below_set ?_ GE338.out) | exact HB.out)⟩
              ·replace c51 := Bool.eq_false_iff.mpr c51
               subst c51
               have H1 : (some false) = some r := by rw [if_neg (show ¬ (false = true) by decide)] at H; exact H
               clear H
               have H := H1
               clear H1
               exact absurd (Option.some.inj H) (by rw [hr_.out]; decide)
             ·rw [if_neg c49] at H
              have c49b0 : (t344 == a0_1) = false := beq_eq_false_iff_ne.mpr c49
              have c49b1 : (t344 != a0_1) = true := bne_iff_ne.mpr c49
              exact absurd (Option.some.inj H) (by rw [hr_.out]; decide)
            ·rw [if_neg c48] at H
             have c48b0 : (t342 == a0_1) = false := beq_eq_false_iff_ne.mpr c48
             have c48b1 : (t342 != a0_1) = true := bne_iff_ne.mpr c48
             exact absurd (Option.some.inj H) (by rw [hr_.out]; decide)
           ·replace c47 := Bool.eq_false_iff.mpr c47
            subst c47
            have H1 : ((posthornlaw22_alive.f k3).bind fun t355 => (if t355 = true then (if t347 = 0 then (if t349 = 0 then (if t342 = t344 then (some ((wrap64 (t346 - t348)) == (wrap64 (a1 - a2)))) else (some true)) else (some true)) else (some true)) else (some false))) = some r := by rw [if_neg (show ¬ (false = true) by decide)] at H; exact H
            clear H
            have H := H1
            clear H1
            replace H := Option.bind_eq_some_iff.mp H
            obtain ⟨t355, A630, H⟩ := H
            replace H : (if t355 = true then (if t347 = 0 then (if t349 = 0 then (if t342 = t344 then (some ((wrap64 (t346 - t348)) == (wrap64 (a1 - a2)))) else (some true)) else (some true)) else (some true)) else (some false)) = some r := H
            have A63 := Aside0.mk A630
            clear A630
            by_cases c64 : t355 = true
            ·subst c64
             have H1 : (if t347 = 0 then (if t349 = 0 then (if t342 = t344 then (some ((wrap64 (t346 - t348)) == (wrap64 (a1 - a2)))) else (some true)) else (some true)) else (some true)) = some r := by rw [if_pos rfl] at H; exact H
             clear H
             have H := H1
             clear H1
             by_cases c65 : t347 = 0
             ·rw [if_pos c65] at H
              have c65b0 : (t347 == 0) = true := beq_iff_eq.mpr c65
              have c65b1 : (t347 != 0) = false := bne_eq_false_iff_eq.mpr c65
              clear c65
              by_cases c66 : t349 = 0
              ·rw [if_pos c66] at H
               have c66b0 : (t349 == 0) = true := beq_iff_eq.mpr c66
               have c66b1 : (t349 != 0) = false := bne_eq_false_iff_eq.mpr c66
               clear c66
               by_cases c67 : t342 = t344
               ·rw [if_pos c67] at H
                have c67b0 : (t342 == t344) = true := beq_iff_eq.mpr c67
                have c67b1 : (t342 != t344) = false := bne_eq_false_iff_eq.mpr c67
                clear c67
                obtain rfl := Option.some.inj H
                have hcz68_ := cells3_ BK338.out
                go_wp2_with (first | (go_at_call 9; (with_reducible refine (posthornlaw22_alive.calls k3  true _ A63.out).mono ?_); rintro e w69 ⟨rfl, hb⟩; have n0_ := Aside0.mk (blk_below (g := gb338) (o := .cells #[.string a0_0, .int .i64 a0_1, .slice A0_2 l0_2.length c0_2] 24 (0, 0)) (by (with_reducible repeat (first | refine blk_drewN ?_ _ | refine blk_drew ?_ | refine blk_alloc ?_ _)); exact BK338.out) hb); have n1_ := Aside0.mk (below_step (by repeat (first | (with_reducible first | exact HB.out | apply below_alloc | apply pw_below_drewN | apply below_drew1 | refine below_set ?_ GE338.out) | exact HB.out)) hb); clear BK338; clear HB; have BK338 := n0_; have HB := n1_; clear n0_ n1_; (try clear hb); (try clear hb2); (try clear hk); (try clear hi)))
                repeat (go_quiet (first | (go_at_call 9; (with_reducible refine (posthornlaw22_alive.calls k3  true _ A63.out).mono ?_); rintro e w69 ⟨rfl, hb⟩; have n0_ := Aside0.mk (blk_below (g := gb338) (o := .cells #[.string a0_0, .int .i64 a0_1, .slice A0_2 l0_2.length c0_2] 24 (0, 0)) (by (with_reducible repeat (first | refine blk_drewN ?_ _ | refine blk_drew ?_ | refine blk_alloc ?_ _)); exact BK338.out) hb); have n1_ := Aside0.mk (below_step (by repeat (first | (with_reducible first | exact HB.out | apply below_alloc | apply pw_below_drewN | apply below_drew1 | refine below_set ?_ GE338.out) | exact HB.out)) hb); clear BK338; clear HB; have BK338 := n0_; have HB := n1_; clear n0_ n1_; (try clear hb); (try clear hb2); (try clear hk); (try clear hi))); try go_wp2_with (first | (go_at_call 9; (with_reducible refine (posthornlaw22_alive.calls k3  true _ A63.out).mono ?_); rintro e w69 ⟨rfl, hb⟩; have n0_ := Aside0.mk (blk_below (g := gb338) (o := .cells #[.string a0_0, .int .i64 a0_1, .slice A0_2 l0_2.length c0_2] 24 (0, 0)) (by (with_reducible repeat (first | refine blk_drewN ?_ _ | refine blk_drew ?_ | refine blk_alloc ?_ _)); exact BK338.out) hb); have n1_ := Aside0.mk (below_step (by repeat (first | (with_reducible first | exact HB.out | apply below_alloc | apply pw_below_drewN | apply below_drew1 | refine below_set ?_ GE338.out) | exact HB.out)) hb); clear BK338; clear HB; have BK338 := n0_; have HB := n1_; clear n0_ n1_; (try clear hb); (try clear hb2); (try clear hk); (try clear hi))))
                go_ret
                exact ⟨ret_, by repeat (first | (with_reducible first | exact HB.out | apply below_alloc | apply pw_below_drewN | apply below_drew1 | refine below_set ?_ GE338.out) | exact HB.out)⟩
               ·rw [if_neg c67] at H
                have c67b0 : (t342 == t344) = false := beq_eq_false_iff_ne.mpr c67
                have c67b1 : (t342 != t344) = true := bne_iff_ne.mpr c67
                obtain rfl := Option.some.inj H
                have hcz70_ := cells3_ BK338.out
                go_wp2_with (first | (go_at_call 9; (with_reducible refine (posthornlaw22_alive.calls k3  true _ A63.out).mono ?_); rintro e w71 ⟨rfl, hb⟩; have n0_ := Aside0.mk (blk_below (g := gb338) (o := .cells #[.string a0_0, .int .i64 a0_1, .slice A0_2 l0_2.length c0_2] 24 (0, 0)) (by (with_reducible repeat (first | refine blk_drewN ?_ _ | refine blk_drew ?_ | refine blk_alloc ?_ _)); exact BK338.out) hb); have n1_ := Aside0.mk (below_step (by repeat (first | (with_reducible first | exact HB.out | apply below_alloc | apply pw_below_drewN | apply below_drew1 | refine below_set ?_ GE338.out) | exact HB.out)) hb); clear BK338; clear HB; have BK338 := n0_; have HB := n1_; clear n0_ n1_; (try clear hb); (try clear hb2); (try clear hk); (try clear hi)))
                repeat (go_quiet (first | (go_at_call 9; (with_reducible refine (posthornlaw22_alive.calls k3  true _ A63.out).mono ?_); rintro e w71 ⟨rfl, hb⟩; have n0_ := Aside0.mk (blk_below (g := gb338) (o := .cells #[.string a0_0, .int .i64 a0_1, .slice A0_2 l0_2.length c0_2] 24 (0, 0)) (by (with_reducible repeat (first | refine blk_drewN ?_ _ | refine blk_drew ?_ | refine blk_alloc ?_ _)); exact BK338.out) hb); have n1_ := Aside0.mk (below_step (by repeat (first | (with_reducible first | exact HB.out | apply below_alloc | apply pw_below_drewN | apply below_drew1 | refine below_set ?_ GE338.out) | exact HB.out)) hb); clear BK338; clear HB; have BK338 := n0_; have HB := n1_; clear n0_ n1_; (try clear hb); (try clear hb2); (try clear hk); (try clear hi))); try go_wp2_with (first | (go_at_call 9; (with_reducible refine (posthornlaw22_alive.calls k3  true _ A63.out).mono ?_); rintro e w71 ⟨rfl, hb⟩; have n0_ := Aside0.mk (blk_below (g := gb338) (o := .cells #[.string a0_0, .int .i64 a0_1, .slice A0_2 l0_2.length c0_2] 24 (0, 0)) (by (with_reducible repeat (first | refine blk_drewN ?_ _ | refine blk_drew ?_ | refine blk_alloc ?_ _)); exact BK338.out) hb); have n1_ := Aside0.mk (below_step (by repeat (first | (with_reducible first | exact HB.out | apply below_alloc | apply pw_below_drewN | apply below_drew1 | refine below_set ?_ GE338.out) | exact HB.out)) hb); clear BK338; clear HB; have BK338 := n0_; have HB := n1_; clear n0_ n1_; (try clear hb); (try clear hb2); (try clear hk); (try clear hi))))
                go_ret
                exact ⟨ret_, by repeat (first | (with_reducible first | exact HB.out | apply below_alloc | apply pw_below_drewN | apply below_drew1 | refine below_set ?_ GE338.out) | exact HB.out)⟩
              ·rw [if_neg c66] at H
               have c66b0 : (t349 == 0) = false := beq_eq_false_iff_ne.mpr c66
               have c66b1 : (t349 != 0) = true := bne_iff_ne.mpr c66
               obtain rfl := Option.some.inj H
               have hcz72_ := cells3_ BK338.out
               go_wp2_with (first | (go_at_call 9; (with_reducible refine (posthornlaw22_alive.calls k3  true _ A63.out).mono ?_); rintro e w73 ⟨rfl, hb⟩; have n0_ := Aside0.mk (blk_below (g := gb338) (o := .cells #[.string a0_0, .int .i64 a0_1, .slice A0_2 l0_2.length c0_2] 24 (0, 0)) (by (with_reducible repeat (first | refine blk_drewN ?_ _ | refine blk_drew ?_ | refine blk_alloc ?_ _)); exact BK338.out) hb); have n1_ := Aside0.mk (below_step (by repeat (first | (with_reducible first | exact HB.out | apply below_alloc | apply pw_below_drewN | apply below_drew1 | refine below_set ?_ GE338.out) | exact HB.out)) hb); clear BK338; clear HB; have BK338 := n0_; have HB := n1_; clear n0_ n1_; (try clear hb); (try clear hb2); (try clear hk); (try clear hi)))
               repeat (go_quiet (first | (go_at_call 9; (with_reducible refine (posthornlaw22_alive.calls k3  true _ A63.out).mono ?_); rintro e w73 ⟨rfl, hb⟩; have n0_ := Aside0.mk (blk_below (g := gb338) (o := .cells #[.string a0_0, .int .i64 a0_1, .slice A0_2 l0_2.length c0_2] 24 (0, 0)) (by (with_reducible repeat (first | refine blk_drewN ?_ _ | refine blk_drew ?_ | refine blk_alloc ?_ _)); exact BK338.out) hb); have n1_ := Aside0.mk (below_step (by repeat (first | (with_reducible first | exact HB.out | apply below_alloc | apply pw_below_drewN | apply below_drew1 | refine below_set ?_ GE338.out) | exact HB.out)) hb); clear BK338; clear HB; have BK338 := n0_; have HB := n1_; clear n0_ n1_; (try clear hb); (try clear hb2); (try clear hk); (try clear hi))); try go_wp2_with (first | (go_at_call 9; (with_reducible refine (posthornlaw22_alive.calls k3  true _ A63.out).mono ?_); rintro e w73 ⟨rfl, hb⟩; have n0_ := Aside0.mk (blk_below (g := gb338) (o := .cells #[.string a0_0, .int .i64 a0_1, .slice A0_2 l0_2.length c0_2] 24 (0, 0)) (by (with_reducible repeat (first | refine blk_drewN ?_ _ | refine blk_drew ?_ | refine blk_alloc ?_ _)); exact BK338.out) hb); have n1_ := Aside0.mk (below_step (by repeat (first | (with_reducible first | exact HB.out | apply below_alloc | apply pw_below_drewN | apply below_drew1 | refine below_set ?_ GE338.out) | exact HB.out)) hb); clear BK338; clear HB; have BK338 := n0_; have HB := n1_; clear n0_ n1_; (try clear hb); (try clear hb2); (try clear hk); (try clear hi))))
               go_ret
               exact ⟨ret_, by repeat (first | (with_reducible first | exact HB.out | apply below_alloc | apply pw_below_drewN | apply below_drew1 | refine below_set ?_ GE338.out) | exact HB.out)⟩
             ·rw [if_neg c65] at H
              have c65b0 : (t347 == 0) = false := beq_eq_false_iff_ne.mpr c65
              have c65b1 : (t347 != 0) = true := bne_iff_ne.mpr c65
              obtain rfl := Option.some.inj H
              have hcz74_ := cells3_ BK338.out
              go_wp2_with (first | (go_at_call 9; (with_reducible refine (posthornlaw22_alive.calls k3  true _ A63.out).mono ?_); rintro e w75 ⟨rfl, hb⟩; have n0_ := Aside0.mk (blk_below (g := gb338) (o := .cells #[.string a0_0, .int .i64 a0_1, .slice A0_2 l0_2.length c0_2] 24 (0, 0)) (by (with_reducible repeat (first | refine blk_drewN ?_ _ | refine blk_drew ?_ | refine blk_alloc ?_ _)); exact BK338.out) hb); have n1_ := Aside0.mk (below_step (by repeat (first | (with_reducible first | exact HB.out | apply below_alloc | apply pw_below_drewN | apply below_drew1 | refine below_set ?_ GE338.out) | exact HB.out)) hb); clear BK338; clear HB; have BK338 := n0_; have HB := n1_; clear n0_ n1_; (try clear hb); (try clear hb2); (try clear hk); (try clear hi)))
              repeat (go_quiet (first | (go_at_call 9; (with_reducible refine (posthornlaw22_alive.calls k3  true _ A63.out).mono ?_); rintro e w75 ⟨rfl, hb⟩; have n0_ := Aside0.mk (blk_below (g := gb338) (o := .cells #[.string a0_0, .int .i64 a0_1, .slice A0_2 l0_2.length c0_2] 24 (0, 0)) (by (with_reducible repeat (first | refine blk_drewN ?_ _ | refine blk_drew ?_ | refine blk_alloc ?_ _)); exact BK338.out) hb); have n1_ := Aside0.mk (below_step (by repeat (first | (with_reducible first | exact HB.out | apply below_alloc | apply pw_below_drewN | apply below_drew1 | refine below_set ?_ GE338.out) | exact HB.out)) hb); clear BK338; clear HB; have BK338 := n0_; have HB := n1_; clear n0_ n1_; (try clear hb); (try clear hb2); (try clear hk); (try clear hi))); try go_wp2_with (first | (go_at_call 9; (with_reducible refine (posthornlaw22_alive.calls k3  true _ A63.out).mono ?_); rintro e w75 ⟨rfl, hb⟩; have n0_ := Aside0.mk (blk_below (g := gb338) (o := .cells #[.string a0_0, .int .i64 a0_1, .slice A0_2 l0_2.length c0_2] 24 (0, 0)) (by (with_reducible repeat (first | refine blk_drewN ?_ _ | refine blk_drew ?_ | refine blk_alloc ?_ _)); exact BK338.out) hb); have n1_ := Aside0.mk (below_step (by repeat (first | (with_reducible first | exact HB.out | apply below_alloc | apply pw_below_drewN | apply below_drew1 | refine below_set ?_ GE338.out) | exact HB.out)) hb); clear BK338; clear HB; have BK338 := n0_; have HB := n1_; clear n0_ n1_; (try clear hb); (try clear hb2); (try clear hk); (try clear hi))))
              go_ret
              exact ⟨ret_, by repeat (first | (with_reducible first | exact HB.out | apply below_alloc | apply pw_below_drewN | apply below_drew1 | refine below_set ?_ GE338.out) | exact HB.out)⟩
            ·replace c64 := Bool.eq_false_iff.mpr c64
             subst c64
             have H1 : (some false) = some r := by rw [if_neg (show ¬ (false = true) by decide)] at H; exact H
             clear H
             have H := H1
             clear H1
             exact absurd (Option.some.inj H) (by rw [hr_.out]; decide)
          ·replace c46 := Bool.eq_false_iff.mpr c46
           subst c46
           have H1 : (some false) = some r := by rw [if_neg (show ¬ (false = true) by decide)] at H; exact H
           clear H
           have H := H1
           clear H1
           exact absurd (Option.some.inj H) (by rw [hr_.out]; decide)

end Go.Proofs.Ytlplmkllmgdifaa.PZ

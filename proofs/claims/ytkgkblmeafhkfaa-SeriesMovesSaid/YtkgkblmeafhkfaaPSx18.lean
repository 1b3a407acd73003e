-- Written by a program of the session (wip/tools).
import Derived.Test.YtkgkblmeafhkfaaPSx0
import Derived.Test.YtkgkblmeafhkfaaPSx1
import Derived.Test.YtkgkblmeafhkfaaPSx4
import Derived.Test.YtkgkblmeafhkfaaPSx14
import Derived.Test.YtkgkblmeafhkfaaPSx15
namespace Go.Proofs.Ytkgkblmeafhkfaa.PS
open Go.RowKit Go.Proofs.YtkgkblmeafhkfaaW.PrintWords Go.Proofs.YtkgkblmeafhkfaaW.PrintLast Go.Proofs.YtkgkblmeafhkfaaW.PrintMore
attribute [local go_sem] max2_int min2_int max_two min_two max_three min_three max_four min_four   -- for this text's walks alone
set_option linter.unusedVariables false
set_option linter.unusedSimpArgs false

attribute [local go_sem high] eqA37
/-! ### posthornlaw23_SeriesMoves: function 5 -/
mutual
def posthornlaw23_SeriesMoves.j0 : Nat → Int → Int → Int → Int → Bool → Int → Int → Bool → Int → Int → Int → Int → List Int → Option (Bool)
 | 0, _, _, _, _, _, _, _, _, _, _, _, _, _ => none
 | k + 1, x0, x1, x2, x3, x4, x349000, x349001, x349002, x349003, x349004, x349005, x349006, x349010 => (posthornlaw23_Great.f x349000 x349001 x349002 x349003 x349004 x349005 x349006 ([] : List Int) ([] : List Int) ([] : List (S78)) x349010 ([] : List Int) ([] : List (S39)) x3).bind fun t352 => (if t352 = true then (posthornlaw23_SeriesMoves.j1 k x0 x1 x2 x3 x4 true x349000 x349001 x349002 x349003 x349004 x349005 x349006 x349010) else ((posthornlaw23_Great.f x349000 x349001 x349002 x349003 x349004 x349005 x349006 ([] : List Int) ([] : List Int) ([] : List (S78)) x349010 ([] : List Int) ([] : List (S39)) x2).bind fun t353 => (posthornlaw23_SeriesMoves.j1 k x0 x1 x2 x3 x4 t353 x349000 x349001 x349002 x349003 x349004 x349005 x349006 x349010)))
def posthornlaw23_SeriesMoves.j1 : Nat → Int → Int → Int → Int → Bool → Bool → Int → Int → Bool → Int → Int → Int → Int → List Int → Option (Bool)
 | 0, _, _, _, _, _, _, _, _, _, _, _, _, _, _ => none
 | k + 1, x0, x1, x2, x3, x4, x29, x349000, x349001, x349002, x349003, x349004, x349005, x349006, x349010 => if x29 = true then ((posthornlaw23_alive.f k).bind fun t354 => (some t354)) else ((series_Instances.f k x349000 x349001 x349002 x349003 x349004 x349005 x349006 ([] : List Int) ([] : List Int) ([] : List (S78)) x349010 ([] : List Int) ([] : List (S39)) x2 x3).bind fun bt355 => (if bt355.2 = 0 then (if x4 = true then ((posthornlaw23_alive.f k).bind fun t359 => (if t359 = true then (if (bt355.1.length : Int) = 0 then (if 0 = 0 then (some true) else (if 0 < (bt355.1.length : Int) then (some (((rd_T37 bt355.1 0).f0) == x0 && (((rd_T37 bt355.1 0).f1) == x0 && (((rd_T37 bt355.1 0).f2) == (wrap64 (x0 + x1)) && (!((rd_T37 bt355.1 0).f3)))))) else (none))) else (some false)) else (some false))) else (if x0 < x3 then (if (wrap64 (x0 + x1)) > x2 then ((posthornlaw23_alive.f k).bind fun t361 => (if t361 = true then (if (bt355.1.length : Int) = 1 then (if 1 = 0 then (some true) else (if 0 < (bt355.1.length : Int) then (some (((rd_T37 bt355.1 0).f0) == x0 && (((rd_T37 bt355.1 0).f1) == x0 && (((rd_T37 bt355.1 0).f2) == (wrap64 (x0 + x1)) && (!((rd_T37 bt355.1 0).f3)))))) else (none))) else (some false)) else (some false))) else (if x1 = 0 then (if x0 ≥ x2 then ((posthornlaw23_alive.f k).bind fun t363 => (if t363 = true then (if (bt355.1.length : Int) = 1 then (if 1 = 0 then (some true) else (if 0 < (bt355.1.length : Int) then (some (((rd_T37 bt355.1 0).f0) == x0 && (((rd_T37 bt355.1 0).f1) == x0 && (((rd_T37 bt355.1 0).f2) == (wrap64 (x0 + x1)) && (!((rd_T37 bt355.1 0).f3)))))) else (none))) else (some false)) else (some false))) else ((posthornlaw23_alive.f k).bind fun t365 => (if t365 = true then (if (bt355.1.length : Int) = 0 then (if 0 = 0 then (some true) else (if 0 < (bt355.1.length : Int) then (some (((rd_T37 bt355.1 0).f0) == x0 && (((rd_T37 bt355.1 0).f1) == x0 && (((rd_T37 bt355.1 0).f2) == (wrap64 (x0 + x1)) && (!((rd_T37 bt355.1 0).f3)))))) else (none))) else (some false)) else (some false)))) else ((posthornlaw23_alive.f k).bind fun t367 => (if t367 = true then (if (bt355.1.length : Int) = 0 then (if 0 = 0 then (some true) else (if 0 < (bt355.1.length : Int) then (some (((rd_T37 bt355.1 0).f0) == x0 && (((rd_T37 bt355.1 0).f1) == x0 && (((rd_T37 bt355.1 0).f2) == (wrap64 (x0 + x1)) && (!((rd_T37 bt355.1 0).f3)))))) else (none))) else (some false)) else (some false))))) else ((posthornlaw23_alive.f k).bind fun t369 => (if t369 = true then (if (bt355.1.length : Int) = 0 then (if 0 = 0 then (some true) else (if 0 < (bt355.1.length : Int) then (some (((rd_T37 bt355.1 0).f0) == x0 && (((rd_T37 bt355.1 0).f1) == x0 && (((rd_T37 bt355.1 0).f2) == (wrap64 (x0 + x1)) && (!((rd_T37 bt355.1 0).f3)))))) else (none))) else (some false)) else (some false))))) else ((posthornlaw23_alive.f k).bind fun t371 => (if t371 = true then (some ((bt355.1.length : Int) == 0)) else (some false)))))
end
def posthornlaw23_SeriesMoves.f (k : Nat) (a0 : Int) (a1 : Int) (a2 : Int) (a3 : Int) (a4 : Bool) : Option (Bool) := if a4 = true then (posthornlaw23_SeriesMoves.j0 k a0 a1 a2 a3 a4 a0 a1 false 0 0 0 0 (([a0] : List Int))) else (posthornlaw23_SeriesMoves.j0 k a0 a1 a2 a3 a4 a0 a1 false 0 0 0 0 ([] : List Int))
theorem posthornlaw23_SeriesMoves.mono_l : ∀ k, (∀ y0 y1 y2 y3 y4 y5 y6 y7 y8 y9 y10 y11 y12, LeO (posthornlaw23_SeriesMoves.j0 k y0 y1 y2 y3 y4 y5 y6 y7 y8 y9 y10 y11 y12) (posthornlaw23_SeriesMoves.j0 (k + 1) y0 y1 y2 y3 y4 y5 y6 y7 y8 y9 y10 y11 y12)) ∧ (∀ y0 y1 y2 y3 y4 y5 y6 y7 y8 y9 y10 y11 y12 y13, LeO (posthornlaw23_SeriesMoves.j1 k y0 y1 y2 y3 y4 y5 y6 y7 y8 y9 y10 y11 y12 y13) (posthornlaw23_SeriesMoves.j1 (k + 1) y0 y1 y2 y3 y4 y5 y6 y7 y8 y9 y10 y11 y12 y13))
 | 0 => ⟨fun _ _ _ _ _ _ _ _ _ _ _ _ _ r h => by simp [posthornlaw23_SeriesMoves.j0] at h, fun _ _ _ _ _ _ _ _ _ _ _ _ _ _ r h => by simp [posthornlaw23_SeriesMoves.j1] at h⟩
 | k + 1 => by
  obtain ⟨ih0, ih1⟩ := posthornlaw23_SeriesMoves.mono_l k
  refine ⟨?_, ?_⟩
  all_goals
   intros
   first | unfold posthornlaw23_SeriesMoves.j0 | unfold posthornlaw23_SeriesMoves.j1
   repeat' first
   | (with_reducible exact ih0 ..)
   | (with_reducible exact ih1 ..)
   | (with_reducible exact posthornlaw23_alive.mono ..)
   | (with_reducible exact series_Instances.mono ..)
   | (with_reducible exact LeO.refl ..)
   | (with_reducible exact LeO.none ..)
   | (with_reducible refine LeO.ite ?_ ?_)
   | (with_reducible refine LeO.bind ?_ (fun _ => ?_))
   | exact ih0 ..
   | exact ih1 ..
   | exact posthornlaw23_alive.mono ..
   | exact series_Instances.mono ..
   | exact LeO.none ..
   | refine LeO.ite ?_ ?_
   | refine LeO.bind ?_ (fun _ => ?_)
theorem posthornlaw23_SeriesMoves.mono : ∀ a0 a1 a2 a3 a4 k, LeO (posthornlaw23_SeriesMoves.f k a0 a1 a2 a3 a4) (posthornlaw23_SeriesMoves.f (k + 1) a0 a1 a2 a3 a4) := by
 intro a0 a1 a2 a3 a4 k
 obtain ⟨ih0, ih1⟩ := posthornlaw23_SeriesMoves.mono_l k
 unfold posthornlaw23_SeriesMoves.f
 repeat' first
   | (with_reducible exact ih0 ..)
   | (with_reducible exact ih1 ..)
   | (with_reducible exact posthornlaw23_alive.mono ..)
   | (with_reducible exact series_Instances.mono ..)
   | (with_reducible exact LeO.refl ..)
   | (with_reducible exact LeO.none ..)
   | (with_reducible refine LeO.ite ?_ ?_)
   | (with_reducible refine LeO.bind ?_ (fun _ => ?_))
   | exact ih0 ..
   | exact ih1 ..
   | exact posthornlaw23_alive.mono ..
   | exact series_Instances.mono ..
   | exact LeO.none ..
   | refine LeO.ite ?_ ?_
   | refine LeO.bind ?_ (fun _ => ?_)
set_option maxHeartbeats 8000000 in
set_option maxRecDepth 100000 in
theorem posthornlaw23_SeriesMoves.calls (k : Nat) (a0 : Int) (a1 : Int) (a2 : Int) (a3 : Int) (a4 : Bool) (r : Bool) (w : World) (h : posthornlaw23_SeriesMoves.f k a0 a1 a2 a3 a4 = some r) (hr_ : Aside0 (r = true) := by first | exact ⟨rfl⟩ | assumption) :
  Calls Try.prog 5 #[.int .i64 a0, .int .i64 a1, .int .i64 a2, .int .i64 a3, .bool a4] w fun e w' => e = .returned (.bool r) ∧ Below w.heap.size w w' := by
 have hu29 := Try.underlying29
 have hu37 := Try.underlying37
 have HB := ad_ (Below.refl w.heap.size w)
 have H : (if a4 = true then (posthornlaw23_SeriesMoves.j0 k a0 a1 a2 a3 a4 a0 a1 false 0 0 0 0 (([a0] : List Int))) else (posthornlaw23_SeriesMoves.j0 k a0 a1 a2 a3 a4 a0 a1 false 0 0 0 0 ([] : List Int))) = some r := h
 clear h
 have HC6 := Aside0.mk H
 clear H
 go_enter Try.func5, Try.ntmps5
 go_upto_if 18 with (first | ((with_reducible refine gate_dst (N := 11) rfl ?_); (try (refine gate_guard (by rfl) ?_; dsimp only)); refine box_event ?hg (N := 11) ?hd (cs := #[.int .i64 0, .int .i64 0, .bool false, .int .i64 0, .int .i64 0, .int .i64 0, .int .i64 0, .slice none 0 0, .slice none 0 0, .slice none 0 0, .slice none 0 0, .slice none 0 0, .slice none 0 0]) (t := 29) ?hr ?_; (case hd => rfl); (case hg => rfl); (case hr => first | (go_simp; done) | (go_simp; rfl)); intro gb348 hg w7 hbox hb; have n0_ := ad_ (below_step bel_ hb); have n1_ := ad_ (hbox); have n2_ := ad_ ((by rw [hg]; exact (below_size bel_) : w.heap.size ≤ gb348)); have n3_ := ad_ ((by rw [hg]; exact (below_size bel_) : w.heap.size ≤ gb348)); clear HB; have HB := n0_; have BK348 := n1_; have GW348 := n2_; have GE348 := n3_; clear n0_ n1_ n2_ n3_; clear hb hbox hg; have hcz8_ := cells13_ BK348.out))
 (try simp only [Act.put, List.setIfInBounds_toArray, List.set_cons_zero, List.set_cons_succ])
 go_cut [] (fun wc => ∃ (kq : Nat) (x349010_5 : List Int) (u349010 : Value), Aside0 (posthornlaw23_SeriesMoves.j0 kq a0 a1 a2 a3 a4 a0 a1 false 0 0 0 0 x349010_5 = some r) ∧ Aside0 (kq ≤ k) ∧ Aside0 (Kd.R (Kd.int .i64) 2 wc w.heap.size (fun _ => True) u349010 x349010_5) ∧ Aside0 (wc.heap[gb348]? = some (.cells #[.int .i64 a0, .int .i64 a1, .bool false, .int .i64 0, .int .i64 0, .int .i64 0, .int .i64 0, (.slice none 0 0), (.slice none 0 0), (.slice none 0 0), u349010, (.slice none 0 0), (.slice none 0 0)] 29 (0, 0))) ∧ Aside0 (Below w.heap.size w wc))
 case first =>
  have H := HC6.out
  clear HC6
  by_cases c9 : a4 = true
  ·subst c9
   have H1 := ifp_ H
   clear H
   have H := H1
   clear H1
   obtain ⟨y349, hy349⟩ : ∃ y_ : List Int, y_ = (([a0] : List Int)) := ⟨_, rfl⟩
   replace H : (posthornlaw23_SeriesMoves.j0 k a0 a1 a2 a3 true a0 a1 false 0 0 0 0 y349) = some r := by first | (rw [hy349]; with_reducible exact H) | (have H2_ := (Option.bind_some _ _).symm.trans H; rw [hy349]; with_reducible exact H2_) | (have H2_ := (Option.bind_some _ _).symm.trans H; with_reducible exact H2_) | with_reducible exact H | (rw [hy349]; exact H) | exact H
   have Ny349 := Aside0.mk hy349
   clear hy349
   have H' := Aside0.mk H
   clear H
   go_wp2_with (first | ((with_reducible refine gate_dst (N := 20) rfl ?_); (try (refine gate_guard (by rfl) ?_; dsimp only)); refine Kd.R_lit (Kd.int .i64) _ 2 ?hg (N := 20) ?hd (xs := ([a0] : List Int)) (inner := [.int .i64 a0]) (ok := fun _ => True) (okp := fun _ => True) ?hr ?hp (fun _ hk => hk) trivial (Below.refl _ _) (Nat.le_refl _) (by simp) ?_; (case hd => rfl); (case hg => rfl); (case hr => first | (go_simp; done) | (go_simp; rfl)); (case hp => exact (Reps.one (show Kd.M (Kd.int .i64) _ _ _ a0 [.int .i64 a0] from rfl) (Reps.none _ _))); intro v350 w10 ho11 hb hg_ hnew_; clear hg_ hnew_; (first | rw [← Ny349.out] at ho11 | (simp only [Int.reduceToNat] at ho11; rw [← Ny349.out] at ho11)); have n0_ := ad_ (Kd.R_lower ho11 (below_size belg_)); have n1_ := ad_ (blk_below (g := gb348) (o := .cells #[.int .i64 a0, .int .i64 a1, .bool false, .int .i64 0, .int .i64 0, .int .i64 0, .int .i64 0, .slice none 0 0, .slice none 0 0, .slice none 0 0, .slice none 0 0, .slice none 0 0, .slice none 0 0] 29 (0, 0)) (by refine blo_ ?_; refine blk_put (cs := #[.int .i64 a0, .int .i64 a1, .bool false, .int .i64 0, .int .i64 0, .int .i64 0, .int .i64 0, .slice none 0 0, .slice none 0 0, .slice none 0 0, .slice none 0 0, .slice none 0 0, .slice none 0 0]) ?_ 12 _ rfl; refine blo_ ?_; refine blk_put (cs := #[.int .i64 a0, .int .i64 a1, .bool false, .int .i64 0, .int .i64 0, .int .i64 0, .int .i64 0, .slice none 0 0, .slice none 0 0, .slice none 0 0, .slice none 0 0, .slice none 0 0, .slice none 0 0]) ?_ 11 _ rfl; refine blo_ ?_; refine blk_put (cs := #[.int .i64 a0, .int .i64 a1, .bool false, .int .i64 0, .int .i64 0, .int .i64 0, .int .i64 0, .slice none 0 0, .slice none 0 0, .slice none 0 0, .slice none 0 0, .slice none 0 0, .slice none 0 0]) ?_ 10 _ rfl; refine blo_ ?_; refine blk_put (cs := #[.int .i64 a0, .int .i64 a1, .bool false, .int .i64 0, .int .i64 0, .int .i64 0, .int .i64 0, .slice none 0 0, .slice none 0 0, .slice none 0 0, .slice none 0 0, .slice none 0 0, .slice none 0 0]) ?_ 9 _ rfl; refine blo_ ?_; refine blk_put (cs := #[.int .i64 a0, .int .i64 a1, .bool false, .int .i64 0, .int .i64 0, .int .i64 0, .int .i64 0, .slice none 0 0, .slice none 0 0, .slice none 0 0, .slice none 0 0, .slice none 0 0, .slice none 0 0]) ?_ 8 _ rfl; refine blo_ ?_; refine blk_put (cs := #[.int .i64 a0, .int .i64 a1, .bool false, .int .i64 0, .int .i64 0, .int .i64 0, .int .i64 0, .slice none 0 0, .slice none 0 0, .slice none 0 0, .slice none 0 0, .slice none 0 0, .slice none 0 0]) ?_ 7 _ rfl; refine blo_ ?_; refine blk_put (cs := #[.int .i64 a0, .int .i64 a1, .bool false, .int .i64 0, .int .i64 0, .int .i64 0, .int .i64 0, .slice none 0 0, .slice none 0 0, .slice none 0 0, .slice none 0 0, .slice none 0 0, .slice none 0 0]) ?_ 6 _ rfl; refine blo_ ?_; refine blk_put (cs := #[.int .i64 a0, .int .i64 a1, .bool false, .int .i64 0, .int .i64 0, .int .i64 0, .int .i64 0, .slice none 0 0, .slice none 0 0, .slice none 0 0, .slice none 0 0, .slice none 0 0, .slice none 0 0]) ?_ 5 _ rfl; refine blo_ ?_; refine blk_put (cs := #[.int .i64 a0, .int .i64 a1, .bool false, .int .i64 0, .int .i64 0, .int .i64 0, .int .i64 0, .slice none 0 0, .slice none 0 0, .slice none 0 0, .slice none 0 0, .slice none 0 0, .slice none 0 0]) ?_ 4 _ rfl; refine blo_ ?_; refine blk_put (cs := #[.int .i64 a0, .int .i64 a1, .bool false, .int .i64 0, .int .i64 0, .int .i64 0, .int .i64 0, .slice none 0 0, .slice none 0 0, .slice none 0 0, .slice none 0 0, .slice none 0 0, .slice none 0 0]) ?_ 3 _ rfl; refine blo_ ?_; refine blk_put (cs := #[.int .i64 a0, .int .i64 a1, .bool false, .int .i64 0, .int .i64 0, .int .i64 0, .int .i64 0, .slice none 0 0, .slice none 0 0, .slice none 0 0, .slice none 0 0, .slice none 0 0, .slice none 0 0]) ?_ 2 _ rfl; refine blo_ ?_; refine blk_put (cs := #[.int .i64 a0, .int .i64 0, .bool false, .int .i64 0, .int .i64 0, .int .i64 0, .int .i64 0, .slice none 0 0, .slice none 0 0, .slice none 0 0, .slice none 0 0, .slice none 0 0, .slice none 0 0]) ?_ 1 _ rfl; refine blo_ ?_; refine blk_put (cs := #[.int .i64 0, .int .i64 0, .bool false, .int .i64 0, .int .i64 0, .int .i64 0, .int .i64 0, .slice none 0 0, .slice none 0 0, .slice none 0 0, .slice none 0 0, .slice none 0 0, .slice none 0 0]) ?_ 0 _ rfl; exact blo_ BK348.out) hb); have n2_ := ad_ (below_step belg_ hb); clear BK348; clear HB; have HO351 := n0_; have BK348 := n1_; have HB := n2_; clear n0_ n1_ n2_; clear hb ho11; obtain ⟨Ao12, co12, eo12⟩ := Kd.R_slice HO351.out; subst eo12; have hcz13_ := cells13_ BK348.out))
   go_meet
   case rel => exact ⟨_, (y349), (.slice Ao12 y349.length co12), H', ⟨by first | omega | exact Nat.le_refl _⟩, ⟨by (with_reducible repeat (first | apply Kd.R_alloc | apply Kd.R_drewN | apply Kd.R_drew)); exact Kd.R_mono (Kd.R_far (p := ⟨gb348, 10, none⟩) (Kd.R_types HO351.out BK348.out (by decide)) (fun _ hk => hk.2) (.slice Ao12 y349.length co12)) (fun _ hk => trivial)⟩, ⟨by refine blo_ ?_; refine blk_put (cs := #[.int .i64 a0, .int .i64 a1, .bool false, .int .i64 0, .int .i64 0, .int .i64 0, .int .i64 0, .slice none 0 0, .slice none 0 0, .slice none 0 0, .slice none 0 0, .slice none 0 0, .slice none 0 0]) ?_ 10 _ rfl; exact blo_ BK348.out⟩, ⟨belg_⟩⟩
  ·replace c9 := Bool.eq_false_iff.mpr c9
   subst c9
   have H1 := ifn_ H
   clear H
   have H := H1
   clear H1
   have H' := Aside0.mk H
   clear H
   go_wp2
   go_meet
   case rel => exact ⟨_, (([] : List Int)), (.slice none 0 0), H', ⟨by first | omega | exact Nat.le_refl _⟩, ⟨by first | exact Kd.R_nil _ _ _ _ _ | exact Kd.N_nil _ _ _ _ _ | exact Kd.V_nil _ _ _ _ _ | exact Kd.Q_nil _ _ _ _ _ | exact Kd.S_nil _ _ _ _ _⟩, ⟨by refine blo_ ?_; refine blk_put (cs := #[.int .i64 a0, .int .i64 a1, .bool false, .int .i64 0, .int .i64 0, .int .i64 0, .int .i64 0, .slice none 0 0, .slice none 0 0, .slice none 0 0, .slice none 0 0, .slice none 0 0, .slice none 0 0]) ?_ 12 _ rfl; refine blo_ ?_; refine blk_put (cs := #[.int .i64 a0, .int .i64 a1, .bool false, .int .i64 0, .int .i64 0, .int .i64 0, .int .i64 0, .slice none 0 0, .slice none 0 0, .slice none 0 0, .slice none 0 0, .slice none 0 0, .slice none 0 0]) ?_ 11 _ rfl; refine blo_ ?_; refine blk_put (cs := #[.int .i64 a0, .int .i64 a1, .bool false, .int .i64 0, .int .i64 0, .int .i64 0, .int .i64 0, .slice none 0 0, .slice none 0 0, .slice none 0 0, .slice none 0 0, .slice none 0 0, .slice none 0 0]) ?_ 10 _ rfl; refine blo_ ?_; refine blk_put (cs := #[.int .i64 a0, .int .i64 a1, .bool false, .int .i64 0, .int .i64 0, .int .i64 0, .int .i64 0, .slice none 0 0, .slice none 0 0, .slice none 0 0, .slice none 0 0, .slice none 0 0, .slice none 0 0]) ?_ 9 _ rfl; refine blo_ ?_; refine blk_put (cs := #[.int .i64 a0, .int .i64 a1, .bool false, .int .i64 0, .int .i64 0, .int .i64 0, .int .i64 0, .slice none 0 0, .slice none 0 0, .slice none 0 0, .slice none 0 0, .slice none 0 0, .slice none 0 0]) ?_ 8 _ rfl; refine blo_ ?_; refine blk_put (cs := #[.int .i64 a0, .int .i64 a1, .bool false, .int .i64 0, .int .i64 0, .int .i64 0, .int .i64 0, .slice none 0 0, .slice none 0 0, .slice none 0 0, .slice none 0 0, .slice none 0 0, .slice none 0 0]) ?_ 7 _ rfl; refine blo_ ?_; refine blk_put (cs := #[.int .i64 a0, .int .i64 a1, .bool false, .int .i64 0, .int .i64 0, .int .i64 0, .int .i64 0, .slice none 0 0, .slice none 0 0, .slice none 0 0, .slice none 0 0, .slice none 0 0, .slice none 0 0]) ?_ 6 _ rfl; refine blo_ ?_; refine blk_put (cs := #[.int .i64 a0, .int .i64 a1, .bool false, .int .i64 0, .int .i64 0, .int .i64 0, .int .i64 0, .slice none 0 0, .slice none 0 0, .slice none 0 0, .slice none 0 0, .slice none 0 0, .slice none 0 0]) ?_ 5 _ rfl; refine blo_ ?_; refine blk_put (cs := #[.int .i64 a0, .int .i64 a1, .bool false, .int .i64 0, .int .i64 0, .int .i64 0, .int .i64 0, .slice none 0 0, .slice none 0 0, .slice none 0 0, .slice none 0 0, .slice none 0 0, .slice none 0 0]) ?_ 4 _ rfl; refine blo_ ?_; refine blk_put (cs := #[.int .i64 a0, .int .i64 a1, .bool false, .int .i64 0, .int .i64 0, .int .i64 0, .int .i64 0, .slice none 0 0, .slice none 0 0, .slice none 0 0, .slice none 0 0, .slice none 0 0, .slice none 0 0]) ?_ 3 _ rfl; refine blo_ ?_; refine blk_put (cs := #[.int .i64 a0, .int .i64 a1, .bool false, .int .i64 0, .int .i64 0, .int .i64 0, .int .i64 0, .slice none 0 0, .slice none 0 0, .slice none 0 0, .slice none 0 0, .slice none 0 0, .slice none 0 0]) ?_ 2 _ rfl; refine blo_ ?_; refine blk_put (cs := #[.int .i64 a0, .int .i64 0, .bool false, .int .i64 0, .int .i64 0, .int .i64 0, .int .i64 0, .slice none 0 0, .slice none 0 0, .slice none 0 0, .slice none 0 0, .slice none 0 0, .slice none 0 0]) ?_ 1 _ rfl; refine blo_ ?_; refine blk_put (cs := #[.int .i64 0, .int .i64 0, .bool false, .int .i64 0, .int .i64 0, .int .i64 0, .int .i64 0, .slice none 0 0, .slice none 0 0, .slice none 0 0, .slice none 0 0, .slice none 0 0, .slice none 0 0]) ?_ 0 _ rfl; exact blo_ BK348.out⟩, ⟨belg_⟩⟩
 case rest =>
  clear HC6
  try clear p2
  try clear c5
  try clear c9
  try clear hcz13_
  try clear hcz8_
  obtain ⟨kq, x349010_5, u349010, HA, HJ5, HO_349010, BK348, HB⟩ := hcut
  cases kq with
  | zero => exact absurd HA.out (by simp [posthornlaw23_SeriesMoves.j0])
  | succ kj5 =>
   have H := HA.out
   clear HA
   simp only [posthornlaw23_SeriesMoves.j0] at H
   have HC14 := Aside0.mk H
   clear H
   go_upto_region 4 with (fail)
   go_cut [29] (fun v29 wc => ∃ (kq : Nat) (x29_13 : Bool), v29 = .bool x29_13 ∧ Aside0 (posthornlaw23_SeriesMoves.j1 kq a0 a1 a2 a3 a4 x29_13 a0 a1 false 0 0 0 0 x349010_5 = some r) ∧ Aside0 (kq ≤ kj5) ∧ Aside0 (Kd.R (Kd.int .i64) 2 wc w.heap.size (fun _ => True) u349010 x349010_5) ∧ Aside0 (wc.heap[gb348]? = some (.cells #[.int .i64 a0, .int .i64 a1, .bool false, .int .i64 0, .int .i64 0, .int .i64 0, .int .i64 0, (.slice none 0 0), (.slice none 0 0), (.slice none 0 0), u349010, (.slice none 0 0), (.slice none 0 0)] 29 (0, 0))) ∧ Aside0 (Below w.heap.size w wc))
   case first =>
    have H := HC14.out
    clear HC14
    replace H := Option.bind_eq_some_iff.mp H
    obtain ⟨t352, A150, H⟩ := H
    try dsimp only at H
    have A15 := Aside0.mk A150
    clear A150
    by_cases c16 : t352 = true
    ·subst c16
     have H1 := ifp_ H
     clear H
     have H := H1
     clear H1
     have H' := Aside0.mk H
     clear H
     have hcz17_ := cells13_ BK348.out
     obtain ⟨Ao18, co18, eo18⟩ := Kd.R_slice HO_349010.out
     subst eo18
     go_wp2_with (first | ((with_reducible refine gate_callee (f := 7) rfl ?_); refine goesL_ (some 24) rfl rfl Try.func7 (by kernel_rfl) rfl #[.agg #[.int .i64 a0, .int .i64 a1, .bool false, .int .i64 0, .int .i64 0, .int .i64 0, .int .i64 0, .slice none 0 0, .slice none 0 0, .slice none 0 0, .slice Ao18 x349010_5.length co18, .slice none 0 0, .slice none 0 0], .int .i64 a3] rfl arg_ ?_; (refine (posthornlaw23_Great.calls a0 a1 false 0 0 0 0 _ _ ([] : List Int) _ _ ([] : List Int) _ _ ([] : List (S78)) _ _ x349010_5 _ _ ([] : List Int) _ _ ([] : List (S39)) a3 true _ ?side1 ?side2 ?side3 ?side4 ?side5 ?side6 ?side7 ?side8 ?side9 ?side10 ?side11 ?side12 A15.out).mono ?_); (case side1 => exact Kd.C_nil _ _); (case side2 => exact Nat.le_refl _); (case side3 => exact Kd.C_nil _ _); (case side4 => exact Nat.le_refl _); (case side5 => exact Kd.C_nil _ _); (case side6 => exact Nat.le_refl _); (case side7 => exact cop_ (Kd.R_reads' HO_349010.out).2.2); (case side8 => exact (Kd.R_reads' HO_349010.out).2.1); (case side9 => exact Kd.C_nil _ _); (case side10 => exact Nat.le_refl _); (case side11 => exact Kd.C_nil _ _); (case side12 => exact Nat.le_refl _); rintro e w19 ⟨rfl, hb⟩; refine ⟨_, rfl, ?_⟩; have n0_ := ad_ (Kd.R_below (rod_ HO_349010) hb); have n1_ := ad_ (blk_below (g := gb348) (o := .cells #[.int .i64 a0, .int .i64 a1, .bool false, .int .i64 0, .int .i64 0, .int .i64 0, .int .i64 0, .slice none 0 0, .slice none 0 0, .slice none 0 0, .slice Ao18 x349010_5.length co18, .slice none 0 0, .slice none 0 0] 29 (0, 0)) (blo_ BK348.out) hb); have n2_ := ad_ (below_step belg_ hb); clear HO_349010; clear BK348; clear HB; have HO_349010 := n0_; have BK348 := n1_; have HB := n2_; clear n0_ n1_ n2_; (try clear hb); (try clear hb2); (try clear hk); (try clear hi)))
     go_meet
     case rel => exact ⟨_, (true), val_, H', ⟨by have := HJ5.out; first | omega | exact Nat.le_refl _⟩, ⟨rod_ HO_349010⟩, ⟨blo_ BK348.out⟩, ⟨belg_⟩⟩
    ·replace c16 := Bool.eq_false_iff.mpr c16
     subst c16
     have H1 := ifn_ H
     clear H
     have H := H1
     clear H1
     replace H := Option.bind_eq_some_iff.mp H
     obtain ⟨t353, A200, H⟩ := H
     try dsimp only at H
     have A20 := Aside0.mk A200
     clear A200
     have H' := Aside0.mk H
     clear H
     have hcz21_ := cells13_ BK348.out
     obtain ⟨Ao22, co22, eo22⟩ := Kd.R_slice HO_349010.out
     subst eo22
     go_wp2_with (first | ((with_reducible refine gate_callee (f := 7) rfl ?_); refine goesL_ (some 24) rfl rfl Try.func7 (by kernel_rfl) rfl #[.agg #[.int .i64 a0, .int .i64 a1, .bool false, .int .i64 0, .int .i64 0, .int .i64 0, .int .i64 0, .slice none 0 0, .slice none 0 0, .slice none 0 0, .slice Ao22 x349010_5.length co22, .slice none 0 0, .slice none 0 0], .int .i64 a3] rfl arg_ ?_; (refine (posthornlaw23_Great.calls a0 a1 false 0 0 0 0 _ _ ([] : List Int) _ _ ([] : List Int) _ _ ([] : List (S78)) _ _ x349010_5 _ _ ([] : List Int) _ _ ([] : List (S39)) a3 false _ ?side1 ?side2 ?side3 ?side4 ?side5 ?side6 ?side7 ?side8 ?side9 ?side10 ?side11 ?side12 A15.out).mono ?_); (case side1 => exact Kd.C_nil _ _); (case side2 => exact Nat.le_refl _); (case side3 => exact Kd.C_nil _ _); (case side4 => exact Nat.le_refl _); (case side5 => exact Kd.C_nil _ _); (case side6 => exact Nat.le_refl _); (case side7 => exact cop_ (Kd.R_reads' HO_349010.out).2.2); (case side8 => exact (Kd.R_reads' HO_349010.out).2.1); (case side9 => exact Kd.C_nil _ _); (case side10 => exact Nat.le_refl _); (case side11 => exact Kd.C_nil _ _); (case side12 => exact Nat.le_refl _); rintro e w23 ⟨rfl, hb⟩; refine ⟨_, rfl, ?_⟩; have n0_ := ad_ (Kd.R_below (rod_ HO_349010) hb); have n1_ := ad_ (blk_below (g := gb348) (o := .cells #[.int .i64 a0, .int .i64 a1, .bool false, .int .i64 0, .int .i64 0, .int .i64 0, .int .i64 0, .slice none 0 0, .slice none 0 0, .slice none 0 0, .slice Ao22 x349010_5.length co22, .slice none 0 0, .slice none 0 0] 29 (0, 0)) (blo_ BK348.out) hb); have n2_ := ad_ (below_step belg_ hb); clear HO_349010; clear BK348; clear HB; have HO_349010 := n0_; have BK348 := n1_; have HB := n2_; clear n0_ n1_ n2_; (try clear hb); (try clear hb2); (try clear hk); (try clear hi); have hcz24_ := cells13_ BK348.out) | (go_at_call 7; (refine (posthornlaw23_Great.calls a0 a1 false 0 0 0 0 _ _ ([] : List Int) _ _ ([] : List Int) _ _ ([] : List (S78)) _ _ x349010_5 _ _ ([] : List Int) _ _ ([] : List (S39)) a2 t353 _ ?side1 ?side2 ?side3 ?side4 ?side5 ?side6 ?side7 ?side8 ?side9 ?side10 ?side11 ?side12 A20.out).mono ?_); (case side1 => exact Kd.C_nil _ _); (case side2 => exact Nat.le_refl _); (case side3 => exact Kd.C_nil _ _); (case side4 => exact Nat.le_refl _); (case side5 => exact Kd.C_nil _ _); (case side6 => exact Nat.le_refl _); (case side7 => exact cop_ (Kd.R_reads' HO_349010.out).2.2); (case side8 => exact (Kd.R_reads' HO_349010.out).2.1); (case side9 => exact Kd.C_nil _ _); (case side10 => exact Nat.le_refl _); (case side11 => exact Kd.C_nil _ _); (case side12 => exact Nat.le_refl _); rintro e w25 ⟨rfl, hb⟩; have n0_ := ad_ (Kd.R_below (rod_ HO_349010) hb); have n1_ := ad_ (blk_below (g := gb348) (o := .cells #[.int .i64 a0, .int .i64 a1, .bool false, .int .i64 0, .int .i64 0, .int .i64 0, .int .i64 0, .slice none 0 0, .slice none 0 0, .slice none 0 0, .slice Ao22 x349010_5.length co22, .slice none 0 0, .slice none 0 0] 29 (0, 0)) (blo_ BK348.out) hb); have n2_ := ad_ (below_step belg_ hb); clear HO_349010; clear BK348; clear HB; have HO_349010 := n0_; have BK348 := n1_; have HB := n2_; clear n0_ n1_ n2_; (try clear hb); (try clear hb2); (try clear hk); (try clear hi)))
     go_meet
     case rel => exact ⟨_, (t353), val_, H', ⟨by have := HJ5.out; first | omega | exact Nat.le_refl _⟩, ⟨rod_ HO_349010⟩, ⟨blo_ BK348.out⟩, ⟨belg_⟩⟩
   case rest =>
    clear HC14
    try clear c1
    try clear p2
    try clear c5
    try clear c7
    try clear c9
    try clear c16
    try clear hcz13_
    try clear hcz17_
    try clear hcz21_
    try clear hcz24_
    try clear hcz8_
    try clear p2
    obtain ⟨kq, x29_13, rfl, HA, HJ13, HO_349010, BK348, HB⟩ := hcut
    cases kq with
    | zero => exact absurd HA.out (by simp [posthornlaw23_SeriesMoves.j1])
    | succ kj13 =>
     have H := HA.out
     clear HA
     simp only [posthornlaw23_SeriesMoves.j1] at H
     by_cases c26 : x29_13 = true
     ·subst c26
      have H1 := ifp_ H
      clear H
      have H := H1
      clear H1
      replace H := Option.bind_eq_some_iff.mp H
      obtain ⟨t354, A270, H⟩ := H
      try dsimp only at H
      have A27 := Aside0.mk A270
      clear A270
      obtain rfl := Option.some.inj H
      go_wp2_with (first | ((with_reducible refine gate_callee (f := 8) rfl ?_); refine goesL_ (some 30) rfl rfl Try.func8 (by kernel_rfl) rfl #[] rfl arg_ ?_; (with_reducible refine (posthornlaw23_alive.calls kj13  t354 _ A27.out).mono ?_); rintro e w28 ⟨rfl, hb⟩; refine ⟨_, rfl, ?_⟩; have n0_ := ad_ (Kd.R_below (rod_ HO_349010) hb); have n1_ := ad_ (blk_below (g := gb348) (o := .cells #[.int .i64 a0, .int .i64 a1, .bool false, .int .i64 0, .int .i64 0, .int .i64 0, .int .i64 0, .slice none 0 0, .slice none 0 0, .slice none 0 0, u349010, .slice none 0 0, .slice none 0 0] 29 (0, 0)) (blo_ BK348.out) hb); have n2_ := ad_ (below_step belg_ hb); clear HO_349010; clear BK348; clear HB; have HO_349010 := n0_; have BK348 := n1_; have HB := n2_; clear n0_ n1_ n2_; (try clear hb); (try clear hb2); (try clear hk); (try clear hi)))
      go_ret
      exact ⟨ret_, belg_⟩
     ·replace c26 := Bool.eq_false_iff.mpr c26
      subst c26
      have H1 := ifn_ H
      clear H
      have H := H1
      clear H1
      replace H := Option.bind_eq_some_iff.mp H
      obtain ⟨⟨t355, t358⟩, A290, H⟩ := H
      replace H : (if t358 = 0 then (if a4 = true then ((posthornlaw23_alive.f kj13).bind fun t359 => (if t359 = true then (if (t355.length : Int) = 0 then (if 0 = 0 then (some true) else (if 0 < (t355.length : Int) then (some (((rd_T37 t355 0).f0) == a0 && (((rd_T37 t355 0).f1) == a0 && (((rd_T37 t355 0).f2) == (wrap64 (a0 + a1)) && (!((rd_T37 t355 0).f3)))))) else (none))) else (some false)) else (some false))) else (if a0 < a3 then (if (wrap64 (a0 + a1)) > a2 then ((posthornlaw23_alive.f kj13).bind fun t361 => (if t361 = true then (if (t355.length : Int) = 1 then (if 1 = 0 then (some true) else (if 0 < (t355.length : Int) then (some (((rd_T37 t355 0).f0) == a0 && (((rd_T37 t355 0).f1) == a0 && (((rd_T37 t355 0).f2) == (wrap64 (a0 + a1)) && (!((rd_T37 t355 0).f3)))))) else (none))) else (some false)) else (some false))) else (if a1 = 0 then (if a0 ≥ a2 then ((posthornlaw23_alive.f kj13).bind fun t363 => (if t363 = true then (if (t355.length : Int) = 1 then (if 1 = 0 then (some true) else (if 0 < (t355.length : Int) then (some (((rd_T37 t355 0).f0) == a0 && (((rd_T37 t355 0).f1) == a0 && (((rd_T37 t355 0).f2) == (wrap64 (a0 + a1)) && (!((rd_T37 t355 0).f3)))))) else (none))) else (some false)) else (some false))) else ((posthornlaw23_alive.f kj13).bind fun t365 => (if t365 = true then (if (t355.length : Int) = 0 then (if 0 = 0 then (some true) else (if 0 < (t355.length : Int) then (some (((rd_T37 t355 0).f0) == a0 && (((rd_T37 t355 0).f1) == a0 && (((rd_T37 t355 0).f2) == (wrap64 (a0 + a1)) && (!((rd_T37 t355 0).f3)))))) else (none))) else (some false)) else (some false)))) else ((posthornlaw23_alive.f kj13).bind fun t367 => (if t367 = true then (if (t355.length : Int) = 0 then (if 0 = 0 then (some true) else (if 0 < (t355.length : Int) then (some (((rd_T37 t355 0).f0) == a0 && (((rd_T37 t355 0).f1) == a0 && (((rd_T37 t355 0).f2) == (wrap64 (a0 + a1)) && (!((rd_T37 t355 0).f3)))))) else (none))) else (some false)) else (some false))))) else ((posthornlaw23_alive.f kj13).bind fun t369 => (if t369 = true then (if (t355.length : Int) = 0 then (if 0 = 0 then (some true) else (if 0 < (t355.length : Int) then (some (((rd_T37 t355 0).f0) == a0 && (((rd_T37 t355 0).f1) == a0 && (((rd_T37 t355 0).f2) == (wrap64 (a0 + a1)) && (!((rd_T37 t355 0).f3)))))) else (none))) else (some false)) else (some false))))) else ((posthornlaw23_alive.f kj13).bind fun t371 => (if t371 = true then (some ((t355.length : Int) == 0)) else (some false)))) = some r := H
      have A29 := Aside0.mk A290
      clear A290
      by_cases c30 : t358 = 0
      ·rw [if_pos c30] at H
       have c30b0 : (t358 == 0) = true := beq_iff_eq.mpr c30
       have c30b1 : (t358 != 0) = false := bne_eq_false_iff_eq.mpr c30
       clear c30
       by_cases c31 : a4 = true
       ·subst c31
        have H1 := ifp_ H
        clear H
        have H := H1
        clear H1
        replace H := Option.bind_eq_some_iff.mp H
        obtain ⟨t359, A320, H⟩ := H
        replace H : (if t359 = true then (if (t355.length : Int) = 0 then (if 0 = 0 then (some true) else (if 0 < (t355.length : Int) then (some (((rd_T37 t355 0).f0) == a0 && (((rd_T37 t355 0).f1) == a0 && (((rd_T37 t355 0).f2) == (wrap64 (a0 + a1)) && (!((rd_T37 t355 0).f3)))))) else (none))) else (some false)) else (some false)) = some r := H
        have A32 := Aside0.mk A320
        clear A320
        by_cases c33 : t359 = true
        ·subst c33
         have H1 := ifp_ H
         clear H
         have H := H1
         clear H1
         by_cases c34 : (t355.length : Int) = 0
         ·rw [if_pos c34] at H
          have c34b0 : ((t355.length : Int) == 0) = true := beq_iff_eq.mpr c34
          have c34b1 : ((t355.length : Int) != 0) = false := bne_eq_false_iff_eq.mpr c34
          clear c34
          by_cases c35 : 0 = 0
          ·rw [if_pos c35] at H
           have c35b0 : (0 == 0) = true := beq_iff_eq.mpr c35
           have c35b1 : (0 != 0) = false := bne_eq_false_iff_eq.mpr c35
           clear c35
           obtain rfl := Option.some.inj H
           have hcz36_ := cells13_ BK348.out
           obtain ⟨Ao37, co37, eo37⟩ := Kd.R_slice HO_349010.out
           subst eo37
           go_wp2_with (first | ((with_reducible refine gate_callee (f := 9) rfl ?_); refine goesL_ (some 35) rfl rfl Try.func9 (by kernel_rfl) rfl #[.agg #[.int .i64 a0, .int .i64 a1, .bool false, .int .i64 0, .int .i64 0, .int .i64 0, .int .i64 0, .slice none 0 0, .slice none 0 0, .slice none 0 0, .slice Ao37 x349010_5.length co37, .slice none 0 0, .slice none 0 0], .int .i64 a2, .int .i64 a3] rfl arg_ ?_; (refine (series_Instances.calls kj13 a0 a1 false 0 0 0 0 _ _ ([] : List Int) _ _ ([] : List Int) _ _ ([] : List (S78)) _ _ x349010_5 _ _ ([] : List Int) _ _ ([] : List (S39)) a2 a3 t355 t358 _ ?side1 ?side2 ?side3 ?side4 ?side5 ?side6 ?side7 ?side8 ?side9 ?side10 ?side11 ?side12 A29.out).mono ?_); (case side1 => exact Kd.C_nil _ _); (case side2 => exact Nat.le_refl _); (case side3 => exact Kd.C_nil _ _); (case side4 => exact Nat.le_refl _); (case side5 => exact Kd.C_nil _ _); (case side6 => exact Nat.le_refl _); (case side7 => exact cop_ (Kd.R_reads' HO_349010.out).2.2); (case side8 => exact (Kd.R_reads' HO_349010.out).2.1); (case side9 => exact Kd.C_nil _ _); (case side10 => exact Nat.le_refl _); (case side11 => exact Kd.C_nil _ _); (case side12 => exact Nat.le_refl _); rintro e w38 ⟨v356, rfl, ho0, hb⟩; refine ⟨_, rfl, ?_⟩; have n0_ := ad_ (Kd.R_below (rod_ HO_349010) hb); have n1_ := ad_ (Kd.R_lower ho0 (below_size belg_)); have n2_ := ad_ (blk_below (g := gb348) (o := .cells #[.int .i64 a0, .int .i64 a1, .bool false, .int .i64 0, .int .i64 0, .int .i64 0, .int .i64 0, .slice none 0 0, .slice none 0 0, .slice none 0 0, .slice Ao37 x349010_5.length co37, .slice none 0 0, .slice none 0 0] 29 (0, 0)) (blo_ BK348.out) hb); have n3_ := ad_ (below_step belg_ hb); clear HO_349010; clear BK348; clear HB; have HO_349010 := n0_; have HO357 := n1_; have BK348 := n2_; have HB := n3_; clear n0_ n1_ n2_ n3_; (try clear hb); (try clear hb2); (try clear hk); (try clear hi); (try clear ho0)) | ((with_reducible refine gate_callee (f := 8) rfl ?_); refine goesL_ (some 69) rfl rfl Try.func8 (by kernel_rfl) rfl #[] rfl arg_ ?_; (with_reducible refine (posthornlaw23_alive.calls kj13  true _ A32.out).mono ?_); rintro e w39 ⟨rfl, hb⟩; refine ⟨_, rfl, ?_⟩; have n0_ := ad_ (Kd.R_below (rod_ HO_349010) hb); have n1_ := ad_ (Kd.R_below (rod_ HO357) hb); have n2_ := ad_ (blk_below (g := gb348) (o := .cells #[.int .i64 a0, .int .i64 a1, .bool false, .int .i64 0, .int .i64 0, .int .i64 0, .int .i64 0, .slice none 0 0, .slice none 0 0, .slice none 0 0, .slice Ao37 x349010_5.length co37, .slice none 0 0, .slice none 0 0] 29 (0, 0)) (blo_ BK348.out) hb); have n3_ := ad_ (below_step belg_ hb); clear HO_349010; clear HO357; clear BK348; clear HB; have HO_349010 := n0_; have HO357 := n1_; have BK348 := n2_; have HB := n3_; clear n0_ n1_ n2_ n3_; (try clear hb); (try clear hb2); (try clear hk); (try clear hi); obtain ⟨Ao40, co40, eo40⟩ := Kd.R_slice HO357.out; subst eo40))
           go_ret
           exact ⟨ret_, belg_⟩
          ·exact absurd rfl c35
         ·rw [if_neg c34] at H
          have c34b0 : ((t355.length : Int) == 0) = false := beq_eq_false_iff_ne.mpr c34
          have c34b1 : ((t355.length : Int) != 0) = true := bne_iff_ne.mpr c34
          have c34b2 : ¬ (t355 = []) := fun h_ => c34 (by rw [h_]; rfl)
          exact absurd (Option.some.inj H) (by rw [hr_.out]; decide)
        ·replace c33 := Bool.eq_false_iff.mpr c33
         subst c33
         have H1 := ifn_ H
         clear H
         have H := H1
         clear H1
         exact absurd (Option.some.inj H) (by rw [hr_.out]; decide)
       ·replace c31 := Bool.eq_false_iff.mpr c31
        subst c31
        have H1 := ifn_ H
        clear H
        have H := H1
        clear H1
        by_cases c47 : a0 < a3
        ·rw [if_pos c47] at H
         have c47b0 : decide (a0 < a3) = true := decide_eq_true c47
         clear c47
         by_cases c48 : (wrap64 (a0 + a1)) > a2
         ·rw [if_pos c48] at H
          have c48b0 : decide (a2 < (wrap64 (a0 + a1))) = true := decide_eq_true c48
          clear c48
          replace H := Option.bind_eq_some_iff.mp H
          obtain ⟨t361, A490, H⟩ := H
          replace H : (if t361 = true then (if (t355.length : Int) = 1 then (if 1 = 0 then (some true) else (if 0 < (t355.length : Int) then (some (((rd_T37 t355 0).f0) == a0 && (((rd_T37 t355 0).f1) == a0 && (((rd_T37 t355 0).f2) == (wrap64 (a0 + a1)) && (!((rd_T37 t355 0).f3)))))) else (none))) else (some false)) else (some false)) = some r := H
          have A49 := Aside0.mk A490
          clear A490
          by_cases c50 : t361 = true
          ·subst c50
           have H1 := ifp_ H
           clear H
           have H := H1
           clear H1
           by_cases c51 : (t355.length : Int) = 1
           ·rw [if_pos c51] at H
            have c51b0 : ((t355.length : Int) == 1) = true := beq_iff_eq.mpr c51
            have c51b1 : ((t355.length : Int) != 1) = false := bne_eq_false_iff_eq.mpr c51
            clear c51
            by_cases c52 : 1 = 0
            ·exact absurd c52 (by decide)
            ·rw [if_neg c52] at H
             have c52b0 : (1 == 0) = false := beq_eq_false_iff_ne.mpr c52
             have c52b1 : (1 != 0) = true := bne_iff_ne.mpr c52
             by_cases c58 : 0 < (t355.length : Int)
             ·rw [if_pos c58] at H
              have c58b0 : decide (0 < (t355.length : Int)) = true := decide_eq_true c58
              have c58b1 : decide (0 < t355.length) = true := decide_eq_true (by omega)
              clear c58
              obtain rfl := Option.some.inj H
              have hcz59_ := cells13_ BK348.out
              obtain ⟨Ao60, co60, eo60⟩ := Kd.R_slice HO_349010.out
              subst eo60
              go_wp2_with (first | ((with_reducible refine gate_callee (f := 9) rfl ?_); refine goesL_ (some 35) rfl rfl Try.func9 (by kernel_rfl) rfl #[.agg #[.int .i64 a0, .int .i64 a1, .bool false, .int .i64 0, .int .i64 0, .int .i64 0, .int .i64 0, .slice none 0 0, .slice none 0 0, .slice none 0 0, .slice Ao60 x349010_5.length co60, .slice none 0 0, .slice none 0 0], .int .i64 a2, .int .i64 a3] rfl arg_ ?_; (refine (series_Instances.calls kj13 a0 a1 false 0 0 0 0 _ _ ([] : List Int) _ _ ([] : List Int) _ _ ([] : List (S78)) _ _ x349010_5 _ _ ([] : List Int) _ _ ([] : List (S39)) a2 a3 t355 t358 _ ?side1 ?side2 ?side3 ?side4 ?side5 ?side6 ?side7 ?side8 ?side9 ?side10 ?side11 ?side12 A29.out).mono ?_); (case side1 => exact Kd.C_nil _ _); (case side2 => exact Nat.le_refl _); (case side3 => exact Kd.C_nil _ _); (case side4 => exact Nat.le_refl _); (case side5 => exact Kd.C_nil _ _); (case side6 => exact Nat.le_refl _); (case side7 => exact cop_ (Kd.R_reads' HO_349010.out).2.2); (case side8 => exact (Kd.R_reads' HO_349010.out).2.1); (case side9 => exact Kd.C_nil _ _); (case side10 => exact Nat.le_refl _); (case side11 => exact Kd.C_nil _ _); (case side12 => exact Nat.le_refl _); rintro e w61 ⟨v356, rfl, ho0, hb⟩; refine ⟨_, rfl, ?_⟩; have n0_ := ad_ (Kd.R_below (rod_ HO_349010) hb); have n1_ := ad_ (Kd.R_lower ho0 (below_size belg_)); have n2_ := ad_ (blk_below (g := gb348) (o := .cells #[.int .i64 a0, .int .i64 a1, .bool false, .int .i64 0, .int .i64 0, .int .i64 0, .int .i64 0, .slice none 0 0, .slice none 0 0, .slice none 0 0, .slice Ao60 x349010_5.length co60, .slice none 0 0, .slice none 0 0] 29 (0, 0)) (blo_ BK348.out) hb); have n3_ := ad_ (below_step belg_ hb); clear HO_349010; clear BK348; clear HB; have HO_349010 := n0_; have HO357 := n1_; have BK348 := n2_; have HB := n3_; clear n0_ n1_ n2_ n3_; (try clear hb); (try clear hb2); (try clear hk); (try clear hi); (try clear ho0)) | ((with_reducible refine gate_callee (f := 8) rfl ?_); refine goesL_ (some 69) rfl rfl Try.func8 (by kernel_rfl) rfl #[] rfl arg_ ?_; (with_reducible refine (posthornlaw23_alive.calls kj13  true _ A49.out).mono ?_); rintro e w62 ⟨rfl, hb⟩; refine ⟨_, rfl, ?_⟩; have n0_ := ad_ (Kd.R_below (rod_ HO_349010) hb); have n1_ := ad_ (Kd.R_below (rod_ HO357) hb); have n2_ := ad_ (blk_below (g := gb348) (o := .cells #[.int .i64 a0, .int .i64 a1, .bool false, .int .i64 0, .int .i64 0, .int .i64 0, .int .i64 0, .slice none 0 0, .slice none 0 0, .slice none 0 0, .slice Ao60 x349010_5.length co60, .slice none 0 0, .slice none 0 0] 29 (0, 0)) (blo_ BK348.out) hb); have n3_ := ad_ (below_step belg_ hb); clear HO_349010; clear HO357; clear BK348; clear HB; have HO_349010 := n0_; have HO357 := n1_; have BK348 := n2_; have HB := n3_; clear n0_ n1_ n2_ n3_; (try clear hb); (try clear hb2); (try clear hk); (try clear hi); obtain ⟨Ao63, co63, eo63⟩ := Kd.R_slice HO357.out; subst eo63; have p362 : 0 ≤ (0 : Int) := (by omega); have q362 : 0 < (t355.length : Int) := dec_; obtain ⟨ad362, e362, hx362_0, hx362_1, hx362_2, hx362_3⟩ := at_T37 (Kd.R_reads' HO357.out).2.2 0 p362 q362; cases e362; have qi362 : (0 < t355.length) = True := eq_true (by omega); (try rw [show ((0 : Int)).toNat = 0 from rfl] at hx362_0); (try rw [show 0 * 4 = 0 from rfl] at hx362_0); (try rw [Addr.add_zero'] at hx362_0); (try rw [show ((0 : Int)).toNat = 0 from rfl] at hx362_1); (try rw [show 0 * 4 = 0 from rfl] at hx362_1); (try rw [Addr.add_zero'] at hx362_1); (try rw [show ((0 : Int)).toNat = 0 from rfl] at hx362_2); (try rw [show 0 * 4 = 0 from rfl] at hx362_2); (try rw [Addr.add_zero'] at hx362_2); (try rw [show ((0 : Int)).toNat = 0 from rfl] at hx362_3); (try rw [show 0 * 4 = 0 from rfl] at hx362_3); (try rw [Addr.add_zero'] at hx362_3); replace p362 := eq_true p362; replace q362 := eq_true q362))
              go_ret
              exact ⟨ret_, belg_⟩
             ·rw [if_neg c58] at H
              exact absurd H (by simp)
           ·rw [if_neg c51] at H
            have c51b0 : ((t355.length : Int) == 1) = false := beq_eq_false_iff_ne.mpr c51
            have c51b1 : ((t355.length : Int) != 1) = true := bne_iff_ne.mpr c51
            exact absurd (Option.some.inj H) (by rw [hr_.out]; decide)
          ·replace c50 := Bool.eq_false_iff.mpr c50
           subst c50
           have H1 := ifn_ H
           clear H
           have H := H1
           clear H1
           exact absurd (Option.some.inj H) (by rw [hr_.out]; decide)
         ·rw [if_neg c48] at H
          have c48b0 : decide (a2 < (wrap64 (a0 + a1))) = false := decide_eq_false c48
          clear c48
          by_cases c64 : a1 = 0
          ·rw [if_pos c64] at H
           have c64b0 : (a1 == 0) = true := beq_iff_eq.mpr c64
           have c64b1 : (a1 != 0) = false := bne_eq_false_iff_eq.mpr c64
           clear c64
           by_cases c65 : a0 ≥ a2
           ·rw [if_pos c65] at H
            have c65b0 : decide (a2 ≤ a0) = true := decide_eq_true c65
            clear c65
            replace H := Option.bind_eq_some_iff.mp H
            obtain ⟨t363, A660, H⟩ := H
            replace H : (if t363 = true then (if (t355.length : Int) = 1 then (if 1 = 0 then (some true) else (if 0 < (t355.length : Int) then (some (((rd_T37 t355 0).f0) == a0 && (((rd_T37 t355 0).f1) == a0 && (((rd_T37 t355 0).f2) == (wrap64 (a0 + a1)) && (!((rd_T37 t355 0).f3)))))) else (none))) else (some false)) else (some false)) = some r := H
            have A66 := Aside0.mk A660
            clear A660
            by_cases c67 : t363 = true
            ·subst c67
             have H1 := ifp_ H
             clear H
             have H := H1
             clear H1
             by_cases c68 : (t355.length : Int) = 1
             ·rw [if_pos c68] at H
              have c68b0 : ((t355.length : Int) == 1) = true := beq_iff_eq.mpr c68
              have c68b1 : ((t355.length : Int) != 1) = false := bne_eq_false_iff_eq.mpr c68
              clear c68
              by_cases c69 : 1 = 0
              ·exact absurd c69 (by decide)
              ·rw [if_neg c69] at H
               have c69b0 : (1 == 0) = false := beq_eq_false_iff_ne.mpr c69
               have c69b1 : (1 != 0) = true := bne_iff_ne.mpr c69
               by_cases c75 : 0 < (t355.length : Int)
               ·rw [if_pos c75] at H
                have c75b0 : decide (0 < (t355.length : Int)) = true := decide_eq_true c75
                have c75b1 : decide (0 < t355.length) = true := decide_eq_true (by omega)
                clear c75
                obtain rfl := Option.some.inj H
                have hcz76_ := cells13_ BK348.out
                obtain ⟨Ao77, co77, eo77⟩ := Kd.R_slice HO_349010.out
                subst eo77
                go_wp2_with (first | ((with_reducible refine gate_callee (f := 9) rfl ?_); refine goesL_ (some 35) rfl rfl Try.func9 (by kernel_rfl) rfl #[.agg #[.int .i64 a0, .int .i64 a1, .bool false, .int .i64 0, .int .i64 0, .int .i64 0, .int .i64 0, .slice none 0 0, .slice none 0 0, .slice none 0 0, .slice Ao77 x349010_5.length co77, .slice none 0 0, .slice none 0 0], .int .i64 a2, .int .i64 a3] rfl arg_ ?_; (refine (series_Instances.calls kj13 a0 a1 false 0 0 0 0 _ _ ([] : List Int) _ _ ([] : List Int) _ _ ([] : List (S78)) _ _ x349010_5 _ _ ([] : List Int) _ _ ([] : List (S39)) a2 a3 t355 t358 _ ?side1 ?side2 ?side3 ?side4 ?side5 ?side6 ?side7 ?side8 ?side9 ?side10 ?side11 ?side12 A29.out).mono ?_); (case side1 => exact Kd.C_nil _ _); (case side2 => exact Nat.le_refl _); (case side3 => exact Kd.C_nil _ _); (case side4 => exact Nat.le_refl _); (case side5 => exact Kd.C_nil _ _); (case side6 => exact Nat.le_refl _); (case side7 => exact cop_ (Kd.R_reads' HO_349010.out).2.2); (case side8 => exact (Kd.R_reads' HO_349010.out).2.1); (case side9 => exact Kd.C_nil _ _); (case side10 => exact Nat.le_refl _); (case side11 => exact Kd.C_nil _ _); (case side12 => exact Nat.le_refl _); rintro e w78 ⟨v356, rfl, ho0, hb⟩; refine ⟨_, rfl, ?_⟩; have n0_ := ad_ (Kd.R_below (rod_ HO_349010) hb); have n1_ := ad_ (Kd.R_lower ho0 (below_size belg_)); have n2_ := ad_ (blk_below (g := gb348) (o := .cells #[.int .i64 a0, .int .i64 a1, .bool false, .int .i64 0, .int .i64 0, .int .i64 0, .int .i64 0, .slice none 0 0, .slice none 0 0, .slice none 0 0, .slice Ao77 x349010_5.length co77, .slice none 0 0, .slice none 0 0] 29 (0, 0)) (blo_ BK348.out) hb); have n3_ := ad_ (below_step belg_ hb); clear HO_349010; clear BK348; clear HB; have HO_349010 := n0_; have HO357 := n1_; have BK348 := n2_; have HB := n3_; clear n0_ n1_ n2_ n3_; (try clear hb); (try clear hb2); (try clear hk); (try clear hi); (try clear ho0)) | ((with_reducible refine gate_callee (f := 8) rfl ?_); refine goesL_ (some 69) rfl rfl Try.func8 (by kernel_rfl) rfl #[] rfl arg_ ?_; (with_reducible refine (posthornlaw23_alive.calls kj13  true _ A66.out).mono ?_); rintro e w79 ⟨rfl, hb⟩; refine ⟨_, rfl, ?_⟩; have n0_ := ad_ (Kd.R_below (rod_ HO_349010) hb); have n1_ := ad_ (Kd.R_below (rod_ HO357) hb); have n2_ := ad_ (blk_below (g := gb348) (o := .cells #[.int .i64 a0, .int .i64 a1, .bool false, .int .i64 0, .int .i64 0, .int .i64 0, .int .i64 0, .slice none 0 0, .slice none 0 0, .slice none 0 0, .slice Ao77 x349010_5.length co77, .slice none 0 0, .slice none 0 0] 29 (0, 0)) (blo_ BK348.out) hb); have n3_ := ad_ (below_step belg_ hb); clear HO_349010; clear HO357; clear BK348; clear HB; have HO_349010 := n0_; have HO357 := n1_; have BK348 := n2_; have HB := n3_; clear n0_ n1_ n2_ n3_; (try clear hb); (try clear hb2); (try clear hk); (try clear hi); obtain ⟨Ao80, co80, eo80⟩ := Kd.R_slice HO357.out; subst eo80; have p364 : 0 ≤ (0 : Int) := (by omega); have q364 : 0 < (t355.length : Int) := dec_; obtain ⟨ad364, e364, hx364_0, hx364_1, hx364_2, hx364_3⟩ := at_T37 (Kd.R_reads' HO357.out).2.2 0 p364 q364; cases e364; have qi364 : (0 < t355.length) = True := eq_true (by omega); (try rw [show ((0 : Int)).toNat = 0 from rfl] at hx364_0); (try rw [show 0 * 4 = 0 from rfl] at hx364_0); (try rw [Addr.add_zero'] at hx364_0); (try rw [show ((0 : Int)).toNat = 0 from rfl] at hx364_1); (try rw [show 0 * 4 = 0 from rfl] at hx364_1); (try rw [Addr.add_zero'] at hx364_1); (try rw [show ((0 : Int)).toNat = 0 from rfl] at hx364_2); (try rw [show 0 * 4 = 0 from rfl] at hx364_2); (try rw [Addr.add_zero'] at hx364_2); (try rw [show ((0 : Int)).toNat = 0 from rfl] at hx364_3); (try rw [show 0 * 4 = 0 from rfl] at hx364_3); (try rw [Addr.add_zero'] at hx364_3); replace p364 := eq_true p364; replace q364 := eq_true q364))
                go_ret
                exact ⟨ret_, belg_⟩
               ·rw [if_neg c75] at H
                exact absurd H (by simp)
             ·rw [if_neg c68] at H
              have c68b0 : ((t355.length : Int) == 1) = false := beq_eq_false_iff_ne.mpr c68
              have c68b1 : ((t355.length : Int) != 1) = true := bne_iff_ne.mpr c68
              exact absurd (Option.some.inj H) (by rw [hr_.out]; decide)
            ·replace c67 := Bool.eq_false_iff.mpr c67
             subst c67
             have H1 := ifn_ H
             clear H
             have H := H1
             clear H1
             exact absurd (Option.some.inj H) (by rw [hr_.out]; decide)
           ·rw [if_neg c65] at H
            have c65b0 : decide (a2 ≤ a0) = false := decide_eq_false c65
            clear c65
            replace H := Option.bind_eq_some_iff.mp H
            obtain ⟨t365, A810, H⟩ := H
            replace H : (if t365 = true then (if (t355.length : Int) = 0 then (if 0 = 0 then (some true) else (if 0 < (t355.length : Int) then (some (((rd_T37 t355 0).f0) == a0 && (((rd_T37 t355 0).f1) == a0 && (((rd_T37 t355 0).f2) == (wrap64 (a0 + a1)) && (!((rd_T37 t355 0).f3)))))) else (none))) else (some false)) else (some false)) = some r := H
            have A81 := Aside0.mk A810
            clear A810
            by_cases c82 : t365 = true
            ·subst c82
             have H1 := ifp_ H
             clear H
             have H := H1
             clear H1
             by_cases c83 : (t355.length : Int) = 0
             ·rw [if_pos c83] at H
              have c83b0 : ((t355.length : Int) == 0) = true := beq_iff_eq.mpr c83
              have c83b1 : ((t355.length : Int) != 0) = false := bne_eq_false_iff_eq.mpr c83
              clear c83
              by_cases c84 : 0 = 0
              ·rw [if_pos c84] at H
               have c84b0 : (0 == 0) = true := beq_iff_eq.mpr c84
               have c84b1 : (0 != 0) = false := bne_eq_false_iff_eq.mpr c84
               clear c84
               obtain rfl := Option.some.inj H
               have hcz85_ := cells13_ BK348.out
               obtain ⟨Ao86, co86, eo86⟩ := Kd.R_slice HO_349010.out
               subst eo86
               go_wp2_with (first | ((with_reducible refine gate_callee (f := 9) rfl ?_); refine goesL_ (some 35) rfl rfl Try.func9 (by kernel_rfl) rfl #[.agg #[.int .i64 a0, .int .i64 a1, .bool false, .int .i64 0, .int .i64 0, .int .i64 0, .int .i64 0, .slice none 0 0, .slice none 0 0, .slice none 0 0, .slice Ao86 x349010_5.length co86, .slice none 0 0, .slice none 0 0], .int .i64 a2, .int .i64 a3] rfl arg_ ?_; (refine (series_Instances.calls kj13 a0 a1 false 0 0 0 0 _ _ ([] : List Int) _ _ ([] : List Int) _ _ ([] : List (S78)) _ _ x349010_5 _ _ ([] : List Int) _ _ ([] : List (S39)) a2 a3 t355 t358 _ ?side1 ?side2 ?side3 ?side4 ?side5 ?side6 ?side7 ?side8 ?side9 ?side10 ?side11 ?side12 A29.out).mono ?_); (case side1 => exact Kd.C_nil _ _); (case side2 => exact Nat.le_refl _); (case side3 => exact Kd.C_nil _ _); (case side4 => exact Nat.le_refl _); (case side5 => exact Kd.C_nil _ _); (case side6 => exact Nat.le_refl _); (case side7 => exact cop_ (Kd.R_reads' HO_349010.out).2.2); (case side8 => exact (Kd.R_reads' HO_349010.out).2.1); (case side9 => exact Kd.C_nil _ _); (case side10 => exact Nat.le_refl _); (case side11 => exact Kd.C_nil _ _); (case side12 => exact Nat.le_refl _); rintro e w87 ⟨v356, rfl, ho0, hb⟩; refine ⟨_, rfl, ?_⟩; have n0_ := ad_ (Kd.R_below (rod_ HO_349010) hb); have n1_ := ad_ (Kd.R_lower ho0 (below_size belg_)); have n2_ := ad_ (blk_below (g := gb348) (o := .cells #[.int .i64 a0, .int .i64 a1, .bool false, .int .i64 0, .int .i64 0, .int .i64 0, .int .i64 0, .slice none 0 0, .slice none 0 0, .slice none 0 0, .slice Ao86 x349010_5.length co86, .slice none 0 0, .slice none 0 0] 29 (0, 0)) (blo_ BK348.out) hb); have n3_ := ad_ (below_step belg_ hb); clear HO_349010; clear BK348; clear HB; have HO_349010 := n0_; have HO357 := n1_; have BK348 := n2_; have HB := n3_; clear n0_ n1_ n2_ n3_; (try clear hb); (try clear hb2); (try clear hk); (try clear hi); (try clear ho0)) | ((with_reducible refine gate_callee (f := 8) rfl ?_); refine goesL_ (some 69) rfl rfl Try.func8 (by kernel_rfl) rfl #[] rfl arg_ ?_; (with_reducible refine (posthornlaw23_alive.calls kj13  true _ A81.out).mono ?_); rintro e w88 ⟨rfl, hb⟩; refine ⟨_, rfl, ?_⟩; have n0_ := ad_ (Kd.R_below (rod_ HO_349010) hb); have n1_ := ad_ (Kd.R_below (rod_ HO357) hb); have n2_ := ad_ (blk_below (g := gb348) (o := .cells #[.int .i64 a0, .int .i64 a1, .bool false, .int .i64 0, .int .i64 0, .int .i64 0, .int .i64 0, .slice none 0 0, .slice none 0 0, .slice none 0 0, .slice Ao86 x349010_5.length co86, .slice none 0 0, .slice none 0 0] 29 (0, 0)) (blo_ BK348.out) hb); have n3_ := ad_ (below_step belg_ hb); clear HO_349010; clear HO357; clear BK348; clear HB; have HO_349010 := n0_; have HO357 := n1_; have BK348 := n2_; have HB := n3_; clear n0_ n1_ n2_ n3_; (try clear hb); (try clear hb2); (try clear hk); (try clear hi); obtain ⟨Ao89, co89, eo89⟩ := Kd.R_slice HO357.out; subst eo89))
               go_ret
               exact ⟨ret_, belg_⟩
              ·exact absurd rfl c84
             ·rw [if_neg c83] at H
              have c83b0 : ((t355.length : Int) == 0) = false := beq_eq_false_iff_ne.mpr c83
              have c83b1 : ((t355.length : Int) != 0) = true := bne_iff_ne.mpr c83
              have c83b2 : ¬ (t355 = []) := fun h_ => c83 (by rw [h_]; rfl)
              exact absurd (Option.some.inj H) (by rw [hr_.out]; decide)
            ·replace c82 := Bool.eq_false_iff.mpr c82
             subst c82
             have H1 := ifn_ H
             clear H
             have H := H1
             clear H1
             exact absurd (Option.some.inj H) (by rw [hr_.out]; decide)
          ·rw [if_neg c64] at H
           have c64b0 : (a1 == 0) = false := beq_eq_false_iff_ne.mpr c64
           have c64b1 : (a1 != 0) = true := bne_iff_ne.mpr c64
           replace H := Option.bind_eq_some_iff.mp H
           obtain ⟨t367, A960, H⟩ := H
           replace H : (if t367 = true then (if (t355.length : Int) = 0 then (if 0 = 0 then (some true) else (if 0 < (t355.length : Int) then (some (((rd_T37 t355 0).f0) == a0 && (((rd_T37 t355 0).f1) == a0 && (((rd_T37 t355 0).f2) == (wrap64 (a0 + a1)) && (!((rd_T37 t355 0).f3)))))) else (none))) else (some false)) else (some false)) = some r := H
           have A96 := Aside0.mk A960
           clear A960
           by_cases c97 : t367 = true
           ·subst c97
            have H1 := ifp_ H
            clear H
            have H := H1
            clear H1
            by_cases c98 : (t355.length : Int) = 0
            ·rw [if_pos c98] at H
             have c98b0 : ((t355.length : Int) == 0) = true := beq_iff_eq.mpr c98
             have c98b1 : ((t355.length : Int) != 0) = false := bne_eq_false_iff_eq.mpr c98
             clear c98
             by_cases c99 : 0 = 0
             ·rw [if_pos c99] at H
              have c99b0 : (0 == 0) = true := beq_iff_eq.mpr c99
              have c99b1 : (0 != 0) = false := bne_eq_false_iff_eq.mpr c99
              clear c99
              obtain rfl := Option.some.inj H
              have hcz100_ := cells13_ BK348.out
              obtain ⟨Ao101, co101, eo101⟩ := Kd.R_slice HO_349010.out
              subst eo101
              go_wp2_with (first | ((with_reducible refine gate_callee (f := 9) rfl ?_); refine goesL_ (some 35) rfl rfl Try.func9 (by kernel_rfl) rfl #[.agg #[.int .i64 a0, .int .i64 a1, .bool false, .int .i64 0, .int .i64 0, .int .i64 0, .int .i64 0, .slice none 0 0, .slice none 0 0, .slice none 0 0, .slice Ao101 x349010_5.length co101, .slice none 0 0, .slice none 0 0], .int .i64 a2, .int .i64 a3] rfl arg_ ?_; (refine (series_Instances.calls kj13 a0 a1 false 0 0 0 0 _ _ ([] : List Int) _ _ ([] : List Int) _ _ ([] : List (S78)) _ _ x349010_5 _ _ ([] : List Int) _ _ ([] : List (S39)) a2 a3 t355 t358 _ ?side1 ?side2 ?side3 ?side4 ?side5 ?side6 ?side7 ?side8 ?side9 ?side10 ?side11 ?side12 A29.out).mono ?_); (case side1 => exact Kd.C_nil _ _); (case side2 => exact Nat.le_refl _); (case side3 => exact Kd.C_nil _ _); (case side4 => exact Nat.le_refl _); (case side5 => exact Kd.C_nil _ _); (case side6 => exact Nat.le_refl _); (case side7 => exact cop_ (Kd.R_reads' HO_349010.out).2.2); (case side8 => exact (Kd.R_reads' HO_349010.out).2.1); (case side9 => exact Kd.C_nil _ _); (case side10 => exact Nat.le_refl _); (case side11 => exact Kd.C_nil _ _); (case side12 => exact Nat.le_refl _); rintro e w102 ⟨v356, rfl, ho0, hb⟩; refine ⟨_, rfl, ?_⟩; have n0_ := ad_ (Kd.R_below (rod_ HO_349010) hb); have n1_ := ad_ (Kd.R_lower ho0 (below_size belg_)); have n2_ := ad_ (blk_below (g := gb348) (o := .cells #[.int .i64 a0, .int .i64 a1, .bool false, .int .i64 0, .int .i64 0, .int .i64 0, .int .i64 0, .slice none 0 0, .slice none 0 0, .slice none 0 0, .slice Ao101 x349010_5.length co101, .slice none 0 0, .slice none 0 0] 29 (0, 0)) (blo_ BK348.out) hb); have n3_ := ad_ (below_step belg_ hb); clear HO_349010; clear BK348; clear HB; have HO_349010 := n0_; have HO357 := n1_; have BK348 := n2_; have HB := n3_; clear n0_ n1_ n2_ n3_; (try clear hb); (try clear hb2); (try clear hk); (try clear hi); (try clear ho0)) | ((with_reducible refine gate_callee (f := 8) rfl ?_); refine goesL_ (some 69) rfl rfl Try.func8 (by kernel_rfl) rfl #[] rfl arg_ ?_; (with_reducible refine (posthornlaw23_alive.calls kj13  true _ A96.out).mono ?_); rintro e w103 ⟨rfl, hb⟩; refine ⟨_, rfl, ?_⟩; have n0_ := ad_ (Kd.R_below (rod_ HO_349010) hb); have n1_ := ad_ (Kd.R_below (rod_ HO357) hb); have n2_ := ad_ (blk_below (g := gb348) (o := .cells #[.int .i64 a0, .int .i64 a1, .bool false, .int .i64 0, .int .i64 0, .int .i64 0, .int .i64 0, .slice none 0 0, .slice none 0 0, .slice none 0 0, .slice Ao101 x349010_5.length co101, .slice none 0 0, .slice none 0 0] 29 (0, 0)) (blo_ BK348.out) hb); have n3_ := ad_ (below_step belg_ hb); clear HO_349010; clear HO357; clear BK348; clear HB; have HO_349010 := n0_; have HO357 := n1_; have BK348 := n2_; have HB := n3_; clear n0_ n1_ n2_ n3_; (try clear hb); (try clear hb2); (try clear hk); (try clear hi); obtain ⟨Ao104, co104, eo104⟩ := Kd.R_slice HO357.out; subst eo104))
              go_ret
              exact ⟨ret_, belg_⟩
             ·exact absurd rfl c99
            ·rw [if_neg c98] at H
             have c98b0 : ((t355.length : Int) == 0) = false := beq_eq_false_iff_ne.mpr c98
             have c98b1 : ((t355.length : Int) != 0) = true := bne_iff_ne.mpr c98
             have c98b2 : ¬ (t355 = []) := fun h_ => c98 (by rw [h_]; rfl)
             exact absurd (Option.some.inj H) (by rw [hr_.out]; decide)
           ·replace c97 := Bool.eq_false_iff.mpr c97
            subst c97
            have H1 := ifn_ H
            clear H
            have H := H1
            clear H1
            exact absurd (Option.some.inj H) (by rw [hr_.out]; decide)
        ·rw [if_neg c47] at H
         have c47b0 : decide (a0 < a3) = false := decide_eq_false c47
         clear c47
         replace H := Option.bind_eq_some_iff.mp H
         obtain ⟨t369, A1110, H⟩ := H
         replace H : (if t369 = true then (if (t355.length : Int) = 0 then (if 0 = 0 then (some true) else (if 0 < (t355.length : Int) then (some (((rd_T37 t355 0).f0) == a0 && (((rd_T37 t355 0).f1) == a0 && (((rd_T37 t355 0).f2) == (wrap64 (a0 + a1)) && (!((rd_T37 t355 0).f3)))))) else (none))) else (some false)) else (some false)) = some r := H
         have A111 := Aside0.mk A1110
         clear A1110
         by_cases c112 : t369 = true
         ·subst c112
          have H1 := ifp_ H
          clear H
          have H := H1
          clear H1
          by_cases c113 : (t355.length : Int) = 0
          ·rw [if_pos c113] at H
           have c113b0 : ((t355.length : Int) == 0) = true := beq_iff_eq.mpr c113
           have c113b1 : ((t355.length : Int) != 0) = false := bne_eq_false_iff_eq.mpr c113
           clear c113
           by_cases c114 : 0 = 0
           ·rw [if_pos c114] at H
            have c114b0 : (0 == 0) = true := beq_iff_eq.mpr c114
            have c114b1 : (0 != 0) = false := bne_eq_false_iff_eq.mpr c114
            clear c114
            obtain rfl := Option.some.inj H
            have hcz115_ := cells13_ BK348.out
            obtain ⟨Ao116, co116, eo116⟩ := Kd.R_slice HO_349010.out
            subst eo116
            go_wp2_with (first | ((with_reducible refine gate_callee (f := 9) rfl ?_); refine goesL_ (some 35) rfl rfl Try.func9 (by kernel_rfl) rfl #[.agg #[.int .i64 a0, .int .i64 a1, .bool false, .int .i64 0, .int .i64 0, .int .i64 0, .int .i64 0, .slice none 0 0, .slice none 0 0, .slice none 0 0, .slice Ao116 x349010_5.length co116, .slice none 0 0, .slice none 0 0], .int .i64 a2, .int .i64 a3] rfl arg_ ?_; (refine (series_Instances.calls kj13 a0 a1 false 0 0 0 0 _ _ ([] : List Int) _ _ ([] : List Int) _ _ ([] : List (S78)) _ _ x349010_5 _ _ ([] : List Int) _ _ ([] : List (S39)) a2 a3 t355 t358 _ ?side1 ?side2 ?side3 ?side4 ?side5 ?side6 ?side7 ?side8 ?side9 ?side10 ?side11 ?side12 A29.out).mono ?_); (case side1 => exact Kd.C_nil _ _); (case side2 => exact Nat.le_refl _); (case side3 => exact Kd.C_nil _ _); (case side4 => exact Nat.le_refl _); (case side5 => exact Kd.C_nil _ _); (case side6 => exact Nat.le_refl _); (case side7 => exact cop_ (Kd.R_reads' HO_349010.out).2.2); (case side8 => exact (Kd.R_reads' HO_349010.out).2.1); (case side9 => exact Kd.C_nil _ _); (case side10 => exact Nat.le_refl _); (case side11 => exact Kd.C_nil _ _); (case side12 => exact Nat.le_refl _); rintro e w117 ⟨v356, rfl, ho0, hb⟩; refine ⟨_, rfl, ?_⟩; have n0_ := ad_ (Kd.R_below (rod_ HO_349010) hb); have n1_ := ad_ (Kd.R_lower ho0 (below_size belg_)); have n2_ := ad_ (blk_below (g := gb348) (o := .cells #[.int .i64 a0, .int .i64 a1, .bool false, .int .i64 0, .int .i64 0, .int .i64 0, .int .i64 0, .slice none 0 0, .slice none 0 0, .slice none 0 0, .slice Ao116 x349010_5.length co116, .slice none 0 0, .slice none 0 0] 29 (0, 0)) (blo_ BK348.out) hb); have n3_ := ad_ (below_step belg_ hb); clear HO_349010; clear BK348; clear HB; have HO_349010 := n0_; have HO357 := n1_; have BK348 := n2_; have HB := n3_; clear n0_ n1_ n2_ n3_; (try clear hb); (try clear hb2); (try clear hk); (try clear hi); (try clear ho0)) | ((with_reducible refine gate_callee (f := 8) rfl ?_); refine goesL_ (some 69) rfl rfl Try.func8 (by kernel_rfl) rfl #[] rfl arg_ ?_; (with_reducible refine (posthornlaw23_alive.calls kj13  true _ A111.out).mono ?_); rintro e w118 ⟨rfl, hb⟩; refine ⟨_, rfl, ?_⟩; have n0_ := ad_ (Kd.R_below (rod_ HO_349010) hb); have n1_ := ad_ (Kd.R_below (rod_ HO357) hb); have n2_ := ad_ (blk_below (g := gb348) (o := .cells #[.int .i64 a0, .int .i64 a1, .bool false, .int .i64 0, .int .i64 0, .int .i64 0, .int .i64 0, .slice none 0 0, .slice none 0 0, .slice none 0 0, .slice Ao116 x349010_5.length co116, .slice none 0 0, .slice none 0 0] 29 (0, 0)) (blo_ BK348.out) hb); have n3_ := ad_ (below_step belg_ hb); clear HO_349010; clear HO357; clear BK348; clear HB; have HO_349010 := n0_; have HO357 := n1_; have BK348 := n2_; have HB := n3_; clear n0_ n1_ n2_ n3_; (try clear hb); (try clear hb2); (try clear hk); (try clear hi); obtain ⟨Ao119, co119, eo119⟩ := Kd.R_slice HO357.out; subst eo119))
            go_ret
            exact ⟨ret_, belg_⟩
           ·exact absurd rfl c114
          ·rw [if_neg c113] at H
           have c113b0 : ((t355.length : Int) == 0) = false := beq_eq_false_iff_ne.mpr c113
           have c113b1 : ((t355.length : Int) != 0) = true := bne_iff_ne.mpr c113
           have c113b2 : ¬ (t355 = []) := fun h_ => c113 (by rw [h_]; rfl)
           exact absurd (Option.some.inj H) (by rw [hr_.out]; decide)
         ·replace c112 := Bool.eq_false_iff.mpr c112
          subst c112
          have H1 := ifn_ H
          clear H
          have H := H1
          clear H1
          exact absurd (Option.some.inj H) (by rw [hr_.out]; decide)
      ·rw [if_neg c30] at H
       have c30b0 : (t358 == 0) = false := beq_eq_false_iff_ne.mpr c30
       have c30b1 : (t358 != 0) = true := bne_iff_ne.mpr c30
       replace H := Option.bind_eq_some_iff.mp H
       obtain ⟨t371, A1260, H⟩ := H
       try dsimp only at H
       have A126 := Aside0.mk A1260
       clear A1260
       by_cases c127 : t371 = true
       ·subst c127
        have H1 := ifp_ H
        clear H
        have H := H1
        clear H1
        obtain rfl := Option.some.inj H
        have hcz128_ := cells13_ BK348.out
        obtain ⟨Ao129, co129, eo129⟩ := Kd.R_slice HO_349010.out
        subst eo129
        go_wp2_with (first | ((with_reducible refine gate_callee (f := 9) rfl ?_); refine goesL_ (some 35) rfl rfl Try.func9 (by kernel_rfl) rfl #[.agg #[.int .i64 a0, .int .i64 a1, .bool false, .int .i64 0, .int .i64 0, .int .i64 0, .int .i64 0, .slice none 0 0, .slice none 0 0, .slice none 0 0, .slice Ao129 x349010_5.length co129, .slice none 0 0, .slice none 0 0], .int .i64 a2, .int .i64 a3] rfl arg_ ?_; (refine (series_Instances.calls kj13 a0 a1 false 0 0 0 0 _ _ ([] : List Int) _ _ ([] : List Int) _ _ ([] : List (S78)) _ _ x349010_5 _ _ ([] : List Int) _ _ ([] : List (S39)) a2 a3 t355 t358 _ ?side1 ?side2 ?side3 ?side4 ?side5 ?side6 ?side7 ?side8 ?side9 ?side10 ?side11 ?side12 A29.out).mono ?_); (case side1 => exact Kd.C_nil _ _); (case side2 => exact Nat.le_refl _); (case side3 => exact Kd.C_nil _ _); (case side4 => exact Nat.le_refl _); (case side5 => exact Kd.C_nil _ _); (case side6 => exact Nat.le_refl _); (case side7 => exact cop_ (Kd.R_reads' HO_349010.out).2.2); (case side8 => exact (Kd.R_reads' HO_349010.out).2.1); (case side9 => exact Kd.C_nil _ _); (case side10 => exact Nat.le_refl _); (case side11 => exact Kd.C_nil _ _); (case side12 => exact Nat.le_refl _); rintro e w130 ⟨v356, rfl, ho0, hb⟩; refine ⟨_, rfl, ?_⟩; have n0_ := ad_ (Kd.R_below (rod_ HO_349010) hb); have n1_ := ad_ (Kd.R_lower ho0 (below_size belg_)); have n2_ := ad_ (blk_below (g := gb348) (o := .cells #[.int .i64 a0, .int .i64 a1, .bool false, .int .i64 0, .int .i64 0, .int .i64 0, .int .i64 0, .slice none 0 0, .slice none 0 0, .slice none 0 0, .slice Ao129 x349010_5.length co129, .slice none 0 0, .slice none 0 0] 29 (0, 0)) (blo_ BK348.out) hb); have n3_ := ad_ (below_step belg_ hb); clear HO_349010; clear BK348; clear HB; have HO_349010 := n0_; have HO357 := n1_; have BK348 := n2_; have HB := n3_; clear n0_ n1_ n2_ n3_; (try clear hb); (try clear hb2); (try clear hk); (try clear hi); (try clear ho0)) | ((with_reducible refine gate_callee (f := 8) rfl ?_); refine goesL_ (some 40) rfl rfl Try.func8 (by kernel_rfl) rfl #[] rfl arg_ ?_; (with_reducible refine (posthornlaw23_alive.calls kj13  true _ A126.out).mono ?_); rintro e w131 ⟨rfl, hb⟩; refine ⟨_, rfl, ?_⟩; have n0_ := ad_ (Kd.R_below (rod_ HO_349010) hb); have n1_ := ad_ (Kd.R_below (rod_ HO357) hb); have n2_ := ad_ (blk_below (g := gb348) (o := .cells #[.int .i64 a0, .int .i64 a1, .bool false, .int .i64 0, .int .i64 0, .int .i64 0, .int .i64 0, .slice none 0 0, .slice none 0 0, .slice none 0 0, .slice Ao129 x349010_5.length co129, .slice none 0 0, .slice none 0 0] 29 (0, 0)) (blo_ BK348.out) hb); have n3_ := ad_ (below_step belg_ hb); clear HO_349010; clear HO357; clear BK348; clear HB; have HO_349010 := n0_; have HO357 := n1_; have BK348 := n2_; have HB := n3_; clear n0_ n1_ n2_ n3_; (try clear hb); (try clear hb2); (try clear hk); (try clear hi); obtain ⟨Ao132, co132, eo132⟩ := Kd.R_slice HO357.out; subst eo132))
        go_ret
        exact ⟨ret_, belg_⟩
       ·replace c127 := Bool.eq_false_iff.mpr c127
        subst c127
        have H1 := ifn_ H
        clear H
        have H := H1
        clear H1
        exact absurd (Option.some.inj H) (by rw [hr_.out]; decide)

/-- THE ONE PURE STATEMENT of posthornlaw23_SeriesMoves: yours. -/
def posthornlaw23_SeriesMoves.Pure : Prop := ∀ (a0 : Int) (a1 : Int) (a2 : Int) (a3 : Int) (a4 : Bool), (Lit.int .i64 a0).wf = true → (Lit.int .i64 a1).wf = true → (Lit.int .i64 a2).wf = true → (Lit.int .i64 a3).wf = true → ∃ k, posthornlaw23_SeriesMoves.f k a0 a1 a2 a3 a4 = some true
theorem posthornlaw23_SeriesMoves.walk (P : posthornlaw23_SeriesMoves.Pure) (a0 : Int) (a1 : Int) (a2 : Int) (a3 : Int) (a4 : Bool) (w : World) (w0 : (Lit.int .i64 a0).wf = true) (w1 : (Lit.int .i64 a1).wf = true) (w2 : (Lit.int .i64 a2).wf = true) (w3 : (Lit.int .i64 a3).wf = true) :
  Calls Try.prog 5 #[.int .i64 a0, .int .i64 a1, .int .i64 a2, .int .i64 a3, .bool a4] w fun e w' => e = .returned (.bool true) ∧ Below w.heap.size w w' := by
 obtain ⟨k, h⟩ := P a0 a1 a2 a3 a4 w0 w1 w2 w3
 refine (posthornlaw23_SeriesMoves.calls k a0 a1 a2 a3 a4 true w h).mono ?_
 rintro e w' ⟨rfl, hd⟩
 exact ⟨rfl, hd⟩

end Go.Proofs.Ytkgkblmeafhkfaa.PS

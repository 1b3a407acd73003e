-- Written by a program of the session (wip/tools).
import Derived.Test.YtlplmkllmgdifaaPZx0
import Derived.Test.YtlplmkllmgdifaaPZx5
namespace Go.Proofs.Ytlplmkllmgdifaa.PZ
open Go.RowKit Go.Proofs.YtlplmkllmgdifaaW.PrintWords Go.Proofs.YtlplmkllmgdifaaW.PrintLast Go.Proofs.YtlplmkllmgdifaaW.PrintMore
attribute [local go_sem] max2_int min2_int max_two min_two max_three min_three max_four min_four   -- for this text's walks alone
set_option linter.unusedVariables false
set_option linter.unusedSimpArgs false

/-! ### zone_Onset_of: function 79 -/
def zone_Onset_of.l0 : Nat → Int → Int → Int → Int → Option (Int)
 | 0, _, _, _, _ => none
 | k + 1, x11, x12, x157000, x157001 => if (wrap64 (x11 + 7)) < x12 then (zone_Onset_of.l0 k (wrap64 (x11 + 7)) x12 x157000 x157001) else (some (wrap64 (x11 + (wrap64 (7 * (wrap64 (x157001 + 1)))))))
def zone_Onset_of.f (k : Nat) (a0_0 : Int) (a0_1 : Int) (a0_2 : Int) (a0_3 : Bool) (a0_4 : Int) (a0_5 : Int) (a0_6 : Int) (a0_7 : Int) (l0_8 : List Int) (l0_9 : List Int) (l0_10 : List (S79)) (a1 : Int) : Option (Int) := if 0 < (l0_8.length : Int) then (if 0 < (l0_10.length : Int) then ((when_Days.f k a1 (rd l0_8 0) 1).bind fun bt157 => ((date_Weekday.f bt157.1).bind fun bt159 => (if ((rd_T79 l0_10 0).f1) > 0 then (some (wrap64 ((wrap64 (bt157.1 + (Int.tmod (wrap64 ((wrap64 (((rd_T79 l0_10 0).f0) - bt159.1)) + 7)) 7))) + (wrap64 (7 * (wrap64 (((rd_T79 l0_10 0).f1) - 1))))))) else ((zone_length.f k a1 (rd l0_8 0)).bind fun t161 => (zone_Onset_of.l0 k (wrap64 (bt157.1 + (Int.tmod (wrap64 ((wrap64 (((rd_T79 l0_10 0).f0) - bt159.1)) + 7)) 7))) (wrap64 (bt157.1 + t161)) ((rd_T79 l0_10 0).f0) ((rd_T79 l0_10 0).f1)))))) else (none)) else (none)
theorem zone_Onset_of.mono_l : ∀ k, (∀ y0 y1 y2 y3, LeO (zone_Onset_of.l0 k y0 y1 y2 y3) (zone_Onset_of.l0 (k + 1) y0 y1 y2 y3))
 | 0 => fun _ _ _ _ r h => by simp [zone_Onset_of.l0] at h
 | k + 1 => by
  have ih0 := zone_Onset_of.mono_l k
  ·intro y0 y1 y2 y3
   unfold zone_Onset_of.l0
   repeat' first
   | (with_reducible exact ih0 ..)
   | (with_reducible exact when_Days.mono ..)
   | (with_reducible exact zone_length.mono ..)
   | (with_reducible exact LeO.refl ..)
   | (with_reducible exact LeO.none ..)
   | (with_reducible refine LeO.ite ?_ ?_)
   | (with_reducible refine LeO.bind ?_ (fun _ => ?_))
   | exact ih0 ..
   | exact when_Days.mono ..
   | exact zone_length.mono ..
   | exact LeO.none ..
   | refine LeO.ite ?_ ?_
   | refine LeO.bind ?_ (fun _ => ?_)
theorem zone_Onset_of.mono : ∀ a0 a1 a2 a3 a4 a5 a6 a7 a8 a9 a10 a11 k, LeO (zone_Onset_of.f k a0 a1 a2 a3 a4 a5 a6 a7 a8 a9 a10 a11) (zone_Onset_of.f (k + 1) a0 a1 a2 a3 a4 a5 a6 a7 a8 a9 a10 a11) := by
 intro a0 a1 a2 a3 a4 a5 a6 a7 a8 a9 a10 a11 k
 have ih0 := zone_Onset_of.mono_l k
 unfold zone_Onset_of.f
 repeat' first
   | (with_reducible exact ih0 ..)
   | (with_reducible exact when_Days.mono ..)
   | (with_reducible exact zone_length.mono ..)
   | (with_reducible exact LeO.refl ..)
   | (with_reducible exact LeO.none ..)
   | (with_reducible refine LeO.ite ?_ ?_)
   | (with_reducible refine LeO.bind ?_ (fun _ => ?_))
   | exact ih0 ..
   | exact when_Days.mono ..
   | exact zone_length.mono ..
   | exact LeO.none ..
   | refine LeO.ite ?_ ?_
   | refine LeO.bind ?_ (fun _ => ?_)
def zone_Onset_of.T1 : Bool × List (List Nat × List Nat) := (true, [([], []), ([0], [0]), ([1], [1]), ([2], [2]), ([3], [3]), ([], []), ([5], [5]), ([6], [6]), ([7], [7]), ([8], [8]), ([], []), ([4, 0, 1, 2, 3, 4, 10], [4]), ([10, 9, 11, 0, 1, 2, 3, 4, 5, 6, 7, 8, 9, 10, 11], [9, 10])])
def zone_Onset_of.B1 : List Nat := [0, 1, 3, 7, 15, 0, 32, 96, 224, 480, 0, 1055, 4095]
theorem zone_Onset_of.tab1 : rtab .any (opsOf Try.f79 1) = zone_Onset_of.T1 := by kernel_rfl
theorem zone_Onset_of.bits1 : waitsOk zone_Onset_of.T1.2 zone_Onset_of.B1 = true := by kernel_rfl
set_option maxHeartbeats 8000000 in
set_option maxRecDepth 100000 in
theorem zone_Onset_of.calls (k : Nat) (a0_0 : Int) (a0_1 : Int) (a0_2 : Int) (a0_3 : Bool) (a0_4 : Int) (a0_5 : Int) (a0_6 : Int) (a0_7 : Int) (A0_8 : Option Addr) (c0_8 : Nat) (l0_8 : List Int) (A0_9 : Option Addr) (c0_9 : Nat) (l0_9 : List Int) (A0_10 : Option Addr) (c0_10 : Nat) (l0_10 : List (S79)) (a1 : Int) (r : Int) (w : World) (hr0_8 : Kd.C (Kd.int .i64) w A0_8 l0_8.length l0_8) (hc0_8 : l0_8.length ≤ c0_8) (hr0_9 : Kd.C (Kd.int .i64) w A0_9 l0_9.length l0_9) (hc0_9 : l0_9.length ≤ c0_9) (hr0_10 : Kd.C k79 w A0_10 l0_10.length l0_10) (hc0_10 : l0_10.length ≤ c0_10) (h : zone_Onset_of.f k a0_0 a0_1 a0_2 a0_3 a0_4 a0_5 a0_6 a0_7 l0_8 l0_9 l0_10 a1 = some r) :
  Calls Try.prog 79 #[.agg #[.int .i64 a0_0, .int .i64 a0_1, .int .i64 a0_2, .bool a0_3, .int .i64 a0_4, .int .i64 a0_5, .int .i64 a0_6, .int .i64 a0_7, .slice A0_8 l0_8.length c0_8, .slice A0_9 l0_9.length c0_9, .slice A0_10 l0_10.length c0_10], .int .i64 a1] w fun e w' => e = .returned (.int .i64 r) ∧ Below w.heap.size w w' := by
 have hu42 := Try.underlying42
 have hu79 := Try.underlying79
 have HR0_8 := Aside0.mk hr0_8
 have HC0_8 := Aside0.mk hc0_8
 clear hr0_8 hc0_8
 have HR0_9 := Aside0.mk hr0_9
 have HC0_9 := Aside0.mk hc0_9
 clear hr0_9 hc0_9
 have HR0_10 := Aside0.mk hr0_10
 have HC0_10 := Aside0.mk hc0_10
 clear hr0_10 hc0_10
 have HB := ad_ (Below.refl w.heap.size w)
 have H : (if 0 < (l0_8.length : Int) then (if 0 < (l0_10.length : Int) then ((when_Days.f k a1 (rd l0_8 0) 1).bind fun bt157 => ((date_Weekday.f bt157.1).bind fun bt159 => (if ((rd_T79 l0_10 0).f1) > 0 then (some (wrap64 ((wrap64 (bt157.1 + (Int.tmod (wrap64 ((wrap64 (((rd_T79 l0_10 0).f0) - bt159.1)) + 7)) 7))) + (wrap64 (7 * (wrap64 (((rd_T79 l0_10 0).f1) - 1))))))) else ((zone_length.f k a1 (rd l0_8 0)).bind fun t161 => (zone_Onset_of.l0 k (wrap64 (bt157.1 + (Int.tmod (wrap64 ((wrap64 (((rd_T79 l0_10 0).f0) - bt159.1)) + 7)) 7))) (wrap64 (bt157.1 + t161)) ((rd_T79 l0_10 0).f0) ((rd_T79 l0_10 0).f1)))))) else (none)) else (none)) = some r := h
 clear h
 by_cases c3 : 0 < (l0_8.length : Int)
 ·rw [if_pos c3] at H
  have c3b0 : decide (0 < (l0_8.length : Int)) = true := decide_eq_true c3
  have c3b1 : decide (0 < l0_8.length) = true := decide_eq_true (by omega)
  clear c3
  by_cases c4 : 0 < (l0_10.length : Int)
  ·rw [if_pos c4] at H
   have c4b0 : decide (0 < (l0_10.length : Int)) = true := decide_eq_true c4
   have c4b1 : decide (0 < l0_10.length) = true := decide_eq_true (by omega)
   clear c4
   replace H := Option.bind_eq_some_iff.mp H
   obtain ⟨⟨t157, t158⟩, A50, H⟩ := H
   try dsimp only at H
   have A5 := Aside0.mk A50
   clear A50
   replace H := Option.bind_eq_some_iff.mp H
   obtain ⟨⟨t159, t160⟩, A60, H⟩ := H
   try dsimp only at H
   have A6 := Aside0.mk A60
   clear A60
   by_cases c7 : ((rd_T79 l0_10 0).f1) > 0
   ·rw [if_pos c7] at H
    have c7b0 : decide (0 < ((rd_T79 l0_10 0).f1)) = true := decide_eq_true c7
    clear c7
    obtain rfl := Option.some.inj H
    go_enter Try.func79, Try.ntmps79
    try go_wp2_with (first | ((with_reducible refine gate_dst (N := 2) rfl ?_); refine box_event ?hg (N := 2) ?hd (cs := #[.int .i64 a0_0, .int .i64 a0_1, .int .i64 a0_2, .bool a0_3, .int .i64 a0_4, .int .i64 a0_5, .int .i64 a0_6, .int .i64 a0_7, .slice A0_8 l0_8.length c0_8, .slice A0_9 l0_9.length c0_9, .slice A0_10 l0_10.length c0_10]) (t := 42) ?hr ?_; (case hd => rfl); (case hg => rfl); (case hr => first | (go_simp; done) | (go_simp; rfl)); intro gb153 hg w8 hbox hb; have n0_ := ad_ (below_step bel_ hb); have n1_ := ad_ (hbox); have n2_ := ad_ ((by rw [hg]; exact (below_size bel_) : w.heap.size ≤ gb153)); have n3_ := ad_ ((by rw [hg]; exact (below_size bel_) : w.heap.size ≤ gb153)); clear HB; have HB := n0_; have BK153 := n1_; have GW153 := n2_; have GE153 := n3_; clear n0_ n1_ n2_ n3_; clear hb hbox hg))
    have n0_ := ad_ (blk_drew BK153.out)
    have n1_ := ad_ (below_drew1 HB.out)
    clear BK153
    clear HB
    have BK153 := n0_
    have HB := n1_
    clear n0_ n1_
    have p154 : 0 ≤ (0 : Int) := (by omega)
    have q154 : 0 < (l0_8.length : Int) := dec_
    obtain ⟨ad154, e154, hx154_0⟩ := Kd.at_int HR0_8.out 0 p154 q154
    have hw154_0 := hx154_0
    (try rw [show ((0 : Int)).toNat = 0 from rfl] at hw154_0)
    (try rw [show 0 * 1 = 0 from rfl] at hw154_0)
    (try rw [Addr.add_zero'] at hw154_0)
    cases e154
    have qi154 : (0 < l0_8.length) = True := eq_true (by omega)
    (try rw [show ((0 : Int)).toNat = 0 from rfl] at hx154_0)
    (try rw [Addr.add_zero'] at hx154_0)
    replace hx154_0 := (HB.out.cell (World.block_lt_of_cell? w _ hx154_0)).trans hx154_0
    replace p154 := eq_true p154
    replace q154 := eq_true q154
    have p155 : 0 ≤ (0 : Int) := (by omega)
    have q155 : 0 < (l0_10.length : Int) := dec_
    obtain ⟨ad155, e155, hx155_0, hx155_1⟩ := at_T79 HR0_10.out 0 p155 q155
    have hw155_1 := hx155_1
    (try rw [show ((0 : Int)).toNat = 0 from rfl] at hw155_1)
    (try rw [show 0 * 2 = 0 from rfl] at hw155_1)
    (try rw [Addr.add_zero'] at hw155_1)
    have hw155_0 := hx155_0
    (try rw [show ((0 : Int)).toNat = 0 from rfl] at hw155_0)
    (try rw [show 0 * 2 = 0 from rfl] at hw155_0)
    (try rw [Addr.add_zero'] at hw155_0)
    cases e155
    have qi155 : (0 < l0_10.length) = True := eq_true (by omega)
    (try rw [show ((0 : Int)).toNat = 0 from rfl] at hx155_0)
    (try rw [show 0 * 2 = 0 from rfl] at hx155_0)
    (try rw [Addr.add_zero'] at hx155_0)
    (try rw [show ((0 : Int)).toNat = 0 from rfl] at hx155_1)
    (try rw [show 0 * 2 = 0 from rfl] at hx155_1)
    (try rw [Addr.add_zero'] at hx155_1)
    replace hx155_0 := (HB.out.cell (World.block_lt_of_cell? w _ hx155_0)).trans hx155_0
    replace hx155_1 := (HB.out.cell (World.block_lt_of_cell? w _ hx155_1)).trans hx155_1
    replace p155 := eq_true p155
    replace q155 := eq_true q155
    refine start_ (n := 13) (S := fun w' => w'.cell? ⟨gb153, 0, none⟩ = some (.int .i64 a0_0) ∧ w'.cell? ⟨gb153, 1, none⟩ = some (.int .i64 a0_1) ∧ w'.cell? ⟨gb153, 2, none⟩ = some (.int .i64 a0_2) ∧ w'.cell? ⟨gb153, 3, none⟩ = some (.bool a0_3) ∧ w'.cell? ⟨gb153, 4, none⟩ = some (.int .i64 a0_4) ∧ w'.cell? ⟨gb153, 5, none⟩ = some (.int .i64 a0_5) ∧ w'.cell? ⟨gb153, 6, none⟩ = some (.int .i64 a0_6) ∧ w'.cell? ⟨gb153, 7, none⟩ = some (.int .i64 a0_7) ∧ w'.cell? ⟨gb153, 8, none⟩ = some (.slice (some ad154) l0_8.length c0_8) ∧ w'.cell? ⟨gb153, 9, none⟩ = some (.slice A0_9 l0_9.length c0_9) ∧ w'.cell? ⟨gb153, 10, none⟩ = some (.slice (some ad155) l0_10.length c0_10) ∧ w'.cell? ad154 = some (.int .i64 (rd l0_8 0)) ∧ w'.cell? ad155 = some (.int .i64 ((rd_T79 l0_10 0).f0)) ∧ w'.cell? ⟨ad155.block, ad155.off + 1, none⟩ = some (.int .i64 ((rd_T79 l0_10 0).f1))) (ds := []) #[false, false, false, false, false, false, false, false, false, false, false, false, false] (by kernel_rfl) rfl rfl ⟨(blk_cell BK153.out 0).trans rfl, (blk_cell BK153.out 1).trans rfl, (blk_cell BK153.out 2).trans rfl, (blk_cell BK153.out 3).trans rfl, (blk_cell BK153.out 4).trans rfl, (blk_cell BK153.out 5).trans rfl, (blk_cell BK153.out 6).trans rfl, (blk_cell BK153.out 7).trans rfl, (blk_cell BK153.out 8).trans rfl, (blk_cell BK153.out 9).trans rfl, (blk_cell BK153.out 10).trans rfl, ((HB.out.cell (World.block_lt_of_cell? w _ hw154_0)).trans hw154_0), ((HB.out.cell (World.block_lt_of_cell? w _ hw155_0)).trans hw155_0), ((HB.out.cell (World.block_lt_of_cell? w _ hw155_1)).trans hw155_1)⟩ (fun hHeld => ?_); refine with_tabW zone_Onset_of.tab1 zone_Onset_of.bits1 (fun HT_ HW_ => ?_)
    generalize w8.drew = w9 at BK153 HB hx154_0 hx155_0 hx155_1 hHeld ⊢
    refine pure_ (i := 0) (N := some 13) (v := ?_) (a' := ?_) #[true, false, false, false, false, false, false, false, false, false, false, false, false] rfl rfl (any_of HT_.out (by kernel_rfl)) (fun _ _ _ h => h) (Or.inl ⟨by rfl, ?_⟩) ?_ ?_
    rotate_left
    ·intro w'
     go_simp
     with_reducible rfl
    rotate_left
    ·simp only [Act.put, List.setIfInBounds_toArray, List.set_cons_zero, List.set_cons_succ, i64_w, i32_w]
     rfl
    refine pure_ (i := 1) (N := some 14) (v := ?_) (a' := ?_) #[true, true, false, false, false, false, false, false, false, false, false, false, false] rfl rfl (any_of HT_.out (by kernel_rfl)) (fun _ _ _ h => h) (Or.inl ⟨by rfl, ?_⟩) ?_ ?_
    rotate_left
    ·intro w'
     go_simp
     with_reducible rfl
    rotate_left
    ·simp only [Act.put, List.setIfInBounds_toArray, List.set_cons_zero, List.set_cons_succ, i64_w, i32_w]
     rfl
    refine pure_ (i := 5) (N := some 18) (v := ?_) (a' := ?_) #[true, true, false, false, false, true, false, false, false, false, false, false, false] rfl rfl (any_of HT_.out (by kernel_rfl)) (fun _ _ _ h => h) (Or.inl ⟨by rfl, ?_⟩) ?_ ?_
    rotate_left
    ·intro w'
     go_simp
     with_reducible rfl
    rotate_left
    ·simp only [Act.put, List.setIfInBounds_toArray, List.set_cons_zero, List.set_cons_succ, i64_w, i32_w]
     rfl
    refine pure_ (i := 6) (N := some 19) (v := ?_) (a' := ?_) #[true, true, false, false, false, true, true, false, false, false, false, false, false] rfl rfl (any_of HT_.out (by kernel_rfl)) (fun _ _ _ h => h) (Or.inl ⟨by rfl, ?_⟩) ?_ ?_
    rotate_left
    ·intro w'
     go_simp
     with_reducible rfl
    rotate_left
    ·simp only [Act.put, List.setIfInBounds_toArray, List.set_cons_zero, List.set_cons_succ, i64_w, i32_w]
     rfl
    refine take_ (i := 2) (N := some 15) (v := ?_) (a' := ?_) #[true, true, true, false, false, true, true, false, false, false, false, false, false] rfl rfl (take_ofW HT_.out HW_.out (by kernel_rfl)) (fun _ _ _ h => h) (Or.inl ⟨by rfl, ?_⟩) hHeld ?_ ?_
    rotate_left
    ·rintro w' ⟨s0, s1, s2, s3, s4, s5, s6, s7, s8, s9, s10, s11, s12, s13⟩
     go_simp
     with_reducible rfl
    rotate_left
    ·simp only [Act.put, List.setIfInBounds_toArray, List.set_cons_zero, List.set_cons_succ, i64_w, i32_w]
     rfl
    refine pure_ (i := 3) (N := some 16) (v := ?_) (a' := ?_) #[true, true, true, true, false, true, true, false, false, false, false, false, false] rfl rfl (any_of HT_.out (by kernel_rfl)) (fun _ _ _ h => h) (Or.inl ⟨by rfl, ?_⟩) ?_ ?_
    rotate_left
    ·intro w'
     go_simp
     with_reducible rfl
    rotate_left
    ·simp only [Act.put, List.setIfInBounds_toArray, List.set_cons_zero, List.set_cons_succ, i64_w, i32_w]
     rfl
    refine take_ (i := 4) (N := some 17) (v := ?_) (a' := ?_) #[true, true, true, true, true, true, true, false, false, false, false, false, false] rfl rfl (take_ofW HT_.out HW_.out (by kernel_rfl)) (fun _ _ _ h => h) (Or.inl ⟨by rfl, ?_⟩) hHeld ?_ ?_
    rotate_left
    ·rintro w' ⟨s0, s1, s2, s3, s4, s5, s6, s7, s8, s9, s10, s11, s12, s13⟩
     go_simp
     with_reducible rfl
    rotate_left
    ·simp only [Act.put, List.setIfInBounds_toArray, List.set_cons_zero, List.set_cons_succ, i64_w, i32_w]
     rfl
    refine take_ (i := 7) (N := some 20) (v := ?_) (a' := ?_) #[true, true, true, true, true, true, true, true, false, false, false, false, false] rfl rfl (take_ofW HT_.out HW_.out (by kernel_rfl)) (fun _ _ _ h => h) (Or.inl ⟨by rfl, ?_⟩) hHeld ?_ ?_
    rotate_left
    ·rintro w' ⟨s0, s1, s2, s3, s4, s5, s6, s7, s8, s9, s10, s11, s12, s13⟩
     go_simp
     with_reducible rfl
    rotate_left
    ·simp only [Act.put, List.setIfInBounds_toArray, List.set_cons_zero, List.set_cons_succ, i64_w, i32_w]
     rfl
    refine pure_ (i := 8) (N := some 21) (v := ?_) (a' := ?_) #[true, true, true, true, true, true, true, true, true, false, false, false, false] rfl rfl (any_of HT_.out (by kernel_rfl)) (fun _ _ _ h => h) (Or.inl ⟨by rfl, ?_⟩) ?_ ?_
    rotate_left
    ·intro w'
     go_simp
     with_reducible rfl
    rotate_left
    ·simp only [Act.put, List.setIfInBounds_toArray, List.set_cons_zero, List.set_cons_succ, i64_w, i32_w]
     rfl
    refine take_ (i := 9) (N := some 22) (v := ?_) (a' := ?_) #[true, true, true, true, true, true, true, true, true, true, false, false, false] rfl rfl (take_ofW HT_.out HW_.out (by kernel_rfl)) (fun _ _ _ h => h) (Or.inl ⟨by rfl, ?_⟩) hHeld ?_ ?_
    rotate_left
    ·rintro w' ⟨s0, s1, s2, s3, s4, s5, s6, s7, s8, s9, s10, s11, s12, s13⟩
     go_simp
     with_reducible rfl
    rotate_left
    ·simp only [Act.put, List.setIfInBounds_toArray, List.set_cons_zero, List.set_cons_succ, i64_w, i32_w]
     rfl
    refine one_ (i := 10) (N := some 6) #[true, true, true, true, true, true, true, true, true, true, true, false, false] rfl rfl (one_of HT_.out (by kernel_rfl)) (by decide) (fun K hK => ?_)
    refine box_step ?hg (N := 6) ?hd (cs := #[.int .i64 0, .int .i64 0]) (t := 79) ?hr ?_; (case hd => rfl); (case hg => rfl); (case hr => first | (go_simp; done) | (go_simp; rfl))
    intro gb156 hg w10 hbox hb
    have n0_ := ad_ (blk_below (g := gb153) (o := .cells #[.int .i64 a0_0, .int .i64 a0_1, .int .i64 a0_2, .bool a0_3, .int .i64 a0_4, .int .i64 a0_5, .int .i64 a0_6, .int .i64 a0_7, .slice (some ad154) l0_8.length c0_8, .slice A0_9 l0_9.length c0_9, .slice (some ad155) l0_10.length c0_10] 42 (0, 0)) (blo_ BK153.out) hb)
    have n1_ := ad_ (below_step belg_ hb)
    have n2_ := ad_ (hbox)
    have n3_ := ad_ ((by rw [hg]; exact (below_size belg_) : w.heap.size ≤ gb156))
    have n4_ := ad_ ((by rw [hg]; exact (below_size belg_) : w.heap.size ≤ gb156))
    have n5_ := ad_ ((by rw [hg]; exact Nat.ne_of_lt (blk_lt (g := gb153) (o := .cells #[.int .i64 a0_0, .int .i64 a0_1, .int .i64 a0_2, .bool a0_3, .int .i64 a0_4, .int .i64 a0_5, .int .i64 a0_6, .int .i64 a0_7, .slice (some ad154) l0_8.length c0_8, .slice A0_9 l0_9.length c0_9, .slice (some ad155) l0_10.length c0_10] 42 (0, 0)) (blo_ BK153.out)) : gb153 ≠ gb156))
    have n6_ := ad_ ((by rw [hg]; exact Nat.ne_of_gt (blk_lt (g := gb153) (o := .cells #[.int .i64 a0_0, .int .i64 a0_1, .int .i64 a0_2, .bool a0_3, .int .i64 a0_4, .int .i64 a0_5, .int .i64 a0_6, .int .i64 a0_7, .slice (some ad154) l0_8.length c0_8, .slice A0_9 l0_9.length c0_9, .slice (some ad155) l0_10.length c0_10] 42 (0, 0)) (blo_ BK153.out)) : gb156 ≠ gb153))
    clear BK153
    clear HB
    have BK153 := n0_
    have HB := n1_
    have BK156 := n2_
    have GW156 := n3_
    have GE156 := n4_
    have NB153_156 := n5_
    have NB156_153 := n6_
    clear n0_ n1_ n2_ n3_ n4_ n5_ n6_
    clear hb hbox hg
    refine hK.out _ _ ⟨(blk_cell BK153.out 0).trans rfl, (blk_cell BK153.out 1).trans rfl, (blk_cell BK153.out 2).trans rfl, (blk_cell BK153.out 3).trans rfl, (blk_cell BK153.out 4).trans rfl, (blk_cell BK153.out 5).trans rfl, (blk_cell BK153.out 6).trans rfl, (blk_cell BK153.out 7).trans rfl, (blk_cell BK153.out 8).trans rfl, (blk_cell BK153.out 9).trans rfl, (blk_cell BK153.out 10).trans rfl, ((HB.out.cell (World.block_lt_of_cell? w _ hw154_0)).trans hw154_0), ((HB.out.cell (World.block_lt_of_cell? w _ hw155_0)).trans hw155_0), ((HB.out.cell (World.block_lt_of_cell? w _ hw155_1)).trans hw155_1)⟩ (fun hHeld => ?_)
    clear hK K
    refine norm_ (a' := ?_) ?_ ?_
    rotate_left
    ·show Act.put _ (some 6) _ = _
     simp only [Act.put, List.setIfInBounds_toArray, List.set_cons_zero, List.set_cons_succ, i64_w, i32_w]
     rfl
    refine pure_ (i := 11) (N := some 5) (v := ?_) (a' := ?_) #[true, true, true, true, true, true, true, true, true, true, true, true, false] rfl rfl (any_of HT_.out (by kernel_rfl)) (fun _ _ _ h => h) (Or.inl ⟨by rfl, ?_⟩) ?_ ?_
    rotate_left
    ·intro w'
     go_simp
     with_reducible rfl
    rotate_left
    ·simp only [Act.put, List.setIfInBounds_toArray, List.set_cons_zero, List.set_cons_succ, i64_w, i32_w]
     rfl
    refine one_ (i := 12) (N := none) #[true, true, true, true, true, true, true, true, true, true, true, true, true] rfl rfl (one_of HT_.out (by kernel_rfl)) (by decide) (fun K hK => ?_)
    have hs11 : w10.cell? ⟨gb156, 0, none⟩ = some (.int .i64 0) := (blk_cell BK156.out 0).trans rfl
    have hfs11 := blk_frozen BK156.out 0
    have hns11_0 := NB153_156.out
    have hms11_0 := NB156_153.out
    have hs12 : w10.cell? ⟨gb156, 1, none⟩ = some (.int .i64 0) := (blk_cell BK156.out 1).trans rfl
    have hfs12 := blk_frozen BK156.out 1
    have hns12_0 := NB153_156.out
    have hms12_0 := NB156_153.out
    refine skip_ (w1 := ?_) (by rfl) rfl ?_ ?_
    rotate_left
    ·go_simp
     rfl
    refine hK.out _ _ ⟨((cell_far (p := ⟨gb156, _, none⟩) NB153_156.out _).trans (((cell_far (p := ⟨gb156, _, none⟩) NB153_156.out _).trans (hHeld.1)))), ((cell_far (p := ⟨gb156, _, none⟩) NB153_156.out _).trans (((cell_far (p := ⟨gb156, _, none⟩) NB153_156.out _).trans (hHeld.2.1)))), ((cell_far (p := ⟨gb156, _, none⟩) NB153_156.out _).trans (((cell_far (p := ⟨gb156, _, none⟩) NB153_156.out _).trans (hHeld.2.2.1)))), ((cell_far (p := ⟨gb156, _, none⟩) NB153_156.out _).trans (((cell_far (p := ⟨gb156, _, none⟩) NB153_156.out _).trans (hHeld.2.2.2.1)))), ((cell_far (p := ⟨gb156, _, none⟩) NB153_156.out _).trans (((cell_far (p := ⟨gb156, _, none⟩) NB153_156.out _).trans (hHeld.2.2.2.2.1)))), ((cell_far (p := ⟨gb156, _, none⟩) NB153_156.out _).trans (((cell_far (p := ⟨gb156, _, none⟩) NB153_156.out _).trans (hHeld.2.2.2.2.2.1)))), ((cell_far (p := ⟨gb156, _, none⟩) NB153_156.out _).trans (((cell_far (p := ⟨gb156, _, none⟩) NB153_156.out _).trans (hHeld.2.2.2.2.2.2.1)))), ((cell_far (p := ⟨gb156, _, none⟩) NB153_156.out _).trans (((cell_far (p := ⟨gb156, _, none⟩) NB153_156.out _).trans (hHeld.2.2.2.2.2.2.2.1)))), ((cell_far (p := ⟨gb156, _, none⟩) NB153_156.out _).trans (((cell_far (p := ⟨gb156, _, none⟩) NB153_156.out _).trans (hHeld.2.2.2.2.2.2.2.2.1)))), ((cell_far (p := ⟨gb156, _, none⟩) NB153_156.out _).trans (((cell_far (p := ⟨gb156, _, none⟩) NB153_156.out _).trans (hHeld.2.2.2.2.2.2.2.2.2.1)))), ((cell_far (p := ⟨gb156, _, none⟩) NB153_156.out _).trans (((cell_far (p := ⟨gb156, _, none⟩) NB153_156.out _).trans (hHeld.2.2.2.2.2.2.2.2.2.2.1)))), ((cell_far (p := ⟨gb156, _, none⟩) (by first | exact Nat.ne_of_lt (Nat.lt_of_lt_of_le (by have := World.block_lt_of_cell? _ _ hw154_0; first | rwa [add_block] at this | exact this) GW156.out) | (rw [add_block]; exact Nat.ne_of_lt (Nat.lt_of_lt_of_le (by have := World.block_lt_of_cell? _ _ hw154_0; first | rwa [add_block] at this | exact this) GW156.out)) | (show (Addr.add _ _).block ≠ _; rw [add_block]; exact Nat.ne_of_lt (Nat.lt_of_lt_of_le (by have := World.block_lt_of_cell? _ _ hw154_0; first | rwa [add_block] at this | exact this) GW156.out)) | (dsimp only; exact Nat.ne_of_lt (Nat.lt_of_lt_of_le (by have := World.block_lt_of_cell? _ _ hw154_0; first | rwa [add_block] at this | exact this) GW156.out))) _).trans (((cell_far (p := ⟨gb156, _, none⟩) (by first | exact Nat.ne_of_lt (Nat.lt_of_lt_of_le (by have := World.block_lt_of_cell? _ _ hw154_0; first | rwa [add_block] at this | exact this) GW156.out) | (rw [add_block]; exact Nat.ne_of_lt (Nat.lt_of_lt_of_le (by have := World.block_lt_of_cell? _ _ hw154_0; first | rwa [add_block] at this | exact this) GW156.out)) | (show (Addr.add _ _).block ≠ _; rw [add_block]; exact Nat.ne_of_lt (Nat.lt_of_lt_of_le (by have := World.block_lt_of_cell? _ _ hw154_0; first | rwa [add_block] at this | exact this) GW156.out)) | (dsimp only; exact Nat.ne_of_lt (Nat.lt_of_lt_of_le (by have := World.block_lt_of_cell? _ _ hw154_0; first | rwa [add_block] at this | exact this) GW156.out))) _).trans (hHeld.2.2.2.2.2.2.2.2.2.2.2.1)))), ((cell_far (p := ⟨gb156, _, none⟩) (by first | exact Nat.ne_of_lt (Nat.lt_of_lt_of_le (by have := World.block_lt_of_cell? _ _ hw155_0; first | rwa [add_block] at this | exact this) GW156.out) | (rw [add_block]; exact Nat.ne_of_lt (Nat.lt_of_lt_of_le (by have := World.block_lt_of_cell? _ _ hw155_0; first | rwa [add_block] at this | exact this) GW156.out)) | (show (Addr.add _ _).block ≠ _; rw [add_block]; exact Nat.ne_of_lt (Nat.lt_of_lt_of_le (by have := World.block_lt_of_cell? _ _ hw155_0; first | rwa [add_block] at this | exact this) GW156.out)) | (dsimp only; exact Nat.ne_of_lt (Nat.lt_of_lt_of_le (by have := World.block_lt_of_cell? _ _ hw155_0; first | rwa [add_block] at this | exact this) GW156.out))) _).trans (((cell_far (p := ⟨gb156, _, none⟩) (by first | exact Nat.ne_of_lt (Nat.lt_of_lt_of_le (by have := World.block_lt_of_cell? _ _ hw155_0; first | rwa [add_block] at this | exact this) GW156.out) | (rw [add_block]; exact Nat.ne_of_lt (Nat.lt_of_lt_of_le (by have := World.block_lt_of_cell? _ _ hw155_0; first | rwa [add_block] at this | exact this) GW156.out)) | (show (Addr.add _ _).block ≠ _; rw [add_block]; exact Nat.ne_of_lt (Nat.lt_of_lt_of_le (by have := World.block_lt_of_cell? _ _ hw155_0; first | rwa [add_block] at this | exact this) GW156.out)) | (dsimp only; exact Nat.ne_of_lt (Nat.lt_of_lt_of_le (by have := World.block_lt_of_cell? _ _ hw155_0; first | rwa [add_block] at this | exact this) GW156.out))) _).trans (hHeld.2.2.2.2.2.2.2.2.2.2.2.2.1)))), ((cell_far (p := ⟨gb156, _, none⟩) (by first | exact Nat.ne_of_lt (Nat.lt_of_lt_of_le (by have := World.block_lt_of_cell? _ _ hw155_1; first | rwa [add_block] at this | exact this) GW156.out) | (rw [add_block]; exact Nat.ne_of_lt (Nat.lt_of_lt_of_le (by have := World.block_lt_of_cell? _ _ hw155_1; first | rwa [add_block] at this | exact this) GW156.out)) | (show (Addr.add _ _).block ≠ _; rw [add_block]; exact Nat.ne_of_lt (Nat.lt_of_lt_of_le (by have := World.block_lt_of_cell? _ _ hw155_1; first | rwa [add_block] at this | exact this) GW156.out)) | (dsimp only; exact Nat.ne_of_lt (Nat.lt_of_lt_of_le (by have := World.block_lt_of_cell? _ _ hw155_1; first | rwa [add_block] at this | exact this) GW156.out))) _).trans (((cell_far (p := ⟨gb156, _, none⟩) (by first | exact Nat.ne_of_lt (Nat.lt_of_lt_of_le (by have := World.block_lt_of_cell? _ _ hw155_1; first | rwa [add_block] at this | exact this) GW156.out) | (rw [add_block]; exact Nat.ne_of_lt (Nat.lt_of_lt_of_le (by have := World.block_lt_of_cell? _ _ hw155_1; first | rwa [add_block] at this | exact this) GW156.out)) | (show (Addr.add _ _).block ≠ _; rw [add_block]; exact Nat.ne_of_lt (Nat.lt_of_lt_of_le (by have := World.block_lt_of_cell? _ _ hw155_1; first | rwa [add_block] at this | exact this) GW156.out)) | (dsimp only; exact Nat.ne_of_lt (Nat.lt_of_lt_of_le (by have := World.block_lt_of_cell? _ _ hw155_1; first | rwa [add_block] at this | exact this) GW156.out))) _).trans (hHeld.2.2.2.2.2.2.2.2.2.2.2.2.2))))⟩ (fun hHeld => ?_)
    clear hK K
    refine done_ (done_of HT_.out (by kernel_rfl)) ?_
    try go_wp2_with (first | ((with_reducible refine gate_callee (f := 91) rfl ?_); refine goesL_ (some 26) rfl rfl Try.func91 (by kernel_rfl) rfl #[.int .i64 a1, .int .i64 (rd l0_8 0), .int .i64 1] rfl arg_ ?_; (with_reducible refine (when_Days.calls k a1 (rd l0_8 0) 1 t157 t158 _ A5.out).mono ?_); rintro e w13 ⟨rfl, hb⟩; refine ⟨_, rfl, ?_⟩; have n0_ := ad_ (blk_below (g := gb153) (o := .cells #[.int .i64 a0_0, .int .i64 a0_1, .int .i64 a0_2, .bool a0_3, .int .i64 a0_4, .int .i64 a0_5, .int .i64 a0_6, .int .i64 a0_7, .slice (some ad154) l0_8.length c0_8, .slice A0_9 l0_9.length c0_9, .slice (some ad155) l0_10.length c0_10] 42 (0, 0)) (by (with_reducible repeat (first | refine blk_drewN ?_ _ | refine blk_drew ?_ | refine blk_alloc ?_ _)); refine blk_far ?_ NB153_156.out _; (with_reducible repeat (first | refine blk_drewN ?_ _ | refine blk_drew ?_ | refine blk_alloc ?_ _)); refine blk_far ?_ NB153_156.out _; exact blo_ BK153.out) hb); have n1_ := ad_ (blk_below (g := gb156) (o := .cells #[.int .i64 ((rd_T79 l0_10 0).f0), .int .i64 ((rd_T79 l0_10 0).f1)] 79 (0, 0)) (by refine blo_ ?_; refine blk_put (cs := #[.int .i64 ((rd_T79 l0_10 0).f0), .int .i64 0]) ?_ 1 _ rfl; refine blo_ ?_; refine blk_put (cs := #[.int .i64 0, .int .i64 0]) ?_ 0 _ rfl; exact blo_ BK156.out) hb); have n2_ := ad_ (below_step belg_ hb); clear BK153; clear BK156; clear HB; have BK153 := n0_; have BK156 := n1_; have HB := n2_; clear n0_ n1_ n2_; (try clear hb); (try clear hb2); (try clear hk); (try clear hi)) | ((with_reducible refine gate_callee (f := 92) rfl ?_); refine goesL_ (some 31) rfl rfl Try.func92 (by kernel_rfl) rfl #[.int .i64 t157] rfl arg_ ?_; (with_reducible refine (date_Weekday.calls t157 t159 t160 _ A6.out).mono ?_); rintro e w' ⟨rfl, ⟨nd, rfl⟩⟩; refine ⟨_, rfl, ?_⟩; have hnb14 := NB156_153.out; have hnc14 := NB153_156.out; have hcz15_ := cells2_ BK156.out))
    go_ret
    exact ⟨ret_, belg_⟩
   ·rw [if_neg c7] at H
    have c7b0 : decide (0 < ((rd_T79 l0_10 0).f1)) = false := decide_eq_false c7
    clear c7
    replace H := Option.bind_eq_some_iff.mp H
    obtain ⟨t161, A160, H⟩ := H
    try dsimp only at H
    have A16 := Aside0.mk A160
    clear A160
    have H' := Aside0.mk H
    clear H
    go_enter Try.func79, Try.ntmps79
    try go_wp2_with (first | ((with_reducible refine gate_dst (N := 2) rfl ?_); refine box_event ?hg (N := 2) ?hd (cs := #[.int .i64 a0_0, .int .i64 a0_1, .int .i64 a0_2, .bool a0_3, .int .i64 a0_4, .int .i64 a0_5, .int .i64 a0_6, .int .i64 a0_7, .slice A0_8 l0_8.length c0_8, .slice A0_9 l0_9.length c0_9, .slice A0_10 l0_10.length c0_10]) (t := 42) ?hr ?_; (case hd => rfl); (case hg => rfl); (case hr => first | (go_simp; done) | (go_simp; rfl)); intro gb153 hg w17 hbox hb; have n0_ := ad_ (below_step bel_ hb); have n1_ := ad_ (hbox); have n2_ := ad_ ((by rw [hg]; exact (below_size bel_) : w.heap.size ≤ gb153)); have n3_ := ad_ ((by rw [hg]; exact (below_size bel_) : w.heap.size ≤ gb153)); clear HB; have HB := n0_; have BK153 := n1_; have GW153 := n2_; have GE153 := n3_; clear n0_ n1_ n2_ n3_; clear hb hbox hg))
    have n0_ := ad_ (blk_drew BK153.out)
    have n1_ := ad_ (below_drew1 HB.out)
    clear BK153
    clear HB
    have BK153 := n0_
    have HB := n1_
    clear n0_ n1_
    have p154 : 0 ≤ (0 : Int) := (by omega)
    have q154 : 0 < (l0_8.length : Int) := dec_
    obtain ⟨ad154, e154, hx154_0⟩ := Kd.at_int HR0_8.out 0 p154 q154
    have hw154_0 := hx154_0
    (try rw [show ((0 : Int)).toNat = 0 from rfl] at hw154_0)
    (try rw [show 0 * 1 = 0 from rfl] at hw154_0)
    (try rw [Addr.add_zero'] at hw154_0)
    cases e154
    have qi154 : (0 < l0_8.length) = True := eq_true (by omega)
    (try rw [show ((0 : Int)).toNat = 0 from rfl] at hx154_0)
    (try rw [Addr.add_zero'] at hx154_0)
    replace hx154_0 := (HB.out.cell (World.block_lt_of_cell? w _ hx154_0)).trans hx154_0
    replace p154 := eq_true p154
    replace q154 := eq_true q154
    have p155 : 0 ≤ (0 : Int) := (by omega)
    have q155 : 0 < (l0_10.length : Int) := dec_
    obtain ⟨ad155, e155, hx155_0, hx155_1⟩ := at_T79 HR0_10.out 0 p155 q155
    have hw155_1 := hx155_1
    (try rw [show ((0 : Int)).toNat = 0 from rfl] at hw155_1)
    (try rw [show 0 * 2 = 0 from rfl] at hw155_1)
    (try rw [Addr.add_zero'] at hw155_1)
    have hw155_0 := hx155_0
    (try rw [show ((0 : Int)).toNat = 0 from rfl] at hw155_0)
    (try rw [show 0 * 2 = 0 from rfl] at hw155_0)
    (try rw [Addr.add_zero'] at hw155_0)
    cases e155
    have qi155 : (0 < l0_10.length) = True := eq_true (by omega)
    (try rw [show ((0 : Int)).toNat = 0 from rfl] at hx155_0)
    (try rw [show 0 * 2 = 0 from rfl] at hx155_0)
    (try rw [Addr.add_zero'] at hx155_0)
    (try rw [show ((0 : Int)).toNat = 0 from rfl] at hx155_1)
    (try rw [show 0 * 2 = 0 from rfl] at hx155_1)
    (try rw [Addr.add_zero'] at hx155_1)
    replace hx155_0 := (HB.out.cell (World.block_lt_of_cell? w _ hx155_0)).trans hx155_0
    replace hx155_1 := (HB.out.cell (World.block_lt_of_cell? w _ hx155_1)).trans hx155_1
    replace p155 := eq_true p155
    replace q155 := eq_true q155
    refine start_ (n := 13) (S := fun w' => w'.cell? ⟨gb153, 0, none⟩ = some (.int .i64 a0_0) ∧ w'.cell? ⟨gb153, 1, none⟩ = some (.int .i64 a0_1) ∧ w'.cell? ⟨gb153, 2, none⟩ = some (.int .i64 a0_2) ∧ w'.cell? ⟨gb153, 3, none⟩ = some (.bool a0_3) ∧ w'.cell? ⟨gb153, 4, none⟩ = some (.int .i64 a0_4) ∧ w'.cell? ⟨gb153, 5, none⟩ = some (.int .i64 a0_5) ∧ w'.cell? ⟨gb153, 6, none⟩ = some (.int .i64 a0_6) ∧ w'.cell? ⟨gb153, 7, none⟩ = some (.int .i64 a0_7) ∧ w'.cell? ⟨gb153, 8, none⟩ = some (.slice (some ad154) l0_8.length c0_8) ∧ w'.cell? ⟨gb153, 9, none⟩ = some (.slice A0_9 l0_9.length c0_9) ∧ w'.cell? ⟨gb153, 10, none⟩ = some (.slice (some ad155) l0_10.length c0_10) ∧ w'.cell? ad154 = some (.int .i64 (rd l0_8 0)) ∧ w'.cell? ad155 = some (.int .i64 ((rd_T79 l0_10 0).f0)) ∧ w'.cell? ⟨ad155.block, ad155.off + 1, none⟩ = some (.int .i64 ((rd_T79 l0_10 0).f1))) (ds := []) #[false, false, false, false, false, false, false, false, false, false, false, false, false] (by kernel_rfl) rfl rfl ⟨(blk_cell BK153.out 0).trans rfl, (blk_cell BK153.out 1).trans rfl, (blk_cell BK153.out 2).trans rfl, (blk_cell BK153.out 3).trans rfl, (blk_cell BK153.out 4).trans rfl, (blk_cell BK153.out 5).trans rfl, (blk_cell BK153.out 6).trans rfl, (blk_cell BK153.out 7).trans rfl, (blk_cell BK153.out 8).trans rfl, (blk_cell BK153.out 9).trans rfl, (blk_cell BK153.out 10).trans rfl, ((HB.out.cell (World.block_lt_of_cell? w _ hw154_0)).trans hw154_0), ((HB.out.cell (World.block_lt_of_cell? w _ hw155_0)).trans hw155_0), ((HB.out.cell (World.block_lt_of_cell? w _ hw155_1)).trans hw155_1)⟩ (fun hHeld => ?_); refine with_tabW zone_Onset_of.tab1 zone_Onset_of.bits1 (fun HT_ HW_ => ?_)
    generalize w17.drew = w18 at BK153 HB hx154_0 hx155_0 hx155_1 hHeld ⊢
    refine pure_ (i := 0) (N := some 13) (v := ?_) (a' := ?_) #[true, false, false, false, false, false, false, false, false, false, false, false, false] rfl rfl (any_of HT_.out (by kernel_rfl)) (fun _ _ _ h => h) (Or.inl ⟨by rfl, ?_⟩) ?_ ?_
    rotate_left
    ·intro w'
     go_simp
     with_reducible rfl
    rotate_left
    ·simp only [Act.put, List.setIfInBounds_toArray, List.set_cons_zero, List.set_cons_succ, i64_w, i32_w]
     rfl
    refine pure_ (i := 1) (N := some 14) (v := ?_) (a' := ?_) #[true, true, false, false, false, false, false, false, false, false, false, false, false] rfl rfl (any_of HT_.out (by kernel_rfl)) (fun _ _ _ h => h) (Or.inl ⟨by rfl, ?_⟩) ?_ ?_
    rotate_left
    ·intro w'
     go_simp
     with_reducible rfl
    rotate_left
    ·simp only [Act.put, List.setIfInBounds_toArray, List.set_cons_zero, List.set_cons_succ, i64_w, i32_w]
     rfl
    refine pure_ (i := 5) (N := some 18) (v := ?_) (a' := ?_) #[true, true, false, false, false, true, false, false, false, false, false, false, false] rfl rfl (any_of HT_.out (by kernel_rfl)) (fun _ _ _ h => h) (Or.inl ⟨by rfl, ?_⟩) ?_ ?_
    rotate_left
    ·intro w'
     go_simp
     with_reducible rfl
    rotate_left
    ·simp only [Act.put, List.setIfInBounds_toArray, List.set_cons_zero, List.set_cons_succ, i64_w, i32_w]
     rfl
    refine pure_ (i := 6) (N := some 19) (v := ?_) (a' := ?_) #[true, true, false, false, false, true, true, false, false, false, false, false, false] rfl rfl (any_of HT_.out (by kernel_rfl)) (fun _ _ _ h => h) (Or.inl ⟨by rfl, ?_⟩) ?_ ?_
    rotate_left
    ·intro w'
     go_simp
     with_reducible rfl
    rotate_left
    ·simp only [Act.put, List.setIfInBounds_toArray, List.set_cons_zero, List.set_cons_succ, i64_w, i32_w]
     rfl
    refine take_ (i := 2) (N := some 15) (v := ?_) (a' := ?_) #[true, true, true, false, false, true, true, false, false, false, false, false, false] rfl rfl (take_ofW HT_.out HW_.out (by kernel_rfl)) (fun _ _ _ h => h) (Or.inl ⟨by rfl, ?_⟩) hHeld ?_ ?_
    rotate_left
    ·rintro w' ⟨s0, s1, s2, s3, s4, s5, s6, s7, s8, s9, s10, s11, s12, s13⟩
     go_simp
     with_reducible rfl
    rotate_left
    ·simp only [Act.put, List.setIfInBounds_toArray, List.set_cons_zero, List.set_cons_succ, i64_w, i32_w]
     rfl
    refine pure_ (i := 3) (N := some 16) (v := ?_) (a' := ?_) #[true, true, true, true, false, true, true, false, false, false, false, false, false] rfl rfl (any_of HT_.out (by kernel_rfl)) (fun _ _ _ h => h) (Or.inl ⟨by rfl, ?_⟩) ?_ ?_
    rotate_left
    ·intro w'
     go_simp
     with_reducible rfl
    rotate_left
    ·simp only [Act.put, List.setIfInBounds_toArray, List.set_cons_zero, List.set_cons_succ, i64_w, i32_w]
     rfl
    refine take_ (i := 4) (N := some 17) (v := ?_) (a' := ?_) #[true, true, true, true, true, true, true, false, false, false, false, false, false] rfl rfl (take_ofW HT_.out HW_.out (by kernel_rfl)) (fun _ _ _ h => h) (Or.inl ⟨by rfl, ?_⟩) hHeld ?_ ?_
    rotate_left
    ·rintro w' ⟨s0, s1, s2, s3, s4, s5, s6, s7, s8, s9, s10, s11, s12, s13⟩
     go_simp
     with_reducible rfl
    rotate_left
    ·simp only [Act.put, List.setIfInBounds_toArray, List.set_cons_zero, List.set_cons_succ, i64_w, i32_w]
     rfl
    refine take_ (i := 7) (N := some 20) (v := ?_) (a' := ?_) #[true, true, true, true, true, true, true, true, false, false, false, false, false] rfl rfl (take_ofW HT_.out HW_.out (by kernel_rfl)) (fun _ _ _ h => h) (Or.inl ⟨by rfl, ?_⟩) hHeld ?_ ?_
    rotate_left
    ·rintro w' ⟨s0, s1, s2, s3, s4, s5, s6, s7, s8, s9, s10, s11, s12, s13⟩
     go_simp
     with_reducible rfl
    rotate_left
    ·simp only [Act.put, List.setIfInBounds_toArray, List.set_cons_zero, List.set_cons_succ, i64_w, i32_w]
     rfl
    refine pure_ (i := 8) (N := some 21) (v := ?_) (a' := ?_) #[true, true, true, true, true, true, true, true, true, false, false, false, false] rfl rfl (any_of HT_.out (by kernel_rfl)) (fun _ _ _ h => h) (Or.inl ⟨by rfl, ?_⟩) ?_ ?_
    rotate_left
    ·intro w'
     go_simp
     with_reducible rfl
    rotate_left
    ·simp only [Act.put, List.setIfInBounds_toArray, List.set_cons_zero, List.set_cons_succ, i64_w, i32_w]
     rfl
    refine take_ (i := 9) (N := some 22) (v := ?_) (a' := ?_) #[true, true, true, true, true, true, true, true, true, true, false, false, false] rfl rfl (take_ofW HT_.out HW_.out (by kernel_rfl)) (fun _ _ _ h => h) (Or.inl ⟨by rfl, ?_⟩) hHeld ?_ ?_
    rotate_left
    ·rintro w' ⟨s0, s1, s2, s3, s4, s5, s6, s7, s8, s9, s10, s11, s12, s13⟩
     go_simp
     with_reducible rfl
    rotate_left
    ·simp only [Act.put, List.setIfInBounds_toArray, List.set_cons_zero, List.set_cons_succ, i64_w, i32_w]
     rfl
    refine one_ (i := 10) (N := some 6) #[true, true, true, true, true, true, true, true, true, true, true, false, false] rfl rfl (one_of HT_.out (by kernel_rfl)) (by decide) (fun K hK => ?_)
    refine box_step ?hg (N := 6) ?hd (cs := #[.int .i64 0, .int .i64 0]) (t := 79) ?hr ?_; (case hd => rfl); (case hg => rfl); (case hr => first | (go_simp; done) | (go_simp; rfl))
    intro gb156 hg w19 hbox hb
    have n0_ := ad_ (blk_below (g := gb153) (o := .cells #[.int .i64 a0_0, .int .i64 a0_1, .int .i64 a0_2, .bool a0_3, .int .i64 a0_4, .int .i64 a0_5, .int .i64 a0_6, .int .i64 a0_7, .slice (some ad154) l0_8.length c0_8, .slice A0_9 l0_9.length c0_9, .slice (some ad155) l0_10.length c0_10] 42 (0, 0)) (blo_ BK153.out) hb)
    have n1_ := ad_ (below_step belg_ hb)
    have n2_ := ad_ (hbox)
    have n3_ := ad_ ((by rw [hg]; exact (below_size belg_) : w.heap.size ≤ gb156))
    have n4_ := ad_ ((by rw [hg]; exact (below_size belg_) : w.heap.size ≤ gb156))
    have n5_ := ad_ ((by rw [hg]; exact Nat.ne_of_lt (blk_lt (g := gb153) (o := .cells #[.int .i64 a0_0, .int .i64 a0_1, .int .i64 a0_2, .bool a0_3, .int .i64 a0_4, .int .i64 a0_5, .int .i64 a0_6, .int .i64 a0_7, .slice (some ad154) l0_8.length c0_8, .slice A0_9 l0_9.length c0_9, .slice (some ad155) l0_10.length c0_10] 42 (0, 0)) (blo_ BK153.out)) : gb153 ≠ gb156))
    have n6_ := ad_ ((by rw [hg]; exact Nat.ne_of_gt (blk_lt (g := gb153) (o := .cells #[.int .i64 a0_0, .int .i64 a0_1, .int .i64 a0_2, .bool a0_3, .int .i64 a0_4, .int .i64 a0_5, .int .i64 a0_6, .int .i64 a0_7, .slice (some ad154) l0_8.length c0_8, .slice A0_9 l0_9.length c0_9, .slice (some ad155) l0_10.length c0_10] 42 (0, 0)) (blo_ BK153.out)) : gb156 ≠ gb153))
    clear BK153
    clear HB
    have BK153 := n0_
    have HB := n1_
    have BK156 := n2_
    have GW156 := n3_
    have GE156 := n4_
    have NB153_156 := n5_
    have NB156_153 := n6_
    clear n0_ n1_ n2_ n3_ n4_ n5_ n6_
    clear hb hbox hg
    refine hK.out _ _ ⟨(blk_cell BK153.out 0).trans rfl, (blk_cell BK153.out 1).trans rfl, (blk_cell BK153.out 2).trans rfl, (blk_cell BK153.out 3).trans rfl, (blk_cell BK153.out 4).trans rfl, (blk_cell BK153.out 5).trans rfl, (blk_cell BK153.out 6).trans rfl, (blk_cell BK153.out 7).trans rfl, (blk_cell BK153.out 8).trans rfl, (blk_cell BK153.out 9).trans rfl, (blk_cell BK153.out 10).trans rfl, ((HB.out.cell (World.block_lt_of_cell? w _ hw154_0)).trans hw154_0), ((HB.out.cell (World.block_lt_of_cell? w _ hw155_0)).trans hw155_0), ((HB.out.cell (World.block_lt_of_cell? w _ hw155_1)).trans hw155_1)⟩ (fun hHeld => ?_)
    clear hK K
    refine norm_ (a' := ?_) ?_ ?_
    rotate_left
    ·show Act.put _ (some 6) _ = _
     simp only [Act.put, List.setIfInBounds_toArray, List.set_cons_zero, List.set_cons_succ, i64_w, i32_w]
     rfl
    refine pure_ (i := 11) (N := some 5) (v := ?_) (a' := ?_) #[true, true, true, true, true, true, true, true, true, true, true, true, false] rfl rfl (any_of HT_.out (by kernel_rfl)) (fun _ _ _ h => h) (Or.inl ⟨by rfl, ?_⟩) ?_ ?_
    rotate_left
    ·intro w'
     go_simp
     with_reducible rfl
    rotate_left
    ·simp only [Act.put, List.setIfInBounds_toArray, List.set_cons_zero, List.set_cons_succ, i64_w, i32_w]
     rfl
    refine one_ (i := 12) (N := none) #[true, true, true, true, true, true, true, true, true, true, true, true, true] rfl rfl (one_of HT_.out (by kernel_rfl)) (by decide) (fun K hK => ?_)
    have hs20 : w19.cell? ⟨gb156, 0, none⟩ = some (.int .i64 0) := (blk_cell BK156.out 0).trans rfl
    have hfs20 := blk_frozen BK156.out 0
    have hns20_0 := NB153_156.out
    have hms20_0 := NB156_153.out
    have hs21 : w19.cell? ⟨gb156, 1, none⟩ = some (.int .i64 0) := (blk_cell BK156.out 1).trans rfl
    have hfs21 := blk_frozen BK156.out 1
    have hns21_0 := NB153_156.out
    have hms21_0 := NB156_153.out
    refine skip_ (w1 := ?_) (by rfl) rfl ?_ ?_
    rotate_left
    ·go_simp
     rfl
    refine hK.out _ _ ⟨((cell_far (p := ⟨gb156, _, none⟩) NB153_156.out _).trans (((cell_far (p := ⟨gb156, _, none⟩) NB153_156.out _).trans (hHeld.1)))), ((cell_far (p := ⟨gb156, _, none⟩) NB153_156.out _).trans (((cell_far (p := ⟨gb156, _, none⟩) NB153_156.out _).trans (hHeld.2.1)))), ((cell_far (p := ⟨gb156, _, none⟩) NB153_156.out _).trans (((cell_far (p := ⟨gb156, _, none⟩) NB153_156.out _).trans (hHeld.2.2.1)))), ((cell_far (p := ⟨gb156, _, none⟩) NB153_156.out _).trans (((cell_far (p := ⟨gb156, _, none⟩) NB153_156.out _).trans (hHeld.2.2.2.1)))), ((cell_far (p := ⟨gb156, _, none⟩) NB153_156.out _).trans (((cell_far (p := ⟨gb156, _, none⟩) NB153_156.out _).trans (hHeld.2.2.2.2.1)))), ((cell_far (p := ⟨gb156, _, none⟩) NB153_156.out _).trans (((cell_far (p := ⟨gb156, _, none⟩) NB153_156.out _).trans (hHeld.2.2.2.2.2.1)))), ((cell_far (p := ⟨gb156, _, none⟩) NB153_156.out _).trans (((cell_far (p := ⟨gb156, _, none⟩) NB153_156.out _).trans (hHeld.2.2.2.2.2.2.1)))), ((cell_far (p := ⟨gb156, _, none⟩) NB153_156.out _).trans (((cell_far (p := ⟨gb156, _, none⟩) NB153_156.out _).trans (hHeld.2.2.2.2.2.2.2.1)))), ((cell_far (p := ⟨gb156, _, none⟩) NB153_156.out _).trans (((cell_far (p := ⟨gb156, _, none⟩) NB153_156.out _).trans (hHeld.2.2.2.2.2.2.2.2.1)))), ((cell_far (p := ⟨gb156, _, none⟩) NB153_156.out _).trans (((cell_far (p := ⟨gb156, _, none⟩) NB153_156.out _).trans (hHeld.2.2.2.2.2.2.2.2.2.1)))), ((cell_far (p := ⟨gb156, _, none⟩) NB153_156.out _).trans (((cell_far (p := ⟨gb156, _, none⟩) NB153_156.out _).trans (hHeld.2.2.2.2.2.2.2.2.2.2.1)))), ((cell_far (p := ⟨gb156, _, none⟩) (by first | exact Nat.ne_of_lt (Nat.lt_of_lt_of_le (by have := World.block_lt_of_cell? _ _ hw154_0; first | rwa [add_block] at this | exact this) GW156.out) | (rw [add_block]; exact Nat.ne_of_lt (Nat.lt_of_lt_of_le (by have := World.block_lt_of_cell? _ _ hw154_0; first | rwa [add_block] at this | exact this) GW156.out)) | (show (Addr.add _ _).block ≠ _; rw [add_block]; exact Nat.ne_of_lt (Nat.lt_of_lt_of_le (by have := World.block_lt_of_cell? _ _ hw154_0; first | rwa [add_block] at this | exact this) GW156.out)) | (dsimp only; exact Nat.ne_of_lt (Nat.lt_of_lt_of_le (by have := World.block_lt_of_cell? _ _ hw154_0; first | rwa [add_block] at this | exact this) GW156.out))) _).trans (((cell_far (p := ⟨gb156, _, none⟩) (by first | exact Nat.ne_of_lt (Nat.lt_of_lt_of_le (by have := World.block_lt_of_cell? _ _ hw154_0; first | rwa [add_block] at this | exact this) GW156.out) | (rw [add_block]; exact Nat.ne_of_lt (Nat.lt_of_lt_of_le (by have := World.block_lt_of_cell? _ _ hw154_0; first | rwa [add_block] at this | exact this) GW156.out)) | (show (Addr.add _ _).block ≠ _; rw [add_block]; exact Nat.ne_of_lt (Nat.lt_of_lt_of_le (by have := World.block_lt_of_cell? _ _ hw154_0; first | rwa [add_block] at this | exact this) GW156.out)) | (dsimp only; exact Nat.ne_of_lt (Nat.lt_of_lt_of_le (by have := World.block_lt_of_cell? _ _ hw154_0; first | rwa [add_block] at this | exact this) GW156.out))) _).trans (hHeld.2.2.2.2.2.2.2.2.2.2.2.1)))), ((cell_far (p := ⟨gb156, _, none⟩) (by first | exact Nat.ne_of_lt (Nat.lt_of_lt_of_le (by have := World.block_lt_of_cell? _ _ hw155_0; first | rwa [add_block] at this | exact this) GW156.out) | (rw [add_block]; exact Nat.ne_of_lt (Nat.lt_of_lt_of_le (by have := World.block_lt_of_cell? _ _ hw155_0; first | rwa [add_block] at this | exact this) GW156.out)) | (show (Addr.add _ _).block ≠ _; rw [add_block]; exact Nat.ne_of_lt (Nat.lt_of_lt_of_le (by have := World.block_lt_of_cell? _ _ hw155_0; first | rwa [add_block] at this | exact this) GW156.out)) | (dsimp only; exact Nat.ne_of_lt (Nat.lt_of_lt_of_le (by have := World.block_lt_of_cell? _ _ hw155_0; first | rwa [add_block] at this | exact this) GW156.out))) _).trans (((cell_far (p := ⟨gb156, _, none⟩) (by first | exact Nat.ne_of_lt (Nat.lt_of_lt_of_le (by have := World.block_lt_of_cell? _ _ hw155_0; first | rwa [add_block] at this | exact this) GW156.out) | (rw [add_block]; exact Nat.ne_of_lt (Nat.lt_of_lt_of_le (by have := World.block_lt_of_cell? _ _ hw155_0; first | rwa [add_block] at this | exact this) GW156.out)) | (show (Addr.add _ _).block ≠ _; rw [add_block]; exact Nat.ne_of_lt (Nat.lt_of_lt_of_le (by have := World.block_lt_of_cell? _ _ hw155_0; first | rwa [add_block] at this | exact this) GW156.out)) | (dsimp only; exact Nat.ne_of_lt (Nat.lt_of_lt_of_le (by have := World.block_lt_of_cell? _ _ hw155_0; first | rwa [add_block] at this | exact this) GW156.out))) _).trans (hHeld.2.2.2.2.2.2.2.2.2.2.2.2.1)))), ((cell_far (p := ⟨gb156, _, none⟩) (by first | exact Nat.ne_of_lt (Nat.lt_of_lt_of_le (by have := World.block_lt_of_cell? _ _ hw155_1; first | rwa [add_block] at this | exact this) GW156.out) | (rw [add_block]; exact Nat.ne_of_lt (Nat.lt_of_lt_of_le (by have := World.block_lt_of_cell? _ _ hw155_1; first | rwa [add_block] at this | exact this) GW156.out)) | (show (Addr.add _ _).block ≠ _; rw [add_block]; exact Nat.ne_of_lt (Nat.lt_of_lt_of_le (by have := World.block_lt_of_cell? _ _ hw155_1; first | rwa [add_block] at this | exact this) GW156.out)) | (dsimp only; exact Nat.ne_of_lt (Nat.lt_of_lt_of_le (by have := World.block_lt_of_cell? _ _ hw155_1; first | rwa [add_block] at this | exact this) GW156.out))) _).trans (((cell_far (p := ⟨gb156, _, none⟩) (by first | exact Nat.ne_of_lt (Nat.lt_of_lt_of_le (by have := World.block_lt_of_cell? _ _ hw155_1; first | rwa [add_block] at this | exact this) GW156.out) | (rw [add_block]; exact Nat.ne_of_lt (Nat.lt_of_lt_of_le (by have := World.block_lt_of_cell? _ _ hw155_1; first | rwa [add_block] at this | exact this) GW156.out)) | (show (Addr.add _ _).block ≠ _; rw [add_block]; exact Nat.ne_of_lt (Nat.lt_of_lt_of_le (by have := World.block_lt_of_cell? _ _ hw155_1; first | rwa [add_block] at this | exact this) GW156.out)) | (dsimp only; exact Nat.ne_of_lt (Nat.lt_of_lt_of_le (by have := World.block_lt_of_cell? _ _ hw155_1; first | rwa [add_block] at this | exact this) GW156.out))) _).trans (hHeld.2.2.2.2.2.2.2.2.2.2.2.2.2))))⟩ (fun hHeld => ?_)
    clear hK K
    refine done_ (done_of HT_.out (by kernel_rfl)) ?_
    try go_wp2_with (first | ((with_reducible refine gate_callee (f := 91) rfl ?_); refine goesL_ (some 26) rfl rfl Try.func91 (by kernel_rfl) rfl #[.int .i64 a1, .int .i64 (rd l0_8 0), .int .i64 1] rfl arg_ ?_; (with_reducible refine (when_Days.calls k a1 (rd l0_8 0) 1 t157 t158 _ A5.out).mono ?_); rintro e w22 ⟨rfl, hb⟩; refine ⟨_, rfl, ?_⟩; have n0_ := ad_ (blk_below (g := gb153) (o := .cells #[.int .i64 a0_0, .int .i64 a0_1, .int .i64 a0_2, .bool a0_3, .int .i64 a0_4, .int .i64 a0_5, .int .i64 a0_6, .int .i64 a0_7, .slice (some ad154) l0_8.length c0_8, .slice A0_9 l0_9.length c0_9, .slice (some ad155) l0_10.length c0_10] 42 (0, 0)) (by (with_reducible repeat (first | refine blk_drewN ?_ _ | refine blk_drew ?_ | refine blk_alloc ?_ _)); refine blk_far ?_ NB153_156.out _; (with_reducible repeat (first | refine blk_drewN ?_ _ | refine blk_drew ?_ | refine blk_alloc ?_ _)); refine blk_far ?_ NB153_156.out _; exact blo_ BK153.out) hb); have n1_ := ad_ (blk_below (g := gb156) (o := .cells #[.int .i64 ((rd_T79 l0_10 0).f0), .int .i64 ((rd_T79 l0_10 0).f1)] 79 (0, 0)) (by refine blo_ ?_; refine blk_put (cs := #[.int .i64 ((rd_T79 l0_10 0).f0), .int .i64 0]) ?_ 1 _ rfl; refine blo_ ?_; refine blk_put (cs := #[.int .i64 0, .int .i64 0]) ?_ 0 _ rfl; exact blo_ BK156.out) hb); have n2_ := ad_ (below_step belg_ hb); clear BK153; clear BK156; clear HB; have BK153 := n0_; have BK156 := n1_; have HB := n2_; clear n0_ n1_ n2_; (try clear hb); (try clear hb2); (try clear hk); (try clear hi)) | ((with_reducible refine gate_callee (f := 92) rfl ?_); refine goesL_ (some 31) rfl rfl Try.func92 (by kernel_rfl) rfl #[.int .i64 t157] rfl arg_ ?_; (with_reducible refine (date_Weekday.calls t157 t159 t160 _ A6.out).mono ?_); rintro e w' ⟨rfl, ⟨nd, rfl⟩⟩; refine ⟨_, rfl, ?_⟩; have hnb23 := NB156_153.out; have hnc23 := NB153_156.out; have hcz24_ := cells2_ BK156.out) | ((with_reducible refine gate_callee (f := 93) rfl ?_); refine goesL_ (some 54) rfl rfl Try.func93 (by kernel_rfl) rfl #[.int .i64 a1, .int .i64 (rd l0_8 0)] rfl arg_ ?_; (with_reducible refine (zone_length.calls k a1 (rd l0_8 0) t161 _ A16.out).mono ?_); rintro e w25 ⟨rfl, hb⟩; refine ⟨_, rfl, ?_⟩; have n0_ := ad_ (blk_below (g := gb153) (o := .cells #[.int .i64 a0_0, .int .i64 a0_1, .int .i64 a0_2, .bool a0_3, .int .i64 a0_4, .int .i64 a0_5, .int .i64 a0_6, .int .i64 a0_7, .slice (some ad154) l0_8.length c0_8, .slice A0_9 l0_9.length c0_9, .slice (some ad155) l0_10.length c0_10] 42 (0, 0)) (blo_ BK153.out) hb); have n1_ := ad_ (blk_below (g := gb156) (o := .cells #[.int .i64 ((rd_T79 l0_10 0).f0), .int .i64 ((rd_T79 l0_10 0).f1)] 79 (0, 0)) (blo_ BK156.out) hb); have n2_ := ad_ (below_step belg_ hb); clear BK153; clear BK156; clear HB; have BK153 := n0_; have BK156 := n1_; have HB := n2_; clear n0_ n1_ n2_; (try clear hb); (try clear hb2); (try clear hk); (try clear hi)))
    go_loopg [11] k (fun kq v11 w' => ∃ (x11_1 : Int), v11 = .int .i64 x11_1 ∧ Aside0 (zone_Onset_of.l0 kq x11_1 (wrap64 (t157 + t161)) ((rd_T79 l0_10 0).f0) ((rd_T79 l0_10 0).f1) = some r) ∧ Aside0 (kq ≤ k) ∧ Aside0 (w'.heap[gb153]? = some (.cells #[.int .i64 a0_0, .int .i64 a0_1, .int .i64 a0_2, .bool a0_3, .int .i64 a0_4, .int .i64 a0_5, .int .i64 a0_6, .int .i64 a0_7, (.slice (some ad154) l0_8.length c0_8), (.slice A0_9 l0_9.length c0_9), (.slice (some ad155) l0_10.length c0_10)] 42 (0, 0))) ∧ Aside0 (w'.heap[gb156]? = some (.cells #[.int .i64 ((rd_T79 l0_10 0).f0), .int .i64 ((rd_T79 l0_10 0).f1)] 79 (0, 0))) ∧ Aside0 (Below w.heap.size w w'))
    case atStart => exact ⟨(wrap64 (t157 + (Int.tmod (wrap64 ((wrap64 (((rd_T79 l0_10 0).f0) - t159)) + 7)) 7))), val_, H', ⟨Nat.le_refl _⟩, ⟨blo_ BK153.out⟩, ⟨blo_ BK156.out⟩, ⟨belg_⟩⟩
    case round =>
     clear H'
     try clear c1
     try clear p1
     try clear q1
     try clear hx1
     try clear qi1
     try clear c2
     try clear p2
     try clear c3
     try clear c3b0
     try clear c3b1
     try clear c4
     try clear c4b0
     try clear c4b1
     try clear p6
     try clear c7
     try clear c7b0
     try clear c9
     try clear c14
     try clear p15
     try clear q15
     try clear hx15
     try clear qi15
     try clear c23
     try clear hcz15_
     try clear hcz24_
     try clear hx154_0
     try clear hx155_0
     try clear hx155_1
     try clear p154
     try clear p155
     try clear q154
     try clear q155
     obtain ⟨x11_1, rfl, HA, HK1, BK153, BK156, HB⟩ := hrel
     cases gk with
     | zero => exact absurd HA.out (by simp [zone_Onset_of.l0])
     | succ k1 =>
      have H := HA.out
      clear HA
      simp only [zone_Onset_of.l0] at H
      by_cases c26 : (wrap64 (x11_1 + 7)) < (wrap64 (t157 + t161))
      ·rw [if_pos c26] at H
       have c26b0 : decide ((wrap64 (x11_1 + 7)) < (wrap64 (t157 + t161))) = true := decide_eq_true c26
       clear c26
       have H' := Aside0.mk H
       clear H
       go_wp2
       go_roundg k1
       case measure => have := HK1.out; omega
       case rel => exact ⟨(wrap64 (x11_1 + 7)), val_, H', ⟨by have := HK1.out; omega⟩, ⟨blo_ BK153.out⟩, ⟨blo_ BK156.out⟩, ⟨belg_⟩⟩
      ·rw [if_neg c26] at H
       have c26b0 : decide ((wrap64 (x11_1 + 7)) < (wrap64 (t157 + t161))) = false := decide_eq_false c26
       clear c26
       obtain rfl := Option.some.inj H
       have hnb27 := NB156_153.out
       have hnc27 := NB153_156.out
       have hcz28_ := cells2_ BK156.out
       go_wp2
       go_ret
       exact ⟨ret_, belg_⟩
  ·rw [if_neg c4] at H
   exact absurd H (by simp)
 ·rw [if_neg c3] at H
  exact absurd H (by simp)

end Go.Proofs.Ytlplmkllmgdifaa.PZ

-- Written by a program of the session (wip/tools).
import Derived.Test.YtalepohjmjlndaaPBx0
import Derived.Test.YtalepohjmjlndaaPBx3
import Derived.Test.YtalepohjmjlndaaPBx4
import Derived.Test.YtalepohjmjlndaaPBx5
namespace Go.Proofs.Ytalepohjmjlndaa.PB
open Go.RowKit Go.Proofs.YtalepohjmjlndaaW.PrintWords Go.Proofs.YtalepohjmjlndaaW.PrintLast Go.Proofs.YtalepohjmjlndaaW.PrintMore
attribute [local go_sem] max2_int min2_int max_two min_two max_three min_three max_four min_four   -- for this text's walks alone
set_option linter.unusedVariables false
set_option linter.unusedSimpArgs false

/-! ### busy_fits: function 30 -/
def busy_fits.f (k : Nat) (l0 : List (S44)) (a1 : Int) (a2 : Int) : Option (Int) := (busy_Right.f k l0).bind fun t114 => (if t114 = true then ((busy_isSpan.f a1 a2).bind fun t115 => (if t115 = true then (some 0) else (some 1))) else (some 3))
theorem busy_fits.mono : ∀ a0 a1 a2 k, LeO (busy_fits.f k a0 a1 a2) (busy_fits.f (k + 1) a0 a1 a2) := by
  intro a0 a1 a2 k
  unfold busy_fits.f
  repeat' first
      | (with_reducible exact busy_Right.mono _ _)
      | (with_reducible exact LeO.refl _)
      | (with_reducible exact LeO.none _)
      | (with_reducible refine LeO.ite ?_ ?_)
      | (with_reducible refine LeO.bind ?_ (fun _ => ?_))
      | exact busy_Right.mono _ _
      | exact LeO.none _
      | refine LeO.ite ?_ ?_
      | refine LeO.bind ?_ (fun _ => ?_)
set_option maxHeartbeats 8000000 in
set_option maxRecDepth 100000 in
theorem busy_fits.calls (k : Nat) (A0 : Option Addr) (c0 : Nat) (l0 : List (S44)) (a1 : Int) (a2 : Int) (r : Int) (w : World) (hr0 : Kd.C k44 w A0 l0.length l0) (hc0 : l0.length ≤ c0) (h : busy_fits.f k l0 a1 a2 = some r) :
    Calls Try.prog 30 #[.slice A0 l0.length c0, .int .i64 a1, .int .i64 a2] w fun e w' => e = .returned (.int .i64 r) ∧ Below w.heap.size w w' := by
  have HR0 := Aside0.mk hr0
  have HC0 := Aside0.mk hc0
  clear hr0 hc0
  have HB := Aside0.mk (Below.refl w.heap.size w)
  have H : ((busy_Right.f k l0).bind fun t114 => (if t114 = true then ((busy_isSpan.f a1 a2).bind fun t115 => (if t115 = true then (some 0) else (some 1))) else (some 3))) = some r := h
  clear h
  replace H := Option.bind_eq_some_iff.mp H
  obtain ⟨t114, A40, H⟩ := H
  replace H : (if t114 = true then ((busy_isSpan.f a1 a2).bind fun t115 => (if t115 = true then (some 0) else (some 1))) else (some 3)) = some r := H
  have A4 := Aside0.mk A40
  clear A40
  by_cases c5 : t114 = true
  · subst c5
    have H1 : ((busy_isSpan.f a1 a2).bind fun t115 => (if t115 = true then (some 0) else (some 1))) = some r := by rw [if_pos rfl] at H; exact H
    clear H
    have H := H1
    clear H1
    replace H := Option.bind_eq_some_iff.mp H
    obtain ⟨t115, A60, H⟩ := H
    replace H : (if t115 = true then (some 0) else (some 1)) = some r := H
    have A6 := Aside0.mk A60
    clear A60
    by_cases c7 : t115 = true
    · subst c7
      have H1 : (some 0) = some r := by rw [if_pos rfl] at H; exact H
      clear H
      have H := H1
      clear H1
      obtain rfl := Option.some.inj H
      go_enter Try.func30, Try.ntmps30
      go_wp2_with (first | ((with_reducible refine gate_callee (f := 15) rfl ?_); refine goesL_ (some 9) rfl rfl Try.func15 (by kernel_rfl) rfl #[.slice A0 l0.length c0] rfl (by (try simp only [List.map_toArray, List.map_cons, List.map_nil]); first | done | rfl | (simp only [List.length_drop, List.length_take]; rfl)) ?_; (with_reducible refine (busy_Right.calls k _ _ l0 true _ ?side1 ?side2 A4.out).mono ?_); (case side1 => repeat (first | exact HR0.out | (with_reducible refine Kd.C_alloc ?_ _) | (with_reducible refine Kd.C_drewN ?_ _) | (with_reducible refine Kd.C_drew ?_))); (case side2 => exact HC0.out); rintro e w8 ⟨rfl, hb⟩; refine ⟨_, rfl, ?_⟩; have n0_ := Aside0.mk (below_step (by repeat (first | (with_reducible first | exact HB.out | apply below_alloc | apply pw_below_drewN | apply below_drew1) | exact HB.out)) hb); clear HB; have HB := n0_; clear n0_; (try clear hb); (try clear hb2); (try clear hk); (try clear hi)) | ((with_reducible refine gate_callee (f := 37) rfl ?_); refine goesL_ (some 14) rfl rfl Try.func37 (by kernel_rfl) rfl #[.int .i64 a1, .int .i64 a2] rfl (by (try simp only [List.map_toArray, List.map_cons, List.map_nil]); first | done | rfl | (simp only [List.length_drop, List.length_take]; rfl)) ?_; (with_reducible refine (busy_isSpan.calls a1 a2 true _ A6.out).mono ?_); rintro e w' ⟨rfl, ⟨nd, rfl⟩⟩; refine ⟨_, rfl, ?_⟩))
      go_ret
      exact ⟨by first | rfl | (simp [errW_none, errW_some] <;> rfl) | (simp [*, errW_none, errW_some] <;> rfl), by repeat (first | (with_reducible first | exact HB.out | apply below_alloc | apply pw_below_drewN | apply below_drew1) | exact HB.out)⟩
    · replace c7 := Bool.eq_false_iff.mpr c7
      subst c7
      have H1 : (some 1) = some r := by rw [if_neg (show ¬ (false = true) by decide)] at H; exact H
      clear H
      have H := H1
      clear H1
      obtain rfl := Option.some.inj H
      go_enter Try.func30, Try.ntmps30
      go_wp2_with (first | ((with_reducible refine gate_callee (f := 15) rfl ?_); refine goesL_ (some 9) rfl rfl Try.func15 (by kernel_rfl) rfl #[.slice A0 l0.length c0] rfl (by (try simp only [List.map_toArray, List.map_cons, List.map_nil]); first | done | rfl | (simp only [List.length_drop, List.length_take]; rfl)) ?_; (with_reducible refine (busy_Right.calls k _ _ l0 true _ ?side1 ?side2 A4.out).mono ?_); (case side1 => repeat (first | exact HR0.out | (with_reducible refine Kd.C_alloc ?_ _) | (with_reducible refine Kd.C_drewN ?_ _) | (with_reducible refine Kd.C_drew ?_))); (case side2 => exact HC0.out); rintro e w9 ⟨rfl, hb⟩; refine ⟨_, rfl, ?_⟩; have n0_ := Aside0.mk (below_step (by repeat (first | (with_reducible first | exact HB.out | apply below_alloc | apply pw_below_drewN | apply below_drew1) | exact HB.out)) hb); clear HB; have HB := n0_; clear n0_; (try clear hb); (try clear hb2); (try clear hk); (try clear hi)) | ((with_reducible refine gate_callee (f := 37) rfl ?_); refine goesL_ (some 14) rfl rfl Try.func37 (by kernel_rfl) rfl #[.int .i64 a1, .int .i64 a2] rfl (by (try simp only [List.map_toArray, List.map_cons, List.map_nil]); first | done | rfl | (simp only [List.length_drop, List.length_take]; rfl)) ?_; (with_reducible refine (busy_isSpan.calls a1 a2 false _ A6.out).mono ?_); rintro e w' ⟨rfl, ⟨nd, rfl⟩⟩; refine ⟨_, rfl, ?_⟩))
      go_ret
      exact ⟨by first | rfl | (simp [errW_none, errW_some] <;> rfl) | (simp [*, errW_none, errW_some] <;> rfl), by repeat (first | (with_reducible first | exact HB.out | apply below_alloc | apply pw_below_drewN | apply below_drew1) | exact HB.out)⟩
  · replace c5 := Bool.eq_false_iff.mpr c5
    subst c5
    have H1 : (some 3) = some r := by rw [if_neg (show ¬ (false = true) by decide)] at H; exact H
    clear H
    have H := H1
    clear H1
    obtain rfl := Option.some.inj H
    go_enter Try.func30, Try.ntmps30
    go_wp2_with (first | ((with_reducible refine gate_callee (f := 15) rfl ?_); refine goesL_ (some 9) rfl rfl Try.func15 (by kernel_rfl) rfl #[.slice A0 l0.length c0] rfl (by (try simp only [List.map_toArray, List.map_cons, List.map_nil]); first | done | rfl | (simp only [List.length_drop, List.length_take]; rfl)) ?_; (with_reducible refine (busy_Right.calls k _ _ l0 false _ ?side1 ?side2 A4.out).mono ?_); (case side1 => repeat (first | exact HR0.out | (with_reducible refine Kd.C_alloc ?_ _) | (with_reducible refine Kd.C_drewN ?_ _) | (with_reducible refine Kd.C_drew ?_))); (case side2 => exact HC0.out); rintro e w10 ⟨rfl, hb⟩; refine ⟨_, rfl, ?_⟩; have n0_ := Aside0.mk (below_step (by repeat (first | (with_reducible first | exact HB.out | apply below_alloc | apply pw_below_drewN | apply below_drew1) | exact HB.out)) hb); clear HB; have HB := n0_; clear n0_; (try clear hb); (try clear hb2); (try clear hk); (try clear hi)))
    go_ret
    exact ⟨by first | rfl | (simp [errW_none, errW_some] <;> rfl) | (simp [*, errW_none, errW_some] <;> rfl), by repeat (first | (with_reducible first | exact HB.out | apply below_alloc | apply pw_below_drewN | apply below_drew1) | exact HB.out)⟩

/-! ### busy_clip: function 31 -/
def busy_clip.l0 : Nat → Int → Int → List (S44) → List (S44) → Int → Int → Option ((List (S44)))
  | 0, _, _, _, _, _, _ => none
  | k + 1, x1, x2, x7, x10, x11, x12 => if x12 < x11 then (if 0 ≤ x12 then (if x12 < (x10.length : Int) then (if (mx ((rd_T44 x10 x12).f0) x1) < (mn ((rd_T44 x10 x12).f1) x2) then (if x7.length < 5864062014805 then (busy_clip.l0 k x1 x2 (x7 ++ [(⟨mx ((rd_T44 x10 x12).f0) x1, mn ((rd_T44 x10 x12).f1) x2, (rd_T44 x10 x12).f2⟩ : S44)]) x10 x11 (wrap64 (x12 + 1))) else (none)) else (busy_clip.l0 k x1 x2 x7 x10 x11 (wrap64 (x12 + 1)))) else (none)) else (none)) else (some x7)
def busy_clip.f (k : Nat) (l0 : List (S44)) (a1 : Int) (a2 : Int) : Option ((List (S44))) := busy_clip.l0 k a1 a2 ([] : List (S44)) l0 (l0.length : Int) 0
theorem busy_clip.mono_l : ∀ k, (∀ y0 y1 y2 y3 y4 y5, LeO (busy_clip.l0 k y0 y1 y2 y3 y4 y5) (busy_clip.l0 (k + 1) y0 y1 y2 y3 y4 y5))
  | 0 => fun _ _ _ _ _ _ r h => by simp [busy_clip.l0] at h
  | k + 1 => by
    have ih0 := busy_clip.mono_l k
    · intro y0 y1 y2 y3 y4 y5
      unfold busy_clip.l0
      repeat' first
      | (with_reducible exact ih0 _ _ _ _ _ _)
      | (with_reducible exact LeO.refl _)
      | (with_reducible exact LeO.none _)
      | (with_reducible refine LeO.ite ?_ ?_)
      | (with_reducible refine LeO.bind ?_ (fun _ => ?_))
      | exact ih0 _ _ _ _ _ _
      | exact LeO.none _
      | refine LeO.ite ?_ ?_
      | refine LeO.bind ?_ (fun _ => ?_)
theorem busy_clip.mono : ∀ a0 a1 a2 k, LeO (busy_clip.f k a0 a1 a2) (busy_clip.f (k + 1) a0 a1 a2) := by
  intro a0 a1 a2 k
  have ih0 := busy_clip.mono_l k
  unfold busy_clip.f
  repeat' first
      | (with_reducible exact ih0 _ _ _ _ _ _)
      | (with_reducible exact LeO.refl _)
      | (with_reducible exact LeO.none _)
      | (with_reducible refine LeO.ite ?_ ?_)
      | (with_reducible refine LeO.bind ?_ (fun _ => ?_))
      | exact ih0 _ _ _ _ _ _
      | exact LeO.none _
      | refine LeO.ite ?_ ?_
      | refine LeO.bind ?_ (fun _ => ?_)
set_option maxHeartbeats 2000000 in
set_option maxRecDepth 100000 in
theorem busy_clip.calls (k : Nat) (A0 : Option Addr) (c0 : Nat) (l0 : List (S44)) (a1 : Int) (a2 : Int) (r : List (S44)) (w : World) (hr0 : Kd.C k44 w A0 l0.length l0) (hc0 : l0.length ≤ c0) (h : busy_clip.f k l0 a1 a2 = some r) :
    Calls Try.prog 31 #[.slice A0 l0.length c0, .int .i64 a1, .int .i64 a2] w fun e w' => ∃ v0_ : Value, e = .returned (v0_) ∧ Kd.R k44 44 w' w.heap.size (fun _ => True) v0_ r ∧ Below w.heap.size w w' := by
  have hu44 := Try.underlying44
  have HR0 := Aside0.mk hr0
  have HC0 := Aside0.mk hc0
  clear hr0 hc0
  have HB := Aside0.mk (Below.refl w.heap.size w)
  have H : (busy_clip.l0 k a1 a2 ([] : List (S44)) l0 (l0.length : Int) 0) = some r := h
  clear h
  have H' := Aside0.mk H
  clear H
  go_enter Try.func31, Try.ntmps31
  go_wp2
  go_loopg [7, 12] k (fun kq v7 v12 w' => ∃ (x7_1 : List (S44)) (x12_1 : Int), v12 = .int .i64 x12_1 ∧ Aside0 (busy_clip.l0 kq a1 a2 x7_1 l0 (l0.length : Int) x12_1 = some r) ∧ Aside0 (kq ≤ k) ∧ Aside0 (Kd.R k44 44 w' w.heap.size (fun _ => True) v7 x7_1) ∧ Aside0 (Below w.heap.size w w'))
  case atStart => exact ⟨(([] : List (S44))), (0), (by first | rfl | (simp; done) | (simp [*]; done)), H', ⟨Nat.le_refl _⟩, ⟨by first | exact Kd.R_nil _ _ _ _ _ | exact Kd.N_nil _ _ _ _ _ | exact Kd.V_nil _ _ _ _ _ | exact Kd.Q_nil _ _ _ _ _ | exact Kd.S_nil _ _ _ _ _⟩, ⟨by repeat (first | (with_reducible first | exact HB.out | apply below_alloc | apply pw_below_drewN | apply below_drew1) | exact HB.out)⟩⟩
  case round =>
    clear H'
    try clear p2
    try clear c3
    obtain ⟨x7_1, x12_1, rfl, HA, HK1, HO_7, HB⟩ := hrel
    cases gk with
    | zero => exact absurd HA.out (by simp [busy_clip.l0])
    | succ k1 =>
      have H := HA.out
      clear HA
      simp only [busy_clip.l0] at H
      by_cases c4 : x12_1 < (l0.length : Int)
      · rw [if_pos c4] at H
        have c4b0 : decide (x12_1 < (l0.length : Int)) = true := decide_eq_true c4
        clear c4
        by_cases c5 : 0 ≤ x12_1
        · rw [if_pos c5] at H
          have c5b0 : decide (0 ≤ x12_1) = true := decide_eq_true c5
          clear c5
          by_cases c6 : x12_1 < (l0.length : Int)
          · rw [if_pos c6] at H
            have c6b0 : decide (x12_1 < (l0.length : Int)) = true := decide_eq_true c6
            clear c6
            obtain ⟨ji7, hji7⟩ : ∃ j_ : Int, (mx ((rd_T44 l0 x12_1).f0) a1) = j_ := ⟨_, rfl⟩
            replace H : (if (ji7) < (mn ((rd_T44 l0 x12_1).f1) a2) then (if x7_1.length < 5864062014805 then (busy_clip.l0 k1 a1 a2 (x7_1 ++ [(⟨ji7, mn ((rd_T44 l0 x12_1).f1) a2, (rd_T44 l0 x12_1).f2⟩ : S44)]) l0 (l0.length : Int) (wrap64 (x12_1 + 1))) else (none)) else (busy_clip.l0 k1 a1 a2 x7_1 l0 (l0.length : Int) (wrap64 (x12_1 + 1)))) = some r := by first | (rw [hji7] at H; exact H) | (simp only [hji7] at H ⊢; exact H)
            have hji7_ : (if ((rd_T44 l0 x12_1).f0) < a1 then a1 else ((rd_T44 l0 x12_1).f0)) = ji7 := hji7
            obtain ⟨ji8, hji8⟩ : ∃ j_ : Int, (mn ((rd_T44 l0 x12_1).f1) a2) = j_ := ⟨_, rfl⟩
            replace H : (if (ji7) < (ji8) then (if x7_1.length < 5864062014805 then (busy_clip.l0 k1 a1 a2 (x7_1 ++ [(⟨ji7, ji8, (rd_T44 l0 x12_1).f2⟩ : S44)]) l0 (l0.length : Int) (wrap64 (x12_1 + 1))) else (none)) else (busy_clip.l0 k1 a1 a2 x7_1 l0 (l0.length : Int) (wrap64 (x12_1 + 1)))) = some r := by first | (rw [hji8] at H; exact H) | (simp only [hji8] at H ⊢; exact H)
            have hji8_ : (if a2 < ((rd_T44 l0 x12_1).f1) then a2 else ((rd_T44 l0 x12_1).f1)) = ji8 := hji8
            by_cases c9 : (ji7) < (ji8)
            · rw [if_pos c9] at H
              have c9b0 : decide ((ji7) < (ji8)) = true := decide_eq_true c9
              clear c9
              by_cases c10 : x7_1.length < 5864062014805
              · rw [if_pos c10] at H
                have LMc10 := Aside0.mk c10
                clear c10
                obtain ⟨y116, hy116⟩ : ∃ y_ : List (S44), y_ = (x7_1 ++ [(⟨ji7, ji8, (rd_T44 l0 x12_1).f2⟩ : S44)]) := ⟨_, rfl⟩
                replace H : (busy_clip.l0 k1 a1 a2 y116 l0 (l0.length : Int) (wrap64 (x12_1 + 1))) = some r := by first | (rw [hy116]; with_reducible exact H) | (have H2_ := (Option.bind_some _ _).symm.trans H; rw [hy116]; with_reducible exact H2_) | (have H2_ := (Option.bind_some _ _).symm.trans H; with_reducible exact H2_) | with_reducible exact H | (rw [hy116]; exact H) | exact H
                have Ny116 := Aside0.mk hy116
                clear hy116
                have H' := Aside0.mk H
                clear H
                have p114 : 0 ≤ (x12_1 : Int) := of_decide_eq_true (by first | (with_reducible assumption) | assumption)
                have q114 : x12_1 < (l0.length : Int) := of_decide_eq_true (by first | (with_reducible assumption) | assumption)
                obtain ⟨ad114, e114, hx114_0, hx114_1, hx114_2⟩ := at_T44 HR0.out x12_1 p114 q114
                cases e114
                replace hx114_0 := (HB.out.cell (World.block_lt_of_cell? w _ hx114_0)).trans hx114_0
                replace hx114_1 := (HB.out.cell (World.block_lt_of_cell? w _ hx114_1)).trans hx114_1
                replace hx114_2 := (HB.out.cell (World.block_lt_of_cell? w _ hx114_2)).trans hx114_2
                replace p114 := eq_true p114
                replace q114 := eq_true q114
                go_upto_region 6 with (first | ((with_reducible refine gate_dst (N := 9) rfl ?_); refine box_event ?hg (N := 9) ?hd (cs := #[.int .i64 0, .int .i64 0, .int .i64 0]) (t := 44) ?hr ?_; (case hd => rfl); (case hg => rfl); (case hr => first | (go_simp; done) | (go_simp; rfl)); intro gb115 hg w11 hbox hb; have n0_ := Aside0.mk (Kd.R_below (Kd.R_elderB (by (with_reducible repeat (first | apply Kd.R_alloc | apply Kd.R_drewN | apply Kd.R_drew)); exact HO_7.out) gb115 (Nat.le_of_eq hg.symm)) hb); have n1_ := Aside0.mk (below_step (by repeat (first | (with_reducible first | exact HB.out | apply below_alloc | apply pw_below_drewN | apply below_drew1) | exact HB.out)) hb); have n2_ := Aside0.mk (hbox); have n3_ := Aside0.mk ((by rw [hg]; exact (below_size (by repeat (first | (with_reducible first | exact HB.out | apply below_alloc | apply pw_below_drewN | apply below_drew1) | exact HB.out))) : w.heap.size ≤ gb115)); have n4_ := Aside0.mk ((by rw [hg]; exact (below_size (by repeat (first | (with_reducible first | exact HB.out | apply below_alloc | apply pw_below_drewN | apply below_drew1) | exact HB.out))) : w.heap.size ≤ gb115)); clear HO_7; clear HB; have HO_7 := n0_; have HB := n1_; have BK115 := n2_; have GW115 := n3_; have GE115 := n4_; clear n0_ n1_ n2_ n3_ n4_; clear hb hbox hg; have hcz12_0 : w11.cell? ⟨gb115, 0, none⟩ = some (.int .i64 0) := (blk_cell BK115.out 0).trans rfl; have hcz12_1 : w11.cell? ⟨gb115, 1, none⟩ = some (.int .i64 0) := (blk_cell BK115.out 1).trans rfl; have hcz12_2 : w11.cell? ⟨gb115, 2, none⟩ = some (.int .i64 0) := (blk_cell BK115.out 2).trans rfl; have hfz12_0 := blk_frozen BK115.out 0; have hfz12_1 := blk_frozen BK115.out 1; have hfz12_2 := blk_frozen BK115.out 2))
                have BK6 : (((((w11.setCell ⟨gb115, 0, none⟩ (.int .i64 ((rd_T44 l0 x12_1).f0))).setCell ⟨gb115, 1, none⟩ (.int .i64 ((rd_T44 l0 x12_1).f1))).setCell ⟨gb115, 2, none⟩ (.int .i64 ((rd_T44 l0 x12_1).f2))).setCell ⟨gb115, 0, none⟩ (.int .i64 ji7)).setCell ⟨gb115, 1, none⟩ (.int .i64 ji8)).heap[gb115]? = some (.cells #[.int .i64 ji7, .int .i64 ji8, .int .i64 ((rd_T44 l0 x12_1).f2)] 44 (0, 0)) := by
                  refine blk_put (cs := #[.int .i64 ji7, .int .i64 ((rd_T44 l0 x12_1).f1), .int .i64 ((rd_T44 l0 x12_1).f2)]) ?_ 1 _ rfl
                  refine blk_put (cs := #[.int .i64 ((rd_T44 l0 x12_1).f0), .int .i64 ((rd_T44 l0 x12_1).f1), .int .i64 ((rd_T44 l0 x12_1).f2)]) ?_ 0 _ rfl
                  refine blk_put (cs := #[.int .i64 ((rd_T44 l0 x12_1).f0), .int .i64 ((rd_T44 l0 x12_1).f1), .int .i64 0]) ?_ 2 _ rfl
                  refine blk_put (cs := #[.int .i64 ((rd_T44 l0 x12_1).f0), .int .i64 0, .int .i64 0]) ?_ 1 _ rfl
                  refine blk_put (cs := #[.int .i64 0, .int .i64 0, .int .i64 0]) ?_ 0 _ rfl
                  exact BK115.out
                have HO6 : Kd.R k44 44 (((((w11.setCell ⟨gb115, 0, none⟩ (.int .i64 ((rd_T44 l0 x12_1).f0))).setCell ⟨gb115, 1, none⟩ (.int .i64 ((rd_T44 l0 x12_1).f1))).setCell ⟨gb115, 2, none⟩ (.int .i64 ((rd_T44 l0 x12_1).f2))).setCell ⟨gb115, 0, none⟩ (.int .i64 ji7)).setCell ⟨gb115, 1, none⟩ (.int .i64 ji8)) w.heap.size (fun k_ => k_ ≠ gb115) u7 x7_1 := Kd.R_mono (Kd.R_far (p := ⟨gb115, 1, none⟩) (Kd.R_far (p := ⟨gb115, 0, none⟩) (Kd.R_far (p := ⟨gb115, 2, none⟩) (Kd.R_far (p := ⟨gb115, 1, none⟩) (Kd.R_far (p := ⟨gb115, 0, none⟩) (Kd.R_mono HO_7.out (fun k_ hk => (⟨trivial, hk.2⟩ : _ ∧ k_ ≠ gb115))) (fun _ hk => hk.2) _) (fun _ hk => hk.2) _) (fun _ hk => hk.2) _) (fun _ hk => hk.2) _) (fun _ hk => hk.2) _) (fun _ hk => hk.2)
                have HB6 : Below w.heap.size w (((((w11.setCell ⟨gb115, 0, none⟩ (.int .i64 ((rd_T44 l0 x12_1).f0))).setCell ⟨gb115, 1, none⟩ (.int .i64 ((rd_T44 l0 x12_1).f1))).setCell ⟨gb115, 2, none⟩ (.int .i64 ((rd_T44 l0 x12_1).f2))).setCell ⟨gb115, 0, none⟩ (.int .i64 ji7)).setCell ⟨gb115, 1, none⟩ (.int .i64 ji8)) := below_set (below_set (below_set (below_set (below_set HB.out GE115.out) GE115.out) GE115.out) GE115.out) GE115.out
                clear HO_7 HB BK115
                revert BK6 HO6 HB6
                generalize (((((w11.setCell ⟨gb115, 0, none⟩ (.int .i64 ((rd_T44 l0 x12_1).f0))).setCell ⟨gb115, 1, none⟩ (.int .i64 ((rd_T44 l0 x12_1).f1))).setCell ⟨gb115, 2, none⟩ (.int .i64 ((rd_T44 l0 x12_1).f2))).setCell ⟨gb115, 0, none⟩ (.int .i64 ji7)).setCell ⟨gb115, 1, none⟩ (.int .i64 ji8)) = W6
                intro BK6 HO6 HB6
                have hcb_0 : W6.cell? ⟨gb115, 0, none⟩ = some (.int .i64 ji7) := (blk_cell BK6 0).trans rfl
                have hcb_1 : W6.cell? ⟨gb115, 1, none⟩ = some (.int .i64 ji8) := (blk_cell BK6 1).trans rfl
                have hcb_2 : W6.cell? ⟨gb115, 2, none⟩ = some (.int .i64 ((rd_T44 l0 x12_1).f2)) := (blk_cell BK6 2).trans rfl
                have BK115 := Aside0.mk BK6
                have HO_7 := Aside0.mk HO6
                have HB := Aside0.mk HB6
                clear BK6 HO6 HB6
                go_wp2_with (first | ((with_reducible refine gate_builtin (b := .append) (xs := #[.tmp 31, .tmp 33]) rfl ?_); at_builtin; refine Kd.R_append k44 (w0 := w) w.heap.size rfl (.tmp 31) (.tmp 33) 22 44 (.agg #[(.int .i64 0), (.int .i64 0), (.int .i64 0)]) 24 rfl Try.underlying22 info44 rfl (by decide) (by omega) u7 x7_1 (⟨ji7, ji8, (rd_T44 l0 x12_1).f2⟩ : S44) [.int .i64 ji7, .int .i64 ji8, .int .i64 ((rd_T44 l0 x12_1).f2)] (fun k_ => k_ ≠ gb115) (fun _ => False) rfl (by first | (go_simp; done) | (go_simp; rfl)) ?aP (fun _ hk => hk.elim) ?aF ?aO ?aB ?aS ?aL ?_; (case aP => exact k44_mkM _ _ _ (⟨ji7, ji8, (rd_T44 l0 x12_1).f2⟩ : S44)); (case aB => exact (by repeat (first | (with_reducible first | exact HB.out | apply below_alloc | apply pw_below_drewN | apply below_drew1 | refine below_set ?_ GE115.out) | exact HB.out))); (case aF => exact (fun k_ hk => Kd.freshB (g := gb115) (o := .cells #[.int .i64 ji7, .int .i64 ji8, .int .i64 ((rd_T44 l0 x12_1).f2)] 44 (0, 0)) (by (with_reducible repeat (first | refine blk_drewN ?_ _ | refine blk_drew ?_ | refine blk_alloc ?_ _)); exact BK115.out) k_ hk)); (case aO => exact (by (with_reducible repeat (first | apply Kd.R_alloc | apply Kd.R_drewN | apply Kd.R_drew)); exact Kd.R_mono HO_7.out (fun _ hk => hk))); (case aS => exact (below_size (by repeat (first | (with_reducible first | exact HB.out | apply below_alloc | apply pw_below_drewN | apply below_drew1 | refine below_set ?_ GE115.out) | exact HB.out)))); (case aL => have := LMc10.out; omega); intro v117 w13 ho hb hg hat; rw [← Ny116.out] at ho; have n0_ := Aside0.mk (blk_grown (g := gb115) (o := .cells #[.int .i64 ji7, .int .i64 ji8, .int .i64 ((rd_T44 l0 x12_1).f2)] 44 (0, 0)) (by (with_reducible repeat (first | refine blk_drewN ?_ _ | refine blk_drew ?_ | refine blk_alloc ?_ _)); exact BK115.out) hg (Kd.R_away HO_7.out (fun _ hk => hk))); have n1_ := Aside0.mk (hb); have n2_ := Aside0.mk (ho); clear BK115; clear HB; clear HO_7; have BK115 := n0_; have HB := n1_; have HO118 := n2_; clear n0_ n1_ n2_; clear ho hb hg hat))
                go_roundg k1
                case measure => have := HK1.out; omega
                case rel => exact ⟨(y116), (wrap64 (x12_1 + 1)), (by first | rfl | (simp; done) | (simp [*]; done)), H', ⟨by have := HK1.out; omega⟩, ⟨by (with_reducible repeat (first | apply Kd.R_alloc | apply Kd.R_drewN | apply Kd.R_drew)); exact Kd.R_mono HO118.out (fun _ hk => trivial)⟩, ⟨by repeat (first | (with_reducible first | exact HB.out | apply below_alloc | apply pw_below_drewN | apply below_drew1 | refine below_set ?_ GE115.out) | exact HB.out)⟩⟩
              · rw [if_neg c10] at H
                exact absurd H (by simp)
            · rw [if_neg c9] at H
              have c9b0 : decide ((ji7) < (ji8)) = false := decide_eq_false c9
              clear c9
              have H' := Aside0.mk H
              clear H
              have p114 : 0 ≤ (x12_1 : Int) := of_decide_eq_true (by first | (with_reducible assumption) | assumption)
              have q114 : x12_1 < (l0.length : Int) := of_decide_eq_true (by first | (with_reducible assumption) | assumption)
              obtain ⟨ad114, e114, hx114_0, hx114_1, hx114_2⟩ := at_T44 HR0.out x12_1 p114 q114
              cases e114
              replace hx114_0 := (HB.out.cell (World.block_lt_of_cell? w _ hx114_0)).trans hx114_0
              replace hx114_1 := (HB.out.cell (World.block_lt_of_cell? w _ hx114_1)).trans hx114_1
              replace hx114_2 := (HB.out.cell (World.block_lt_of_cell? w _ hx114_2)).trans hx114_2
              replace p114 := eq_true p114
              replace q114 := eq_true q114
              go_upto_region 6 with (first | ((with_reducible refine gate_dst (N := 9) rfl ?_); refine box_event ?hg (N := 9) ?hd (cs := #[.int .i64 0, .int .i64 0, .int .i64 0]) (t := 44) ?hr ?_; (case hd => rfl); (case hg => rfl); (case hr => first | (go_simp; done) | (go_simp; rfl)); intro gb115 hg w14 hbox hb; have n0_ := Aside0.mk (Kd.R_below (Kd.R_elderB (by (with_reducible repeat (first | apply Kd.R_alloc | apply Kd.R_drewN | apply Kd.R_drew)); exact HO_7.out) gb115 (Nat.le_of_eq hg.symm)) hb); have n1_ := Aside0.mk (below_step (by repeat (first | (with_reducible first | exact HB.out | apply below_alloc | apply pw_below_drewN | apply below_drew1) | exact HB.out)) hb); have n2_ := Aside0.mk (hbox); have n3_ := Aside0.mk ((by rw [hg]; exact (below_size (by repeat (first | (with_reducible first | exact HB.out | apply below_alloc | apply pw_below_drewN | apply below_drew1) | exact HB.out))) : w.heap.size ≤ gb115)); have n4_ := Aside0.mk ((by rw [hg]; exact (below_size (by repeat (first | (with_reducible first | exact HB.out | apply below_alloc | apply pw_below_drewN | apply below_drew1) | exact HB.out))) : w.heap.size ≤ gb115)); clear HO_7; clear HB; have HO_7 := n0_; have HB := n1_; have BK115 := n2_; have GW115 := n3_; have GE115 := n4_; clear n0_ n1_ n2_ n3_ n4_; clear hb hbox hg; have hcz15_0 : w14.cell? ⟨gb115, 0, none⟩ = some (.int .i64 0) := (blk_cell BK115.out 0).trans rfl; have hcz15_1 : w14.cell? ⟨gb115, 1, none⟩ = some (.int .i64 0) := (blk_cell BK115.out 1).trans rfl; have hcz15_2 : w14.cell? ⟨gb115, 2, none⟩ = some (.int .i64 0) := (blk_cell BK115.out 2).trans rfl; have hfz15_0 := blk_frozen BK115.out 0; have hfz15_1 := blk_frozen BK115.out 1; have hfz15_2 := blk_frozen BK115.out 2))
              have BK6 : (((((w14.setCell ⟨gb115, 0, none⟩ (.int .i64 ((rd_T44 l0 x12_1).f0))).setCell ⟨gb115, 1, none⟩ (.int .i64 ((rd_T44 l0 x12_1).f1))).setCell ⟨gb115, 2, none⟩ (.int .i64 ((rd_T44 l0 x12_1).f2))).setCell ⟨gb115, 0, none⟩ (.int .i64 ji7)).setCell ⟨gb115, 1, none⟩ (.int .i64 ji8)).heap[gb115]? = some (.cells #[.int .i64 ji7, .int .i64 ji8, .int .i64 ((rd_T44 l0 x12_1).f2)] 44 (0, 0)) := by
                refine blk_put (cs := #[.int .i64 ji7, .int .i64 ((rd_T44 l0 x12_1).f1), .int .i64 ((rd_T44 l0 x12_1).f2)]) ?_ 1 _ rfl
                refine blk_put (cs := #[.int .i64 ((rd_T44 l0 x12_1).f0), .int .i64 ((rd_T44 l0 x12_1).f1), .int .i64 ((rd_T44 l0 x12_1).f2)]) ?_ 0 _ rfl
                refine blk_put (cs := #[.int .i64 ((rd_T44 l0 x12_1).f0), .int .i64 ((rd_T44 l0 x12_1).f1), .int .i64 0]) ?_ 2 _ rfl
                refine blk_put (cs := #[.int .i64 ((rd_T44 l0 x12_1).f0), .int .i64 0, .int .i64 0]) ?_ 1 _ rfl
                refine blk_put (cs := #[.int .i64 0, .int .i64 0, .int .i64 0]) ?_ 0 _ rfl
                exact BK115.out
              have HO6 : Kd.R k44 44 (((((w14.setCell ⟨gb115, 0, none⟩ (.int .i64 ((rd_T44 l0 x12_1).f0))).setCell ⟨gb115, 1, none⟩ (.int .i64 ((rd_T44 l0 x12_1).f1))).setCell ⟨gb115, 2, none⟩ (.int .i64 ((rd_T44 l0 x12_1).f2))).setCell ⟨gb115, 0, none⟩ (.int .i64 ji7)).setCell ⟨gb115, 1, none⟩ (.int .i64 ji8)) w.heap.size (fun k_ => k_ ≠ gb115) u7 x7_1 := Kd.R_mono (Kd.R_far (p := ⟨gb115, 1, none⟩) (Kd.R_far (p := ⟨gb115, 0, none⟩) (Kd.R_far (p := ⟨gb115, 2, none⟩) (Kd.R_far (p := ⟨gb115, 1, none⟩) (Kd.R_far (p := ⟨gb115, 0, none⟩) (Kd.R_mono HO_7.out (fun k_ hk => (⟨trivial, hk.2⟩ : _ ∧ k_ ≠ gb115))) (fun _ hk => hk.2) _) (fun _ hk => hk.2) _) (fun _ hk => hk.2) _) (fun _ hk => hk.2) _) (fun _ hk => hk.2) _) (fun _ hk => hk.2)
              have HB6 : Below w.heap.size w (((((w14.setCell ⟨gb115, 0, none⟩ (.int .i64 ((rd_T44 l0 x12_1).f0))).setCell ⟨gb115, 1, none⟩ (.int .i64 ((rd_T44 l0 x12_1).f1))).setCell ⟨gb115, 2, none⟩ (.int .i64 ((rd_T44 l0 x12_1).f2))).setCell ⟨gb115, 0, none⟩ (.int .i64 ji7)).setCell ⟨gb115, 1, none⟩ (.int .i64 ji8)) := below_set (below_set (below_set (below_set (below_set HB.out GE115.out) GE115.out) GE115.out) GE115.out) GE115.out
              clear HO_7 HB BK115
              revert BK6 HO6 HB6
              generalize (((((w14.setCell ⟨gb115, 0, none⟩ (.int .i64 ((rd_T44 l0 x12_1).f0))).setCell ⟨gb115, 1, none⟩ (.int .i64 ((rd_T44 l0 x12_1).f1))).setCell ⟨gb115, 2, none⟩ (.int .i64 ((rd_T44 l0 x12_1).f2))).setCell ⟨gb115, 0, none⟩ (.int .i64 ji7)).setCell ⟨gb115, 1, none⟩ (.int .i64 ji8)) = W6
              intro BK6 HO6 HB6
              have hcb_0 : W6.cell? ⟨gb115, 0, none⟩ = some (.int .i64 ji7) := (blk_cell BK6 0).trans rfl
              have hcb_1 : W6.cell? ⟨gb115, 1, none⟩ = some (.int .i64 ji8) := (blk_cell BK6 1).trans rfl
              have hcb_2 : W6.cell? ⟨gb115, 2, none⟩ = some (.int .i64 ((rd_T44 l0 x12_1).f2)) := (blk_cell BK6 2).trans rfl
              have BK115 := Aside0.mk BK6
              have HO_7 := Aside0.mk HO6
              have HB := Aside0.mk HB6
              clear BK6 HO6 HB6
              go_wp2
              go_roundg k1
              case measure => have := HK1.out; omega
              case rel => exact ⟨(x7_1), (wrap64 (x12_1 + 1)), (by first | rfl | (simp; done) | (simp [*]; done)), H', ⟨by have := HK1.out; omega⟩, ⟨Kd.R_mono HO_7.out (fun _ hk => trivial)⟩, ⟨HB.out⟩⟩
          · rw [if_neg c6] at H
            exact absurd H (by simp)
        · rw [if_neg c5] at H
          exact absurd H (by simp)
      · rw [if_neg c4] at H
        have c4b0 : decide (x12_1 < (l0.length : Int)) = false := decide_eq_false c4
        clear c4
        obtain rfl := Option.some.inj H
        go_wp2
        go_ret
        exact ⟨_, by first | rfl | (simp [errW_none, errW_some] <;> rfl) | (simp [*, errW_none, errW_some] <;> rfl), by (with_reducible repeat (first | apply Kd.R_alloc | apply Kd.R_drewN | apply Kd.R_drew)); exact HO_7.out, by repeat (first | (with_reducible first | exact HB.out | apply below_alloc | apply pw_below_drewN | apply below_drew1) | exact HB.out)⟩


/-! ### busy_Clip: function 13 -/
def busy_Clip.f (k : Nat) (l0 : List (S44)) (a1 : Int) (a2 : Int) : Option ((List (S44)) × Int) := (busy_fits.f k l0 a1 a2).bind fun t116 => (if t116 = 0 then ((busy_clip.f k l0 a1 a2).bind fun t117 => (some (t117, 0))) else (some (([] : List (S44)), t116)))
theorem busy_Clip.mono : ∀ a0 a1 a2 k, LeO (busy_Clip.f k a0 a1 a2) (busy_Clip.f (k + 1) a0 a1 a2) := by
  intro a0 a1 a2 k
  unfold busy_Clip.f
  repeat' first
      | (with_reducible exact busy_clip.mono _ _ _ _)
      | (with_reducible exact busy_fits.mono _ _ _ _)
      | (with_reducible exact LeO.refl _)
      | (with_reducible exact LeO.none _)
      | (with_reducible refine LeO.ite ?_ ?_)
      | (with_reducible refine LeO.bind ?_ (fun _ => ?_))
      | exact busy_clip.mono _ _ _ _
      | exact busy_fits.mono _ _ _ _
      | exact LeO.none _
      | refine LeO.ite ?_ ?_
      | refine LeO.bind ?_ (fun _ => ?_)
set_option maxHeartbeats 8000000 in
set_option maxRecDepth 100000 in
theorem busy_Clip.calls (k : Nat) (A0 : Option Addr) (c0 : Nat) (l0 : List (S44)) (a1 : Int) (a2 : Int) (r1 : List (S44)) (r2 : Int) (w : World) (hr0 : Kd.C k44 w A0 l0.length l0) (hc0 : l0.length ≤ c0) (h : busy_Clip.f k l0 a1 a2 = some (r1, r2)) :
    Calls Try.prog 13 #[.slice A0 l0.length c0, .int .i64 a1, .int .i64 a2] w fun e w' => ∃ v0_ : Value, e = .returned (.tuple #[v0_, .int .i64 r2]) ∧ Kd.R k44 44 w' w.heap.size (fun _ => True) v0_ r1 ∧ Below w.heap.size w w' := by
  have HR0 := Aside0.mk hr0
  have HC0 := Aside0.mk hc0
  clear hr0 hc0
  have HB := Aside0.mk (Below.refl w.heap.size w)
  have H : ((busy_fits.f k l0 a1 a2).bind fun t116 => (if t116 = 0 then ((busy_clip.f k l0 a1 a2).bind fun t117 => (some (t117, 0))) else (some (([] : List (S44)), t116)))) = some (r1, r2) := h
  clear h
  replace H := Option.bind_eq_some_iff.mp H
  obtain ⟨t116, A40, H⟩ := H
  replace H : (if t116 = 0 then ((busy_clip.f k l0 a1 a2).bind fun t117 => (some (t117, 0))) else (some (([] : List (S44)), t116))) = some (r1, r2) := H
  have A4 := Aside0.mk A40
  clear A40
  by_cases c5 : t116 = 0
  · rw [if_pos c5] at H
    have c5b0 : (t116 == 0) = true := beq_iff_eq.mpr c5
    have c5b1 : (t116 != 0) = false := bne_eq_false_iff_eq.mpr c5
    clear c5
    replace H := Option.bind_eq_some_iff.mp H
    obtain ⟨t117, A60, H⟩ := H
    replace H : (some (t117, 0)) = some (r1, r2) := H
    have A6 := Aside0.mk A60
    clear A60
    simp only [Option.some.injEq, Prod.mk.injEq] at H
    obtain ⟨rfl, rfl⟩ := H
    go_enter Try.func13, Try.ntmps13
    go_wp2_with (first | ((with_reducible refine gate_callee (f := 30) rfl ?_); refine goesL_ (some 12) rfl rfl Try.func30 (by kernel_rfl) rfl #[.slice A0 l0.length c0, .int .i64 a1, .int .i64 a2] rfl (by (try simp only [List.map_toArray, List.map_cons, List.map_nil]); first | done | rfl | (simp only [List.length_drop, List.length_take]; rfl)) ?_; (with_reducible refine (busy_fits.calls k _ _ l0 a1 a2 t116 _ ?side1 ?side2 A4.out).mono ?_); (case side1 => repeat (first | exact HR0.out | (with_reducible refine Kd.C_alloc ?_ _) | (with_reducible refine Kd.C_drewN ?_ _) | (with_reducible refine Kd.C_drew ?_))); (case side2 => exact HC0.out); rintro e w7 ⟨rfl, hb⟩; refine ⟨_, rfl, ?_⟩; have n0_ := Aside0.mk (below_step (by repeat (first | (with_reducible first | exact HB.out | apply below_alloc | apply pw_below_drewN | apply below_drew1) | exact HB.out)) hb); clear HB; have HB := n0_; clear n0_; (try clear hb); (try clear hb2); (try clear hk); (try clear hi)) | ((with_reducible refine gate_callee (f := 31) rfl ?_); refine goesL_ (some 19) rfl rfl Try.func31 (by kernel_rfl) rfl #[.slice A0 l0.length c0, .int .i64 a1, .int .i64 a2] rfl (by (try simp only [List.map_toArray, List.map_cons, List.map_nil]); first | done | rfl | (simp only [List.length_drop, List.length_take]; rfl)) ?_; (with_reducible refine (busy_clip.calls k _ _ l0 a1 a2 t117 _ ?side1 ?side2 A6.out).mono ?_); (case side1 => repeat (first | exact (Kd.C_below HR0.out HB.out) | (with_reducible refine Kd.C_alloc ?_ _) | (with_reducible refine Kd.C_drewN ?_ _) | (with_reducible refine Kd.C_drew ?_))); (case side2 => exact HC0.out); rintro e w8 ⟨v118, rfl, ho0, hb⟩; refine ⟨_, rfl, ?_⟩; have n0_ := Aside0.mk (Kd.R_lower ho0 (below_size (by repeat (first | (with_reducible first | exact HB.out | apply below_alloc | apply pw_below_drewN | apply below_drew1) | exact HB.out)))); have n1_ := Aside0.mk (below_step (by repeat (first | (with_reducible first | exact HB.out | apply below_alloc | apply pw_below_drewN | apply below_drew1) | exact HB.out)) hb); clear HB; have HO119 := n0_; have HB := n1_; clear n0_ n1_; (try clear hb); (try clear hb2); (try clear hk); (try clear hi); (try clear ho0)))
    go_ret2
    exact ⟨_, by first | rfl | (simp [errW_none, errW_some] <;> rfl) | (simp [*, errW_none, errW_some] <;> rfl), by (with_reducible repeat (first | apply Kd.R_alloc | apply Kd.R_drewN | apply Kd.R_drew)); exact HO119.out, by repeat (first | (with_reducible first | exact HB.out | apply below_alloc | apply pw_below_drewN | apply below_drew1) | exact HB.out)⟩
  · rw [if_neg c5] at H
    have c5b0 : (t116 == 0) = false := beq_eq_false_iff_ne.mpr c5
    have c5b1 : (t116 != 0) = true := bne_iff_ne.mpr c5
    simp only [Option.some.injEq, Prod.mk.injEq] at H
    obtain ⟨rfl, rfl⟩ := H
    go_enter Try.func13, Try.ntmps13
    go_wp2_with (first | ((with_reducible refine gate_callee (f := 30) rfl ?_); refine goesL_ (some 12) rfl rfl Try.func30 (by kernel_rfl) rfl #[.slice A0 l0.length c0, .int .i64 a1, .int .i64 a2] rfl (by (try simp only [List.map_toArray, List.map_cons, List.map_nil]); first | done | rfl | (simp only [List.length_drop, List.length_take]; rfl)) ?_; (with_reducible refine (busy_fits.calls k _ _ l0 a1 a2 t116 _ ?side1 ?side2 A4.out).mono ?_); (case side1 => repeat (first | exact HR0.out | (with_reducible refine Kd.C_alloc ?_ _) | (with_reducible refine Kd.C_drewN ?_ _) | (with_reducible refine Kd.C_drew ?_))); (case side2 => exact HC0.out); rintro e w9 ⟨rfl, hb⟩; refine ⟨_, rfl, ?_⟩; have n0_ := Aside0.mk (below_step (by repeat (first | (with_reducible first | exact HB.out | apply below_alloc | apply pw_below_drewN | apply below_drew1) | exact HB.out)) hb); clear HB; have HB := n0_; clear n0_; (try clear hb); (try clear hb2); (try clear hk); (try clear hi)))
    go_ret2
    exact ⟨_, by first | rfl | (simp [errW_none, errW_some] <;> rfl) | (simp [*, errW_none, errW_some] <;> rfl), by first | exact Kd.R_nil _ _ _ _ _ | exact Kd.N_nil _ _ _ _ _ | exact Kd.V_nil _ _ _ _ _ | exact Kd.Q_nil _ _ _ _ _ | exact Kd.S_nil _ _ _ _ _, by repeat (first | (with_reducible first | exact HB.out | apply below_alloc | apply pw_below_drewN | apply below_drew1) | exact HB.out)⟩

/-! ### busy_Free: function 18 -/
/-- The gaps between what is busy. -/
def freeL (least to_ : Int) : List S44 → Int → List S44
  | [], at_ => if least ≤ wrap64 (to_ - at_) then [⟨at_, to_, 0⟩] else []
  | s :: l, at_ => if 2 ≤ s.f2 then (if least ≤ wrap64 (s.f0 - at_) then ⟨at_, s.f0, 0⟩ :: freeL least to_ l s.f1 else freeL least to_ l s.f1) else freeL least to_ l at_
def busy_Free.f (k : Nat) (l0 : List S44) (a1 a2 a3 : Int) : Option (List S44 × Int) :=
  (busy_fits.f k l0 a1 a2).bind fun e => if e = 0 then (if a3 < 1 then some ([], 1) else (busy_clip.f k l0 a1 a2).bind fun x => if x.length < 100000 then some (freeL a3 a2 x a1, 0) else none) else some ([], e)
theorem busy_Free.mono : ∀ a0 a1 a2 a3 k, LeO (busy_Free.f k a0 a1 a2 a3) (busy_Free.f (k + 1) a0 a1 a2 a3) := by
  intro a0 a1 a2 a3 k
  unfold busy_Free.f
  refine LeO.bind (busy_fits.mono _ _ _ k) (fun _ => ?_)
  refine LeO.ite ?_ (LeO.refl _)
  refine LeO.ite (LeO.refl _) ?_
  exact LeO.bind (busy_clip.mono _ _ _ k) (fun _ => LeO.refl _)

structure Mem3 (w W : World) (ga gl go : Nat) (a least : Int) (v30 : Value) (x : List S44) (v7 : Value) (x7 : List S44) : Prop where
  at_ : W.heap[ga]? = some (.cells #[.int .i64 a] 2 (0, 0))
  le_ : W.heap[gl]? = some (.cells #[.int .i64 least] 2 (0, 0))
  ov : W.heap[go]? = some (.cells #[v7] 22 (0, 0))
  src : Kd.R k44 44 W w.heap.size (fun k => some k = v30.ownBlock) v30 x
  out : Kd.R k44 44 W w.heap.size (fun k => some k ≠ v30.ownBlock) v7 x7
  bel : Below w.heap.size w W
  gea : w.heap.size ≤ ga
  geo : w.heap.size ≤ go
  ne : ga ≠ gl
section
variable {w W W1 : World} {ga gl go : Nat} {a least : Int} {v30 : Value} {x : List S44} {v7 v8 : Value} {x7 x8 : List S44}
theorem Mem3.below (h : Mem3 w W ga gl go a least v30 x v7 x7) (hb : Below W.heap.size W W1) : Mem3 w W1 ga gl go a least v30 x v7 x7 :=
  ⟨blk_below h.at_ hb, blk_below h.le_ hb, blk_below h.ov hb, Kd.R_below h.src hb, Kd.R_below h.out hb, below_step h.bel hb, h.gea, h.geo, h.ne⟩
theorem Mem3.append (h : Mem3 w W ga gl go a least v30 x v7 x7) (hg : W.grownBy W1 v7.ownBlock) (ho : Kd.R k44 44 W1 w.heap.size (fun k => some k ≠ v30.ownBlock) v8 x8) (hb : Below w.heap.size w W1) :
    Mem3 w (W1.setCell ⟨go, 0, none⟩ v8) ga gl go a least v30 x v8 x8 := by
  have e1 := blk_grown h.at_ hg (Kd.R_ne h.out h.at_ (by decide))
  have e2 := blk_grown h.le_ hg (Kd.R_ne h.out h.le_ (by decide))
  have e3 := blk_grown h.ov hg (Kd.R_ne h.out h.ov (by decide))
  exact ⟨blk_far e1 (blk_ne e1 e3 (by decide)) _, blk_far e2 (blk_ne e2 e3 (by decide)) _, blk_put e3 0 _ rfl,
    Kd.R_set (Kd.R_grown h.src hg (fun k hk he => h.out.1 k he.symm hk)) e3 (by decide) _ _, Kd.R_set ho e3 (by decide) _ _, below_set hb h.geo, h.gea, h.geo, h.ne⟩
theorem Mem3.setAt (h : Mem3 w W ga gl go a least v30 x v7 x7) (b : Int) : Mem3 w (W.setCell ⟨ga, 0, none⟩ (.int .i64 b)) ga gl go b least v30 x v7 x7 :=
  ⟨blk_put h.at_ 0 _ rfl, blk_far h.le_ (Ne.symm h.ne) _, blk_far h.ov (blk_ne h.ov h.at_ (by decide)) _, Kd.R_set h.src h.at_ (by decide) _ _, Kd.R_set h.out h.at_ (by decide) _ _, below_set h.bel h.gea, h.gea, h.geo, h.ne⟩

set_option maxHeartbeats 2000000 in
/-- What lies ahead of an end, if it is long enough. -/
theorem put_calls (h : Mem3 w W ga gl go a least v30 x v7 x7) (hl : x7.length < 200000) (e_ : Int) :
    Calls Try.prog 34 #[.int .i64 e_, .pointer (some ⟨ga, 0, none⟩), .pointer (some ⟨gl, 0, none⟩), .pointer (some ⟨go, 0, none⟩)] W fun e w' => e = .returned (.tuple #[]) ∧ ∃ v8, Mem3 w w' ga gl go a least v30 x v8 (if least ≤ wrap64 (e_ - a) then x7 ++ [⟨a, e_, 0⟩] else x7) ∧ ∀ b, b < W.heap.size → b ≠ go → some b ≠ v7.ownBlock → w'.heap[b]? = W.heap[b]? := by
  have hu44 := Try.underlying44
  obtain ⟨A7, c7, e7, _, _⟩ := Kd.R_reads h.out
  have hc_a : W.cell? ⟨ga, 0, none⟩ = some (.int .i64 a) := (blk_cell h.at_ 0).trans rfl
  have hc_l : W.cell? ⟨gl, 0, none⟩ = some (.int .i64 least) := (blk_cell h.le_ 0).trans rfl
  have hc_o : W.cell? ⟨go, 0, none⟩ = some v7 := (blk_cell h.ov 0).trans rfl
  subst e7
  have hf_o := blk_frozen h.ov 0
  have HM := Aside0.mk h
  have HL := Aside0.mk hl
  clear h hl
  by_cases c : least ≤ wrap64 (e_ - a)
  · have cb : decide (least ≤ wrap64 (e_ - a)) = true := decide_eq_true c
    rw [if_pos c]
    clear c
    go_enter Try.func34, Try.ntmps34
    go_wp2_with (first | ((with_reducible refine gate_builtin (b := .append) (xs := #[.tmp 10, .tmp 14]) rfl ?_); at_builtin; refine Kd.R_append k44 (w0 := w) w.heap.size rfl (.tmp 10) (.tmp 14) 22 44 (.agg #[(.int .i64 0), (.int .i64 0), (.int .i64 0)]) 24 rfl Try.underlying22 info44 rfl (by decide) (by omega) (.slice A7 x7.length c7) x7 (⟨a, e_, 0⟩ : S44) [.int .i64 a, .int .i64 e_, .int .i64 0] (fun k_ => some k_ ≠ v30.ownBlock) (fun _ => False) rfl (by first | (go_simp; done) | (go_simp; rfl)) ?aP (fun _ hk => hk.elim) ?aF ?aO ?aB ?aS ?aL ?_; (case aP => exact k44_mkM _ _ _ (⟨a, e_, 0⟩ : S44)); (case aB => exact (by repeat (first | (with_reducible first | exact HM.out.bel | apply below_alloc | apply pw_below_drewN | apply below_drew1) | exact HM.out.bel))); (case aF => exact (fun k_ hk => Kd.fresh_ok (HM.out.below (by repeat (first | exact Below.refl _ _ | apply below_alloc | apply pw_below_drewN | apply below_drew1))).src k_ hk)); (case aO => exact (by (with_reducible repeat (first | apply Kd.R_alloc | apply Kd.R_drewN | apply Kd.R_drew)); exact HM.out.out)); (case aS => exact (below_size (by repeat (first | (with_reducible first | exact HM.out.bel | apply below_alloc | apply pw_below_drewN | apply below_drew1) | exact HM.out.bel)))); (case aL => have := HL.out; omega); intro v8 w8 ho hb hg hat; obtain ⟨A8, c8, e8, _, _⟩ := Kd.R_reads ho; subst e8; have HM8 := Aside0.mk (Mem3.append (HM.out.below (by repeat (first | exact Below.refl _ _ | apply below_alloc | apply pw_below_drewN | apply below_drew1))) hg ho hb); have e3 := blk_grown (HM.out.below (by repeat (first | exact Below.refl _ _ | apply below_alloc | apply pw_below_drewN | apply below_drew1))).ov hg (Kd.R_ne (HM.out.below (by repeat (first | exact Below.refl _ _ | apply below_alloc | apply pw_below_drewN | apply below_drew1))).out (HM.out.below (by repeat (first | exact Below.refl _ _ | apply below_alloc | apply pw_below_drewN | apply below_drew1))).ov (by decide)); have hc8 : w8.cell? ⟨go, 0, none⟩ = some (.slice A7 x7.length c7) := (blk_cell e3 0).trans rfl; have hf8 := blk_frozen e3 0; have HG8 := Aside0.mk hg; clear ho hb hg hat e3))
    go_end0
    have h8 := HM8.out
    have e8 : (x7 ++ [(⟨a, e_, 0⟩ : S44)]).length = x7.length + 1 := by simp
    rw [e8] at h8
    refine ⟨rfl, _, h8, fun b h1 h2 h3 => ?_⟩
    exact (Below.heap_setCell _ _ _ _ h2).trans (HG8.out.block b h1 h3)
  · have cb : decide (least ≤ wrap64 (e_ - a)) = false := decide_eq_false c
    rw [if_neg c]
    clear c
    go_enter Try.func34, Try.ntmps34
    go_wp2
    go_end0
    exact ⟨rfl, _, HM.out, fun _ _ _ _ => rfl⟩
end

theorem rd44_drop {l : List S44} {i : Nat} (h : i < l.length) : l.drop i = rd_T44 l (i : Int) :: l.drop (i + 1) := by rw [rd44_get h]; exact List.drop_eq_getElem_cons h

set_option maxHeartbeats 4000000 in
set_option maxRecDepth 100000 in
theorem busy_Free.calls (k : Nat) (A0 : Option Addr) (c0 : Nat) (l0 : List (S44)) (a1 : Int) (a2 : Int) (a3 : Int) (r1 : List (S44)) (r2 : Int) (w : World) (hr0 : Kd.C k44 w A0 l0.length l0) (hc0 : l0.length ≤ c0) (h : busy_Free.f k l0 a1 a2 a3 = some (r1, r2)) :
    Calls Try.prog 18 #[.slice A0 l0.length c0, .int .i64 a1, .int .i64 a2, .int .i64 a3] w fun e w' => ∃ v0_ : Value, e = .returned (.tuple #[v0_, .int .i64 r2]) ∧ Kd.R k44 44 w' w.heap.size (fun _ => True) v0_ r1 ∧ Below w.heap.size w w' := by
  have hu44 := Try.underlying44
  have HR0 := Aside0.mk hr0
  have HC0 := Aside0.mk hc0
  clear hr0 hc0
  unfold busy_Free.f at h
  obtain ⟨er, he, h⟩ := Option.bind_eq_some_iff.mp h
  have HE := Aside0.mk he
  clear he
  by_cases c1 : er = 0
  · rw [if_pos c1] at h
    subst c1
    by_cases c2 : a3 < 1
    · rw [if_pos c2] at h
      have cb : decide (a3 < 1) = true := decide_eq_true c2
      clear c2
      simp only [Option.some.injEq, Prod.mk.injEq] at h
      obtain ⟨rfl, rfl⟩ := h
      go_enter Try.func18, Try.ntmps18
      go_wp2_with (first | ((with_reducible refine gate_dst (N := 7) rfl ?_); refine box_event ?hg (N := 7) ?hd (cs := #[.int .i64 a3]) (t := 2) ?hr ?_; (case hd => rfl); (case hg => rfl); (case hr => first | (go_simp; done) | (go_simp; rfl)); intro gl hgl w1 hbox hb; have BL := Aside0.mk hbox; have HB := Aside0.mk hb; clear hgl hbox hb) | (go_at_call 30; refine (busy_fits.calls k A0 c0 l0 a1 a2 0 _ (Kd.C_below HR0.out HB.out) HC0.out HE.out).mono ?_; rintro e w2 ⟨rfl, hb⟩; have HB2 := Aside0.mk (below_step HB.out hb); have BL2 := Aside0.mk (blk_below BL.out hb); clear hb HB BL; have hcl : w2.cell? ⟨gl, 0, none⟩ = some (.int .i64 a3) := (blk_cell BL2.out 0).trans rfl))
      go_ret2
      exact ⟨_, rfl, Kd.R_nil _ _ _ _ _, HB2.out⟩
    · rw [if_neg c2] at h
      have cb : decide (a3 < 1) = false := decide_eq_false c2
      clear c2
      obtain ⟨x, hx, h⟩ := Option.bind_eq_some_iff.mp h
      have HX := Aside0.mk hx
      clear hx
      by_cases c3 : x.length < 100000
      · rw [if_pos c3] at h
        have HLx := Aside0.mk c3
        clear c3
        simp only [Option.some.injEq, Prod.mk.injEq] at h
        obtain ⟨hr1, rfl⟩ := h
        have HR1 := Aside0.mk hr1
        clear hr1
        go_enter Try.func18, Try.ntmps18
        go_wp2_with (first | ((with_reducible refine gate_dst (N := 7) rfl ?_); refine box_event ?hg (N := 7) ?hd (cs := #[.int .i64 a3]) (t := 2) ?hr ?_; (case hd => rfl); (case hg => rfl); (case hr => first | (go_simp; done) | (go_simp; rfl)); intro gl hgl w1 hbox hb; have BL := Aside0.mk hbox; have HB := Aside0.mk hb; clear hgl hbox hb) | (go_at_call 30; refine (busy_fits.calls k A0 c0 l0 a1 a2 0 _ (Kd.C_below HR0.out HB.out) HC0.out HE.out).mono ?_; rintro e w2 ⟨rfl, hb⟩; have HB2 := Aside0.mk (below_step HB.out hb); have BL2 := Aside0.mk (blk_below BL.out hb); clear hb HB BL; have hcl : w2.cell? ⟨gl, 0, none⟩ = some (.int .i64 a3) := (blk_cell BL2.out 0).trans rfl) | ((with_reducible refine gate_dst (N := 11) rfl ?_); refine box_event ?hg (N := 11) ?hd (cs := #[.slice none 0 0]) (t := 22) ?hr ?_; (case hd => rfl); (case hg => rfl); (case hr => first | (go_simp; done) | (go_simp; rfl)); intro go_ hgo w3 hbox hb; have BO3 := Aside0.mk hbox; have HGO := Aside0.mk (show w.heap.size ≤ go_ by rw [hgo]; exact below_size HB2.out); have HB3 := Aside0.mk (below_step HB2.out hb); have BL3 := Aside0.mk (blk_below BL2.out hb); clear hgo hbox hb hcl HB2 BL2) | ((with_reducible refine gate_dst (N := 12) rfl ?_); refine box_event ?hg (N := 12) ?hd (cs := #[.int .i64 0]) (t := 2) ?hr ?_; (case hd => rfl); (case hg => rfl); (case hr => first | (go_simp; done) | (go_simp; rfl)); intro ga hga w4 hbox hb; have BA4 := Aside0.mk hbox; have HGA := Aside0.mk (show w.heap.size ≤ ga by rw [hga]; exact below_size HB3.out); have HNE := Aside0.mk (show ga ≠ gl by rw [hga]; exact Ne.symm (Nat.ne_of_lt (blk_lt BL3.out))); have HB4 := Aside0.mk (below_step HB3.out hb); have BL4 := Aside0.mk (blk_below BL3.out hb); have BO4 := Aside0.mk (blk_below BO3.out hb); clear hga hbox hb HB3 BL3 BO3; have hca : w4.cell? ⟨ga, 0, none⟩ = some (.int .i64 0) := (blk_cell BA4.out 0).trans rfl; have hfa := blk_frozen BA4.out 0) | (go_at_call 31; refine (busy_clip.calls k A0 c0 l0 a1 a2 x _ (Kd.C_below HR0.out (below_set HB4.out HGA.out)) HC0.out HX.out).mono ?_; rintro e w5 ⟨v30, rfl, hR, hb⟩; have HB5 := Aside0.mk (below_step (below_set HB4.out HGA.out) hb); have BL5 := Aside0.mk (blk_below (blk_far BL4.out (Ne.symm HNE.out) _) hb); have BA5 := Aside0.mk (blk_below (blk_put BA4.out 0 (.int .i64 a1) rfl) hb); have BO5 := Aside0.mk (blk_below (blk_far BO4.out (blk_ne BO4.out BA4.out (by decide)) _) hb); have HR5 := Aside0.mk (Kd.R_lower hR (below_size (below_set HB4.out HGA.out))); clear hb hR hca hfa HB4 BL4 BA4 BO4; obtain ⟨A30, c30, e30, _, _⟩ := Kd.R_reads HR5.out; subst e30; have HM := Aside0.mk (show Mem3 w w5 ga gl go_ a1 a3 (.slice A30 x.length c30) x (.slice none 0 0) [] from ⟨BA5.out, BL5.out, BO5.out, Kd.R_tight rfl HR5.out, Kd.R_nil _ _ _ _ _, HB5.out, HGA.out, HGO.out, HNE.out⟩); clear HB5 BL5 BA5 BO5 HR5))
        go_loopg [32] x.length (fun kq v32 w' => ∃ (i : Nat) (a : Int) (v7 : Value) (x7 : List S44), v32 = .int .i64 (i : Int) ∧ Aside0 (i ≤ x.length ∧ x.length - i ≤ kq ∧ x7.length ≤ i ∧ x7 ++ freeL a3 a2 (x.drop i) a = r1) ∧ Aside0 (Mem3 w w' ga gl go_ a a3 (.slice A30 x.length c30) x v7 x7))
        case atStart => exact ⟨0, a1, _, [], rfl, ⟨Nat.zero_le _, by omega, Nat.le_refl _, HR1.out⟩, HM⟩
        case round =>
          clear HM HR1
          obtain ⟨i, a, v7, x7, rfl, HI, HM⟩ := hrel
          by_cases hi : i < x.length
          · have hib : decide ((i : Int) < (x.length : Int)) = true := decide_eq_true (by omega)
            have hib2 : decide (i < x.length) = true := decide_eq_true hi
            have hinT : (i < x.length) = True := eq_true hi
            have hinT2 : ((i : Int) < (x.length : Int)) = True := eq_true (by omega)
            have hC : Kd.C k44 wr A30 x.length x := by
              obtain ⟨A', c', e', _, hC⟩ := Kd.R_reads HM.out.src
              injection e' with e1 e2 e3
              rw [e1]
              exact hC
            obtain ⟨ad, ead, hx_0, hx_1, hx_2⟩ := at_T44 hC (i : Int) (Int.natCast_nonneg _) (by omega)
            rw [Int.toNat_natCast] at hx_0 hx_1 hx_2
            have Hi := Aside0.mk hi
            clear hi hC
            cases ead
            obtain ⟨F, hF⟩ : ∃ F, (rd_T44 x (i : Int)).f0 = F := ⟨_, rfl⟩
            obtain ⟨T, hT⟩ : ∃ T, (rd_T44 x (i : Int)).f1 = T := ⟨_, rfl⟩
            obtain ⟨K, hK⟩ : ∃ K, (rd_T44 x (i : Int)).f2 = K := ⟨_, rfl⟩
            rw [hF] at hx_0
            rw [hT] at hx_1
            rw [hK] at hx_2
            have HF := Aside0.mk hF
            have HT := Aside0.mk hT
            have HK := Aside0.mk hK
            clear hF hT hK
            go_upto_region 12 with (first | ((with_reducible refine gate_dst (N := 15) rfl ?_); refine box_event ?hg (N := 15) ?hd (cs := #[.int .i64 0, .int .i64 0, .int .i64 0]) (t := 44) ?hr ?_; (case hd => rfl); (case hg => rfl); (case hr => first | (go_simp; done) | (go_simp; rfl)); intro gb hgb w3 hbox hb; have BE := Aside0.mk hbox; have HG := Aside0.mk (Nat.le_of_eq hgb.symm); have HNG := Aside0.mk (show some gb ≠ v7.ownBlock by rw [hgb]; intro he; have := Kd.R_lt HM.out.out _ he.symm; omega); have HBb := Aside0.mk hb; clear hgb hb hbox; have hcz_0 : w3.cell? ⟨gb, 0, none⟩ = some (.int .i64 0) := (blk_cell BE.out 0).trans rfl; have hcz_1 : w3.cell? ⟨gb, 1, none⟩ = some (.int .i64 0) := (blk_cell BE.out 1).trans rfl; have hcz_2 : w3.cell? ⟨gb, 2, none⟩ = some (.int .i64 0) := (blk_cell BE.out 2).trans rfl; have hfz_0 := blk_frozen BE.out 0; have hfz_1 := blk_frozen BE.out 1; have hfz_2 := blk_frozen BE.out 2))
            have BE4 : (((w3.setCell ⟨gb, 0, none⟩ (.int .i64 F)).setCell ⟨gb, 1, none⟩ (.int .i64 T)).setCell ⟨gb, 2, none⟩ (.int .i64 K)).heap[gb]? = some (.cells #[.int .i64 F, .int .i64 T, .int .i64 K] 44 (0, 0)) := blk_put (blk_put (blk_put BE.out 0 _ rfl) 1 _ rfl) 2 _ rfl
            have HM4 := HM.out.below (below_set (below_set (below_set HBb.out HG.out (j := 0) (v := .int .i64 F)) HG.out (j := 1) (v := .int .i64 T)) HG.out (j := 2) (v := .int .i64 K))
            clear HM BE HBb HG
            revert BE4 HM4
            generalize ((w3.setCell ⟨gb, 0, none⟩ (.int .i64 F)).setCell ⟨gb, 1, none⟩ (.int .i64 T)).setCell ⟨gb, 2, none⟩ (.int .i64 K) = W4
            intro BE4 HM4
            have he_0 : W4.cell? ⟨gb, 0, none⟩ = some (.int .i64 F) := (blk_cell BE4 0).trans rfl
            have he_1 : W4.cell? ⟨gb, 1, none⟩ = some (.int .i64 T) := (blk_cell BE4 1).trans rfl
            have he_2 : W4.cell? ⟨gb, 2, none⟩ = some (.int .i64 K) := (blk_cell BE4 2).trans rfl
            have HM := Aside0.mk HM4
            have BE := Aside0.mk BE4
            clear HM4 BE4
            have hi1 : wrap64 ((i : Int) + 1) = (i : Int) + 1 := by have := HLx.out; have := Hi.out; unfold wrap64; omega
            by_cases hk : 2 ≤ K
            · have hkb : decide (2 ≤ K) = true := decide_eq_true hk
              have HKG := Aside0.mk hk
              clear hk
              have hput := put_calls HM.out (by have := HI.out.2.2.1; have := HI.out.1; have := HLx.out; omega) F
              go_wp2_with (first | (go_at_call 34; refine hput.mono ?_; rintro e w6 ⟨rfl, v8, h8, hF8⟩; have HM6 := Aside0.mk h8; have BE6 := (hF8 gb (blk_lt BE.out) (blk_ne BE.out HM.out.ov (by decide)) HNG.out).trans BE.out; clear h8 hF8 HM BE he_0 he_1 he_2 hput; have he_1 : w6.cell? ⟨gb, 1, none⟩ = some (.int .i64 T) := (blk_cell BE6 1).trans rfl; have hca : w6.cell? ⟨ga, 0, none⟩ = some (.int .i64 a) := (blk_cell HM6.out.at_ 0).trans rfl; have hfa := blk_frozen HM6.out.at_ 0; clear BE6))
              go_roundg (gk - 1)
              case measure => have := HI.out.2.1; have := Hi.out; omega
              case rel => exact ⟨i + 1, T, v8, (if a3 ≤ wrap64 (F - a) then x7 ++ [⟨a, F, 0⟩] else x7), (by first | (simp; done) | (simp [hi1]; done)), ⟨by
                  obtain ⟨h1, h2, h3, h4⟩ := HI.out
                  have hlt := Hi.out
                  refine ⟨hlt, by omega, (by by_cases c : a3 ≤ wrap64 (F - a); (rw [if_pos c, List.length_append, List.length_singleton]; omega); (rw [if_neg c]; omega)), ?_⟩
                  rw [rd44_drop hlt] at h4
                  unfold freeL at h4
                  rw [HK.out, HF.out, HT.out, if_pos HKG.out] at h4
                  by_cases c : a3 ≤ wrap64 (F - a)
                  · rw [if_pos c] at h4 ⊢
                    rw [List.append_assoc]
                    exact h4
                  · rw [if_neg c] at h4 ⊢
                    exact h4⟩, ⟨HM6.out.setAt T⟩⟩
            · have hkb : decide (2 ≤ K) = false := decide_eq_false hk
              have HKG := Aside0.mk hk
              clear hk
              go_wp2
              go_roundg (gk - 1)
              case measure => have := HI.out.2.1; have := Hi.out; omega
              case rel => exact ⟨i + 1, a, _, x7, (by simp), ⟨by
                  obtain ⟨h1, h2, h3, h4⟩ := HI.out
                  have := Hi.out
                  refine ⟨this, by omega, by omega, ?_⟩
                  rw [rd44_drop this] at h4
                  unfold freeL at h4
                  rw [HK.out, if_neg (by have := HKG.out; omega)] at h4
                  exact h4⟩, HM⟩
          · have hib : decide ((i : Int) < (x.length : Int)) = false := decide_eq_false (by omega)
            have hib2 : decide (i < x.length) = false := decide_eq_false hi
            have hput := put_calls HM.out (by have := HI.out.2.2.1; have := HI.out.1; have := HLx.out; omega) a2
            obtain ⟨x8, hx8⟩ : ∃ x8, (if a3 ≤ wrap64 (a2 - a) then x7 ++ [(⟨a, a2, 0⟩ : S44)] else x7) = x8 := ⟨_, rfl⟩
            rw [hx8] at hput
            have hr : x8 = r1 := by
              obtain ⟨h1, h2, h3, h4⟩ := HI.out
              rw [List.drop_eq_nil_of_le (by omega)] at h4
              unfold freeL at h4
              rw [← hx8, ← h4]
              split
              · rfl
              · rw [List.append_nil]
            have HR := Aside0.mk hr
            clear hi hx8 hr
            go_wp2_with (first | (go_at_call 34; refine hput.mono ?_; rintro e w6 ⟨rfl, v8, h8, hF8⟩; obtain ⟨A8, c8, e8, _, _⟩ := Kd.R_reads h8.out; subst e8; have HM6 := Aside0.mk h8; have hco : w6.cell? ⟨go_, 0, none⟩ = some (.slice A8 x8.length c8) := (blk_cell h8.ov 0).trans rfl; clear h8 hF8 HM hput))
            go_ret2
            exact ⟨_, rfl, by rw [← HR.out]; exact Kd.R_mono HM6.out.out (fun _ _ => trivial), HM6.out.bel⟩
      · rw [if_neg c3] at h
        cases h
  · rw [if_neg c1] at h
    have cb : (er != 0) = true := by simp [c1]
    have cb2 : (er == 0) = false := by simp [c1]
    clear c1
    simp only [Option.some.injEq, Prod.mk.injEq] at h
    obtain ⟨rfl, rfl⟩ := h
    go_enter Try.func18, Try.ntmps18
    go_wp2_with (first | ((with_reducible refine gate_dst (N := 7) rfl ?_); refine box_event ?hg (N := 7) ?hd (cs := #[.int .i64 a3]) (t := 2) ?hr ?_; (case hd => rfl); (case hg => rfl); (case hr => first | (go_simp; done) | (go_simp; rfl)); intro gl hgl w1 hbox hb; have BL := Aside0.mk hbox; have HB := Aside0.mk hb; clear hgl hbox hb) | (go_at_call 30; refine (busy_fits.calls k A0 c0 l0 a1 a2 er _ (Kd.C_below HR0.out HB.out) HC0.out HE.out).mono ?_; rintro e w2 ⟨rfl, hb⟩; have HB2 := Aside0.mk (below_step HB.out hb); clear hb HB))
    go_ret2
    exact ⟨_, rfl, Kd.R_nil _ _ _ _ _, HB2.out⟩

/-! ### busy_Clash_1: function 36 -/
def busy_Clash_1.f (a0_0 : Int) (a0_1 : Int) (a0_2 : Int) : Option (Bool) := some (decide (a0_2 ≥ 2))
set_option maxHeartbeats 8000000 in
set_option maxRecDepth 100000 in
theorem busy_Clash_1.calls (a0_0 : Int) (a0_1 : Int) (a0_2 : Int) (r : Bool) (w : World) (h : busy_Clash_1.f a0_0 a0_1 a0_2 = some r) :
    Calls Try.prog 36 #[.agg #[.int .i64 a0_0, .int .i64 a0_1, .int .i64 a0_2]] w fun e w' => e = .returned (.bool r) ∧ Below w.heap.size w w' := by
  have hu44 := Try.underlying44
  have HB := Aside0.mk (Below.refl w.heap.size w)
  have H : (some (decide (a0_2 ≥ 2))) = some r := h
  clear h
  obtain rfl := Option.some.inj H
  go_enter Try.func36, Try.ntmps36
  go_wp2_with (first | ((with_reducible refine gate_dst (N := 1) rfl ?_); refine box_event ?hg (N := 1) ?hd (cs := #[.int .i64 a0_0, .int .i64 a0_1, .int .i64 a0_2]) (t := 44) ?hr ?_; (case hd => rfl); (case hg => rfl); (case hr => first | (go_simp; done) | (go_simp; rfl)); intro gb120 hg w2 hbox hb; have n0_ := Aside0.mk (below_step (by repeat (first | (with_reducible first | exact HB.out | apply below_alloc | apply pw_below_drewN | apply below_drew1) | exact HB.out)) hb); have n1_ := Aside0.mk (hbox); have n2_ := Aside0.mk ((by rw [hg]; exact (below_size (by repeat (first | (with_reducible first | exact HB.out | apply below_alloc | apply pw_below_drewN | apply below_drew1) | exact HB.out))) : w.heap.size ≤ gb120)); have n3_ := Aside0.mk ((by rw [hg]; exact (below_size (by repeat (first | (with_reducible first | exact HB.out | apply below_alloc | apply pw_below_drewN | apply below_drew1) | exact HB.out))) : w.heap.size ≤ gb120)); clear HB; have HB := n0_; have BK120 := n1_; have GW120 := n2_; have GE120 := n3_; clear n0_ n1_ n2_ n3_; clear hb hbox hg; have hcz3_0 : w2.cell? ⟨gb120, 0, none⟩ = some (.int .i64 a0_0) := (blk_cell BK120.out 0).trans rfl; have hcz3_1 : w2.cell? ⟨gb120, 1, none⟩ = some (.int .i64 a0_1) := (blk_cell BK120.out 1).trans rfl; have hcz3_2 : w2.cell? ⟨gb120, 2, none⟩ = some (.int .i64 a0_2) := (blk_cell BK120.out 2).trans rfl; have hfz3_0 := blk_frozen BK120.out 0; have hfz3_1 := blk_frozen BK120.out 1; have hfz3_2 := blk_frozen BK120.out 2))
  go_ret
  exact ⟨by first | rfl | (simp [errW_none, errW_some] <;> rfl) | (simp [*, errW_none, errW_some] <;> rfl), by repeat (first | (with_reducible first | exact HB.out | apply below_alloc | apply pw_below_drewN | apply below_drew1 | refine below_set ?_ GE120.out) | exact HB.out)⟩

/-! ### busy_Span_42: function 42 -/
def busy_Span_42.l0 : Nat → List (S44) → Int → Int → Option (Int)
  | 0, _, _, _ => none
  | k + 1, x0, x7, x8 => if x8 < x7 then (if 0 ≤ x8 then (if x8 < (x0.length : Int) then ((busy_Clash_1.f ((rd_T44 x0 x8).f0) ((rd_T44 x0 x8).f1) ((rd_T44 x0 x8).f2)).bind fun t122 => (if t122 = true then (some x8) else (busy_Span_42.l0 k x0 x7 (wrap64 (x8 + 1))))) else (none)) else (none)) else (some (-1))
def busy_Span_42.f (k : Nat) (l0 : List (S44))  : Option (Int) := busy_Span_42.l0 k l0 (l0.length : Int) 0
theorem busy_Span_42.mono_l : ∀ k, (∀ y0 y1 y2, LeO (busy_Span_42.l0 k y0 y1 y2) (busy_Span_42.l0 (k + 1) y0 y1 y2))
  | 0 => fun _ _ _ r h => by simp [busy_Span_42.l0] at h
  | k + 1 => by
    have ih0 := busy_Span_42.mono_l k
    · intro y0 y1 y2
      unfold busy_Span_42.l0
      repeat' first
      | (with_reducible exact ih0 _ _ _)
      | (with_reducible exact LeO.refl _)
      | (with_reducible exact LeO.none _)
      | (with_reducible refine LeO.ite ?_ ?_)
      | (with_reducible refine LeO.bind ?_ (fun _ => ?_))
      | exact ih0 _ _ _
      | exact LeO.none _
      | refine LeO.ite ?_ ?_
      | refine LeO.bind ?_ (fun _ => ?_)
theorem busy_Span_42.mono : ∀ a0 k, LeO (busy_Span_42.f k a0) (busy_Span_42.f (k + 1) a0) := by
  intro a0 k
  have ih0 := busy_Span_42.mono_l k
  unfold busy_Span_42.f
  repeat' first
      | (with_reducible exact ih0 _ _ _)
      | (with_reducible exact LeO.refl _)
      | (with_reducible exact LeO.none _)
      | (with_reducible refine LeO.ite ?_ ?_)
      | (with_reducible refine LeO.bind ?_ (fun _ => ?_))
      | exact ih0 _ _ _
      | exact LeO.none _
      | refine LeO.ite ?_ ?_
      | refine LeO.bind ?_ (fun _ => ?_)
set_option maxHeartbeats 8000000 in
set_option maxRecDepth 100000 in
theorem busy_Span_42.calls (k : Nat) (A0 : Option Addr) (c0 : Nat) (l0 : List (S44))  (r : Int) (w : World) (hr0 : Kd.C k44 w A0 l0.length l0) (hc0 : l0.length ≤ c0) (h : busy_Span_42.f k l0 = some r) :
    Calls Try.prog 42 #[.slice A0 l0.length c0, .func (.func 36) #[] #[]] w fun e w' => e = .returned (.int .i64 r) ∧ Below w.heap.size w w' := by
  have hu44 := Try.underlying44
  have HR0 := Aside0.mk hr0
  have HC0 := Aside0.mk hc0
  clear hr0 hc0
  have HB := Aside0.mk (Below.refl w.heap.size w)
  have H : (busy_Span_42.l0 k l0 (l0.length : Int) 0) = some r := h
  clear h
  have H' := Aside0.mk H
  clear H
  go_enter Try.func42, Try.ntmps42
  go_wp2
  go_loopg [8] k (fun kq v8 w' => ∃ (x8_1 : Int), v8 = .int .i64 x8_1 ∧ Aside0 (busy_Span_42.l0 kq l0 (l0.length : Int) x8_1 = some r) ∧ Aside0 (kq ≤ k) ∧ Aside0 (Below w.heap.size w w'))
  case atStart => exact ⟨(0), (by first | rfl | (simp; done) | (simp [*]; done)), H', ⟨Nat.le_refl _⟩, ⟨by repeat (first | (with_reducible first | exact HB.out | apply below_alloc | apply pw_below_drewN | apply below_drew1) | exact HB.out)⟩⟩
  case round =>
    clear H'
    try clear p2
    obtain ⟨x8_1, rfl, HA, HK1, HB⟩ := hrel
    cases gk with
    | zero => exact absurd HA.out (by simp [busy_Span_42.l0])
    | succ k1 =>
      have H := HA.out
      clear HA
      simp only [busy_Span_42.l0] at H
      by_cases c3 : x8_1 < (l0.length : Int)
      · rw [if_pos c3] at H
        have c3b0 : decide (x8_1 < (l0.length : Int)) = true := decide_eq_true c3
        clear c3
        by_cases c4 : 0 ≤ x8_1
        · rw [if_pos c4] at H
          have c4b0 : decide (0 ≤ x8_1) = true := decide_eq_true c4
          clear c4
          by_cases c5 : x8_1 < (l0.length : Int)
          · rw [if_pos c5] at H
            have c5b0 : decide (x8_1 < (l0.length : Int)) = true := decide_eq_true c5
            clear c5
            replace H := Option.bind_eq_some_iff.mp H
            obtain ⟨t122, A60, H⟩ := H
            replace H : (if t122 = true then (some x8_1) else (busy_Span_42.l0 k1 l0 (l0.length : Int) (wrap64 (x8_1 + 1)))) = some r := H
            have A6 := Aside0.mk A60
            clear A60
            by_cases c7 : t122 = true
            · subst c7
              have H1 : (some x8_1) = some r := by rw [if_pos rfl] at H; exact H
              clear H
              have H := H1
              clear H1
              obtain rfl := Option.some.inj H
              have p121 : 0 ≤ (x8_1 : Int) := of_decide_eq_true (by first | (with_reducible assumption) | assumption)
              have q121 : x8_1 < (l0.length : Int) := of_decide_eq_true (by first | (with_reducible assumption) | assumption)
              obtain ⟨ad121, e121, hx121_0, hx121_1, hx121_2⟩ := at_T44 HR0.out x8_1 p121 q121
              cases e121
              replace hx121_0 := (HB.out.cell (World.block_lt_of_cell? w _ hx121_0)).trans hx121_0
              replace hx121_1 := (HB.out.cell (World.block_lt_of_cell? w _ hx121_1)).trans hx121_1
              replace hx121_2 := (HB.out.cell (World.block_lt_of_cell? w _ hx121_2)).trans hx121_2
              replace p121 := eq_true p121
              replace q121 := eq_true q121
              go_wp2_with (first | (go_at_call 36; (with_reducible refine (busy_Clash_1.calls ((rd_T44 l0 x8_1).f0) ((rd_T44 l0 x8_1).f1) ((rd_T44 l0 x8_1).f2) true _ A6.out).mono ?_); rintro e w8 ⟨rfl, hb⟩; have n0_ := Aside0.mk (below_step (by repeat (first | (with_reducible first | exact HB.out | apply below_alloc | apply pw_below_drewN | apply below_drew1) | exact HB.out)) hb); clear HB; have HB := n0_; clear n0_; (try clear hb); (try clear hb2); (try clear hk); (try clear hi)))
              go_ret
              exact ⟨by first | rfl | (simp [errW_none, errW_some] <;> rfl) | (simp [*, errW_none, errW_some] <;> rfl), by repeat (first | (with_reducible first | exact HB.out | apply below_alloc | apply pw_below_drewN | apply below_drew1) | exact HB.out)⟩
            · replace c7 := Bool.eq_false_iff.mpr c7
              subst c7
              have H1 : (busy_Span_42.l0 k1 l0 (l0.length : Int) (wrap64 (x8_1 + 1))) = some r := by rw [if_neg (show ¬ (false = true) by decide)] at H; exact H
              clear H
              have H := H1
              clear H1
              have H' := Aside0.mk H
              clear H
              have p121 : 0 ≤ (x8_1 : Int) := of_decide_eq_true (by first | (with_reducible assumption) | assumption)
              have q121 : x8_1 < (l0.length : Int) := of_decide_eq_true (by first | (with_reducible assumption) | assumption)
              obtain ⟨ad121, e121, hx121_0, hx121_1, hx121_2⟩ := at_T44 HR0.out x8_1 p121 q121
              cases e121
              replace hx121_0 := (HB.out.cell (World.block_lt_of_cell? w _ hx121_0)).trans hx121_0
              replace hx121_1 := (HB.out.cell (World.block_lt_of_cell? w _ hx121_1)).trans hx121_1
              replace hx121_2 := (HB.out.cell (World.block_lt_of_cell? w _ hx121_2)).trans hx121_2
              replace p121 := eq_true p121
              replace q121 := eq_true q121
              go_wp2_with (first | (go_at_call 36; (with_reducible refine (busy_Clash_1.calls ((rd_T44 l0 x8_1).f0) ((rd_T44 l0 x8_1).f1) ((rd_T44 l0 x8_1).f2) false _ A6.out).mono ?_); rintro e w9 ⟨rfl, hb⟩; have n0_ := Aside0.mk (below_step (by repeat (first | (with_reducible first | exact HB.out | apply below_alloc | apply pw_below_drewN | apply below_drew1) | exact HB.out)) hb); clear HB; have HB := n0_; clear n0_; (try clear hb); (try clear hb2); (try clear hk); (try clear hi)))
              go_roundg k1
              case measure => have := HK1.out; omega
              case rel => exact ⟨(wrap64 (x8_1 + 1)), (by first | rfl | (simp; done) | (simp [*]; done)), H', ⟨by have := HK1.out; omega⟩, ⟨by repeat (first | (with_reducible first | exact HB.out | apply below_alloc | apply pw_below_drewN | apply below_drew1) | exact HB.out)⟩⟩
          · rw [if_neg c5] at H
            exact absurd H (by simp)
        · rw [if_neg c4] at H
          exact absurd H (by simp)
      · rw [if_neg c3] at H
        have c3b0 : decide (x8_1 < (l0.length : Int)) = false := decide_eq_false c3
        clear c3
        obtain rfl := Option.some.inj H
        go_wp2
        go_ret
        exact ⟨by first | rfl | (simp [errW_none, errW_some] <;> rfl) | (simp [*, errW_none, errW_some] <;> rfl), by repeat (first | (with_reducible first | exact HB.out | apply below_alloc | apply pw_below_drewN | apply below_drew1) | exact HB.out)⟩

/-! ### busy_Span_35: function 35 -/
def busy_Span_35.f (k : Nat) (l0 : List (S44))  : Option (Bool) := (busy_Span_42.f k l0).bind fun t123 => (some (decide (t123 ≥ 0)))
theorem busy_Span_35.mono : ∀ a0 k, LeO (busy_Span_35.f k a0) (busy_Span_35.f (k + 1) a0) := by
  intro a0 k
  unfold busy_Span_35.f
  repeat' first
      | (with_reducible exact busy_Span_42.mono _ _)
      | (with_reducible exact LeO.refl _)
      | (with_reducible exact LeO.none _)
      | (with_reducible refine LeO.ite ?_ ?_)
      | (with_reducible refine LeO.bind ?_ (fun _ => ?_))
      | exact busy_Span_42.mono _ _
      | exact LeO.none _
      | refine LeO.ite ?_ ?_
      | refine LeO.bind ?_ (fun _ => ?_)
set_option maxHeartbeats 8000000 in
set_option maxRecDepth 100000 in
theorem busy_Span_35.calls (k : Nat) (A0 : Option Addr) (c0 : Nat) (l0 : List (S44))  (r : Bool) (w : World) (hr0 : Kd.C k44 w A0 l0.length l0) (hc0 : l0.length ≤ c0) (h : busy_Span_35.f k l0 = some r) :
    Calls Try.prog 35 #[.slice A0 l0.length c0, .func (.func 36) #[] #[]] w fun e w' => e = .returned (.bool r) ∧ Below w.heap.size w w' := by
  have HR0 := Aside0.mk hr0
  have HC0 := Aside0.mk hc0
  clear hr0 hc0
  have HB := Aside0.mk (Below.refl w.heap.size w)
  have H : ((busy_Span_42.f k l0).bind fun t123 => (some (decide (t123 ≥ 0)))) = some r := h
  clear h
  replace H := Option.bind_eq_some_iff.mp H
  obtain ⟨t123, A30, H⟩ := H
  replace H : (some (decide (t123 ≥ 0))) = some r := H
  have A3 := Aside0.mk A30
  clear A30
  obtain rfl := Option.some.inj H
  go_enter Try.func35, Try.ntmps35
  go_wp2_with (first | ((with_reducible refine gate_callee (f := 42) rfl ?_); refine goesL_ (some 7) rfl rfl Try.func42 (by kernel_rfl) rfl #[.slice A0 l0.length c0, .func (.func 36) #[] #[]] rfl (by (try simp only [List.map_toArray, List.map_cons, List.map_nil]); first | done | rfl | (simp only [List.length_drop, List.length_take]; rfl)) ?_; (with_reducible refine (busy_Span_42.calls k _ _ l0  t123 _ ?side1 ?side2 A3.out).mono ?_); (case side1 => repeat (first | exact HR0.out | (with_reducible refine Kd.C_alloc ?_ _) | (with_reducible refine Kd.C_drewN ?_ _) | (with_reducible refine Kd.C_drew ?_))); (case side2 => exact HC0.out); rintro e w4 ⟨rfl, hb⟩; refine ⟨_, rfl, ?_⟩; have n0_ := Aside0.mk (below_step (by repeat (first | (with_reducible first | exact HB.out | apply below_alloc | apply pw_below_drewN | apply below_drew1) | exact HB.out)) hb); clear HB; have HB := n0_; clear n0_; (try clear hb); (try clear hb2); (try clear hk); (try clear hi)))
  go_ret
  exact ⟨by first | rfl | (simp [errW_none, errW_some] <;> rfl) | (simp [*, errW_none, errW_some] <;> rfl), by repeat (first | (with_reducible first | exact HB.out | apply below_alloc | apply pw_below_drewN | apply below_drew1) | exact HB.out)⟩

/-! ### busy_Clash: function 20 -/
def busy_Clash.f (k : Nat) (l0 : List (S44)) (a1 : Int) (a2 : Int) : Option (Bool × Int) := (busy_fits.f k l0 a1 a2).bind fun t124 => (if t124 = 0 then ((busy_clip.f k l0 a1 a2).bind fun t125 => ((busy_Span_35.f k t125).bind fun t128 => (some (t128, 0)))) else (some (false, t124)))
theorem busy_Clash.mono : ∀ a0 a1 a2 k, LeO (busy_Clash.f k a0 a1 a2) (busy_Clash.f (k + 1) a0 a1 a2) := by
  intro a0 a1 a2 k
  unfold busy_Clash.f
  repeat' first
      | (with_reducible exact busy_Span_35.mono _ _)
      | (with_reducible exact busy_clip.mono _ _ _ _)
      | (with_reducible exact busy_fits.mono _ _ _ _)
      | (with_reducible exact LeO.refl _)
      | (with_reducible exact LeO.none _)
      | (with_reducible refine LeO.ite ?_ ?_)
      | (with_reducible refine LeO.bind ?_ (fun _ => ?_))
      | exact busy_Span_35.mono _ _
      | exact busy_clip.mono _ _ _ _
      | exact busy_fits.mono _ _ _ _
      | exact LeO.none _
      | refine LeO.ite ?_ ?_
      | refine LeO.bind ?_ (fun _ => ?_)
set_option maxHeartbeats 8000000 in
set_option maxRecDepth 100000 in
theorem busy_Clash.calls (k : Nat) (A0 : Option Addr) (c0 : Nat) (l0 : List (S44)) (a1 : Int) (a2 : Int) (r1 : Bool) (r2 : Int) (w : World) (hr0 : Kd.C k44 w A0 l0.length l0) (hc0 : l0.length ≤ c0) (h : busy_Clash.f k l0 a1 a2 = some (r1, r2)) :
    Calls Try.prog 20 #[.slice A0 l0.length c0, .int .i64 a1, .int .i64 a2] w fun e w' => e = .returned (.tuple #[.bool r1, .int .i64 r2]) ∧ Below w.heap.size w w' := by
  have HR0 := Aside0.mk hr0
  have HC0 := Aside0.mk hc0
  clear hr0 hc0
  have HB := Aside0.mk (Below.refl w.heap.size w)
  have H : ((busy_fits.f k l0 a1 a2).bind fun t124 => (if t124 = 0 then ((busy_clip.f k l0 a1 a2).bind fun t125 => ((busy_Span_35.f k t125).bind fun t128 => (some (t128, 0)))) else (some (false, t124)))) = some (r1, r2) := h
  clear h
  replace H := Option.bind_eq_some_iff.mp H
  obtain ⟨t124, A40, H⟩ := H
  replace H : (if t124 = 0 then ((busy_clip.f k l0 a1 a2).bind fun t125 => ((busy_Span_35.f k t125).bind fun t128 => (some (t128, 0)))) else (some (false, t124))) = some (r1, r2) := H
  have A4 := Aside0.mk A40
  clear A40
  by_cases c5 : t124 = 0
  · rw [if_pos c5] at H
    have c5b0 : (t124 == 0) = true := beq_iff_eq.mpr c5
    have c5b1 : (t124 != 0) = false := bne_eq_false_iff_eq.mpr c5
    clear c5
    replace H := Option.bind_eq_some_iff.mp H
    obtain ⟨t125, A60, H⟩ := H
    replace H : ((busy_Span_35.f k t125).bind fun t128 => (some (t128, 0))) = some (r1, r2) := H
    have A6 := Aside0.mk A60
    clear A60
    replace H := Option.bind_eq_some_iff.mp H
    obtain ⟨t128, A70, H⟩ := H
    replace H : (some (t128, 0)) = some (r1, r2) := H
    have A7 := Aside0.mk A70
    clear A70
    simp only [Option.some.injEq, Prod.mk.injEq] at H
    obtain ⟨rfl, rfl⟩ := H
    go_enter Try.func20, Try.ntmps20
    go_wp2_with (first | ((with_reducible refine gate_callee (f := 30) rfl ?_); refine goesL_ (some 12) rfl rfl Try.func30 (by kernel_rfl) rfl #[.slice A0 l0.length c0, .int .i64 a1, .int .i64 a2] rfl (by (try simp only [List.map_toArray, List.map_cons, List.map_nil]); first | done | rfl | (simp only [List.length_drop, List.length_take]; rfl)) ?_; (with_reducible refine (busy_fits.calls k _ _ l0 a1 a2 t124 _ ?side1 ?side2 A4.out).mono ?_); (case side1 => repeat (first | exact HR0.out | (with_reducible refine Kd.C_alloc ?_ _) | (with_reducible refine Kd.C_drewN ?_ _) | (with_reducible refine Kd.C_drew ?_))); (case side2 => exact HC0.out); rintro e w8 ⟨rfl, hb⟩; refine ⟨_, rfl, ?_⟩; have n0_ := Aside0.mk (below_step (by repeat (first | (with_reducible first | exact HB.out | apply below_alloc | apply pw_below_drewN | apply below_drew1) | exact HB.out)) hb); clear HB; have HB := n0_; clear n0_; (try clear hb); (try clear hb2); (try clear hk); (try clear hi)) | ((with_reducible refine gate_callee (f := 31) rfl ?_); refine goesL_ (some 19) rfl rfl Try.func31 (by kernel_rfl) rfl #[.slice A0 l0.length c0, .int .i64 a1, .int .i64 a2] rfl (by (try simp only [List.map_toArray, List.map_cons, List.map_nil]); first | done | rfl | (simp only [List.length_drop, List.length_take]; rfl)) ?_; (with_reducible refine (busy_clip.calls k _ _ l0 a1 a2 t125 _ ?side1 ?side2 A6.out).mono ?_); (case side1 => repeat (first | exact (Kd.C_below HR0.out HB.out) | (with_reducible refine Kd.C_alloc ?_ _) | (with_reducible refine Kd.C_drewN ?_ _) | (with_reducible refine Kd.C_drew ?_))); (case side2 => exact HC0.out); rintro e w9 ⟨v126, rfl, ho0, hb⟩; refine ⟨_, rfl, ?_⟩; have n0_ := Aside0.mk (Kd.R_lower ho0 (below_size (by repeat (first | (with_reducible first | exact HB.out | apply below_alloc | apply pw_below_drewN | apply below_drew1) | exact HB.out)))); have n1_ := Aside0.mk (below_step (by repeat (first | (with_reducible first | exact HB.out | apply below_alloc | apply pw_below_drewN | apply below_drew1) | exact HB.out)) hb); clear HB; have HO127 := n0_; have HB := n1_; clear n0_ n1_; (try clear hb); (try clear hb2); (try clear hk); (try clear hi); (try clear ho0); obtain ⟨Ao10, co10, eo10⟩ := Kd.R_slice HO127.out; subst eo10) | ((with_reducible refine gate_callee (f := 35) rfl ?_); refine goesL_ (some 20) rfl rfl Try.func35 (by kernel_rfl) rfl #[.slice Ao10 t125.length co10, .func (.func 36) #[] #[]] rfl (by (try simp only [List.map_toArray, List.map_cons, List.map_nil]); first | done | rfl | (simp only [List.length_drop, List.length_take]; rfl)) ?_; (with_reducible refine (busy_Span_35.calls k _ _ t125  t128 _ ?side1 ?side2 A7.out).mono ?_); (case side1 => repeat (first | exact (Kd.R_reads' HO127.out).2.2 | (with_reducible refine Kd.C_alloc ?_ _) | (with_reducible refine Kd.C_drewN ?_ _) | (with_reducible refine Kd.C_drew ?_))); (case side2 => exact (Kd.R_reads' HO127.out).2.1); rintro e w11 ⟨rfl, hb⟩; refine ⟨_, rfl, ?_⟩; have n0_ := Aside0.mk (Kd.R_below (by (with_reducible repeat (first | apply Kd.R_alloc | apply Kd.R_drewN | apply Kd.R_drew)); exact HO127.out) hb); have n1_ := Aside0.mk (below_step (by repeat (first | (with_reducible first | exact HB.out | apply below_alloc | apply pw_below_drewN | apply below_drew1) | exact HB.out)) hb); clear HO127; clear HB; have HO127 := n0_; have HB := n1_; clear n0_ n1_; (try clear hb); (try clear hb2); (try clear hk); (try clear hi)))
    go_ret2
    exact ⟨by first | rfl | (simp [errW_none, errW_some] <;> rfl) | (simp [*, errW_none, errW_some] <;> rfl), by repeat (first | (with_reducible first | exact HB.out | apply below_alloc | apply pw_below_drewN | apply below_drew1) | exact HB.out)⟩
  · rw [if_neg c5] at H
    have c5b0 : (t124 == 0) = false := beq_eq_false_iff_ne.mpr c5
    have c5b1 : (t124 != 0) = true := bne_iff_ne.mpr c5
    simp only [Option.some.injEq, Prod.mk.injEq] at H
    obtain ⟨rfl, rfl⟩ := H
    go_enter Try.func20, Try.ntmps20
    go_wp2_with (first | ((with_reducible refine gate_callee (f := 30) rfl ?_); refine goesL_ (some 12) rfl rfl Try.func30 (by kernel_rfl) rfl #[.slice A0 l0.length c0, .int .i64 a1, .int .i64 a2] rfl (by (try simp only [List.map_toArray, List.map_cons, List.map_nil]); first | done | rfl | (simp only [List.length_drop, List.length_take]; rfl)) ?_; (with_reducible refine (busy_fits.calls k _ _ l0 a1 a2 t124 _ ?side1 ?side2 A4.out).mono ?_); (case side1 => repeat (first | exact HR0.out | (with_reducible refine Kd.C_alloc ?_ _) | (with_reducible refine Kd.C_drewN ?_ _) | (with_reducible refine Kd.C_drew ?_))); (case side2 => exact HC0.out); rintro e w12 ⟨rfl, hb⟩; refine ⟨_, rfl, ?_⟩; have n0_ := Aside0.mk (below_step (by repeat (first | (with_reducible first | exact HB.out | apply below_alloc | apply pw_below_drewN | apply below_drew1) | exact HB.out)) hb); clear HB; have HB := n0_; clear n0_; (try clear hb); (try clear hb2); (try clear hk); (try clear hi)))
    go_ret2
    exact ⟨by first | rfl | (simp [errW_none, errW_some] <;> rfl) | (simp [*, errW_none, errW_some] <;> rfl), by repeat (first | (with_reducible first | exact HB.out | apply below_alloc | apply pw_below_drewN | apply below_drew1) | exact HB.out)⟩

end Go.Proofs.Ytalepohjmjlndaa.PB

-- Written by a program of the session (wip/tools).
import Derived.Test.YtlplmkllmgdifaaPZx0
import Derived.Test.YtlplmkllmgdifaaPZx1
import Derived.Test.YtlplmkllmgdifaaPZx15
import Derived.Test.YtlplmkllmgdifaaPZx17
namespace Go.Proofs.Ytlplmkllmgdifaa.PZ
open Go.RowKit Go.Proofs.YtlplmkllmgdifaaW.PrintWords Go.Proofs.YtlplmkllmgdifaaW.PrintLast Go.Proofs.YtlplmkllmgdifaaW.PrintMore
attribute [local go_sem] max2_int min2_int max_two min_two max_three min_three max_four min_four   -- for this text's walks alone
set_option linter.unusedVariables false
set_option linter.unusedSimpArgs false

/-! ### posthornlaw22_ZoneGaps: function 7 -/
def posthornlaw22_ZoneGaps.j0 : Nat → Int → Int → Bool → ByteArray → Int → List (S42) → Option (Bool)
 | 0, _, _, _, _, _, _ => none
 | k + 1, x1, x7, x37, x395000, x395001, x395002 => if x37 = true then ((posthornlaw22_alive.f k).bind fun t403 => (some t403)) else ((zone_Local.f k x395000 x395001 x395002 x7).bind fun bt404 => ((posthornlaw22_alive.f k).bind fun t406 => (if t406 = true then (if bt404.2 = 0 then (some (bt404.1 != x1)) else (some true)) else (some false))))
def posthornlaw22_ZoneGaps.f (k : Nat) (a0_0 : ByteArray) (a0_1 : Int) (l0_2 : List (S42)) (a1 : Int) : Option (Bool) := (posthornlaw22_Great.f k a0_0 a0_1 l0_2 a1).bind fun t395 => (if t395 = true then ((posthornlaw22_alive.f k).bind fun t396 => (some t396)) else ((zone_Moments.f k a0_0 a0_1 l0_2 a1).bind fun bt397 => ((zone_Moment.f k a0_0 a0_1 l0_2 a1).bind fun bt401 => (if bt397.2 = 0 then (if (bt397.1.length : Int) > 0 then (posthornlaw22_ZoneGaps.j0 k a1 bt401.1 true a0_0 a0_1 l0_2) else (posthornlaw22_ZoneGaps.j0 k a1 bt401.1 (bt401.2 != 0) a0_0 a0_1 l0_2)) else (posthornlaw22_ZoneGaps.j0 k a1 bt401.1 true a0_0 a0_1 l0_2)))))
theorem posthornlaw22_ZoneGaps.mono_l : ∀ k, (∀ y0 y1 y2 y3 y4 y5, LeO (posthornlaw22_ZoneGaps.j0 k y0 y1 y2 y3 y4 y5) (posthornlaw22_ZoneGaps.j0 (k + 1) y0 y1 y2 y3 y4 y5))
 | 0 => fun _ _ _ _ _ _ r h => by simp [posthornlaw22_ZoneGaps.j0] at h
 | k + 1 => by
  have ih0 := posthornlaw22_ZoneGaps.mono_l k
  ·intro y0 y1 y2 y3 y4 y5
   unfold posthornlaw22_ZoneGaps.j0
   repeat' first
   | (with_reducible exact ih0 ..)
   | (with_reducible exact posthornlaw22_Great.mono ..)
   | (with_reducible exact posthornlaw22_alive.mono ..)
   | (with_reducible exact zone_Local.mono ..)
   | (with_reducible exact zone_Moment.mono ..)
   | (with_reducible exact zone_Moments.mono ..)
   | (with_reducible exact LeO.refl ..)
   | (with_reducible exact LeO.none ..)
   | (with_reducible refine LeO.ite ?_ ?_)
   | (with_reducible refine LeO.bind ?_ (fun _ => ?_))
   | exact ih0 ..
   | exact posthornlaw22_Great.mono ..
   | exact posthornlaw22_alive.mono ..
   | exact zone_Local.mono ..
   | exact zone_Moment.mono ..
   | exact zone_Moments.mono ..
   | exact LeO.none ..
   | refine LeO.ite ?_ ?_
   | refine LeO.bind ?_ (fun _ => ?_)
theorem posthornlaw22_ZoneGaps.mono : ∀ a0 a1 a2 a3 k, LeO (posthornlaw22_ZoneGaps.f k a0 a1 a2 a3) (posthornlaw22_ZoneGaps.f (k + 1) a0 a1 a2 a3) := by
 intro a0 a1 a2 a3 k
 have ih0 := posthornlaw22_ZoneGaps.mono_l k
 unfold posthornlaw22_ZoneGaps.f
 repeat' first
   | (with_reducible exact ih0 ..)
   | (with_reducible exact posthornlaw22_Great.mono ..)
   | (with_reducible exact posthornlaw22_alive.mono ..)
   | (with_reducible exact zone_Local.mono ..)
   | (with_reducible exact zone_Moment.mono ..)
   | (with_reducible exact zone_Moments.mono ..)
   | (with_reducible exact LeO.refl ..)
   | (with_reducible exact LeO.none ..)
   | (with_reducible refine LeO.ite ?_ ?_)
   | (with_reducible refine LeO.bind ?_ (fun _ => ?_))
   | exact ih0 ..
   | exact posthornlaw22_Great.mono ..
   | exact posthornlaw22_alive.mono ..
   | exact zone_Local.mono ..
   | exact zone_Moment.mono ..
   | exact zone_Moments.mono ..
   | exact LeO.none ..
   | refine LeO.ite ?_ ?_
   | refine LeO.bind ?_ (fun _ => ?_)
set_option maxHeartbeats 8000000 in
set_option maxRecDepth 100000 in
theorem posthornlaw22_ZoneGaps.calls (k : Nat) (a0_0 : ByteArray) (a0_1 : Int) (A0_2 : Option Addr) (c0_2 : Nat) (l0_2 : List (S42)) (a1 : Int) (r : Bool) (w : World) (hr0_2 : Kd.C k42 w A0_2 l0_2.length l0_2) (hc0_2 : l0_2.length ≤ c0_2) (h : posthornlaw22_ZoneGaps.f k a0_0 a0_1 l0_2 a1 = some r) (hr_ : Aside0 (r = true) := by first | exact ⟨rfl⟩ | assumption) :
  Calls Try.prog 7 #[.agg #[.string a0_0, .int .i64 a0_1, .slice A0_2 l0_2.length c0_2], .int .i64 a1] w fun e w' => e = .returned (.bool r) ∧ Below w.heap.size w w' := by
 have hu24 := Try.underlying24
 have HR0_2 := Aside0.mk hr0_2
 have HC0_2 := Aside0.mk hc0_2
 clear hr0_2 hc0_2
 have HB := ad_ (Below.refl w.heap.size w)
 have H : ((posthornlaw22_Great.f k a0_0 a0_1 l0_2 a1).bind fun t395 => (if t395 = true then ((posthornlaw22_alive.f k).bind fun t396 => (some t396)) else ((zone_Moments.f k a0_0 a0_1 l0_2 a1).bind fun bt397 => ((zone_Moment.f k a0_0 a0_1 l0_2 a1).bind fun bt401 => (if bt397.2 = 0 then (if (bt397.1.length : Int) > 0 then (posthornlaw22_ZoneGaps.j0 k a1 bt401.1 true a0_0 a0_1 l0_2) else (posthornlaw22_ZoneGaps.j0 k a1 bt401.1 (bt401.2 != 0) a0_0 a0_1 l0_2)) else (posthornlaw22_ZoneGaps.j0 k a1 bt401.1 true a0_0 a0_1 l0_2)))))) = some r := h
 clear h
 replace H := Option.bind_eq_some_iff.mp H
 obtain ⟨t395, A30, H⟩ := H
 try dsimp only at H
 have A3 := Aside0.mk A30
 clear A30
 by_cases c4 : t395 = true
 ·subst c4
  have H1 := ifp_ H
  clear H
  have H := H1
  clear H1
  replace H := Option.bind_eq_some_iff.mp H
  obtain ⟨t396, A50, H⟩ := H
  try dsimp only at H
  have A5 := Aside0.mk A50
  clear A50
  obtain rfl := Option.some.inj H
  go_enter Try.func7, Try.ntmps7
  go_wp2_with (first | ((with_reducible refine gate_dst (N := 2) rfl ?_); (try (refine gate_guard (by rfl) ?_; dsimp only)); refine box_event ?hg (N := 2) ?hd (cs := #[.string a0_0, .int .i64 a0_1, .slice A0_2 l0_2.length c0_2]) (t := 24) ?hr ?_; (case hd => rfl); (case hg => rfl); (case hr => first | (go_simp; done) | (go_simp; rfl)); intro gb394 hg w6 hbox hb; have n0_ := ad_ (below_step bel_ hb); have n1_ := ad_ (hbox); have n2_ := ad_ ((by rw [hg]; exact (below_size bel_) : w.heap.size ≤ gb394)); have n3_ := ad_ ((by rw [hg]; exact (below_size bel_) : w.heap.size ≤ gb394)); clear HB; have HB := n0_; have BK394 := n1_; have GW394 := n2_; have GE394 := n3_; clear n0_ n1_ n2_ n3_; clear hb hbox hg; have hcz7_ := cells3_ BK394.out) | ((with_reducible refine gate_callee (f := 8) rfl ?_); refine goesL_ (some 13) rfl rfl Try.func8 (by kernel_rfl) rfl #[.agg #[.string a0_0, .int .i64 a0_1, .slice A0_2 l0_2.length c0_2], .int .i64 a1] rfl arg_ ?_; (with_reducible refine (posthornlaw22_Great.calls k a0_0 a0_1 _ _ l0_2 a1 true _ ?side1 ?side2 A3.out).mono ?_); (case side1 => exact cop_ (Kd.C_below HR0_2.out HB.out)); (case side2 => exact HC0_2.out); rintro e w8 ⟨rfl, hb⟩; refine ⟨_, rfl, ?_⟩; have n0_ := ad_ (blk_below (g := gb394) (o := .cells #[.string a0_0, .int .i64 a0_1, .slice A0_2 l0_2.length c0_2] 24 (0, 0)) (blo_ BK394.out) hb); have n1_ := ad_ (below_step belg_ hb); clear BK394; clear HB; have BK394 := n0_; have HB := n1_; clear n0_ n1_; (try clear hb); (try clear hb2); (try clear hk); (try clear hi)) | ((with_reducible refine gate_callee (f := 9) rfl ?_); refine goesL_ (some 14) rfl rfl Try.func9 (by kernel_rfl) rfl #[] rfl arg_ ?_; (with_reducible refine (posthornlaw22_alive.calls k  t396 _ A5.out).mono ?_); rintro e w9 ⟨rfl, hb⟩; refine ⟨_, rfl, ?_⟩; have n0_ := ad_ (blk_below (g := gb394) (o := .cells #[.string a0_0, .int .i64 a0_1, .slice A0_2 l0_2.length c0_2] 24 (0, 0)) (blo_ BK394.out) hb); have n1_ := ad_ (below_step belg_ hb); clear BK394; clear HB; have BK394 := n0_; have HB := n1_; clear n0_ n1_; (try clear hb); (try clear hb2); (try clear hk); (try clear hi)))
  go_ret
  exact ⟨ret_, belg_⟩
 ·replace c4 := Bool.eq_false_iff.mpr c4
  subst c4
  have H1 := ifn_ H
  clear H
  have H := H1
  clear H1
  replace H := Option.bind_eq_some_iff.mp H
  obtain ⟨⟨t397, t400⟩, A100, H⟩ := H
  try dsimp only at H
  have A10 := Aside0.mk A100
  clear A100
  replace H := Option.bind_eq_some_iff.mp H
  obtain ⟨⟨t401, t402⟩, A110, H⟩ := H
  try dsimp only at H
  have A11 := Aside0.mk A110
  clear A110
  have HC12 := Aside0.mk H
  clear H
  go_enter Try.func7, Try.ntmps7
  go_upto_region 5 with (first | ((with_reducible refine gate_dst (N := 2) rfl ?_); (try (refine gate_guard (by rfl) ?_; dsimp only)); refine box_event ?hg (N := 2) ?hd (cs := #[.string a0_0, .int .i64 a0_1, .slice A0_2 l0_2.length c0_2]) (t := 24) ?hr ?_; (case hd => rfl); (case hg => rfl); (case hr => first | (go_simp; done) | (go_simp; rfl)); intro gb394 hg w13 hbox hb; have n0_ := ad_ (below_step bel_ hb); have n1_ := ad_ (hbox); have n2_ := ad_ ((by rw [hg]; exact (below_size bel_) : w.heap.size ≤ gb394)); have n3_ := ad_ ((by rw [hg]; exact (below_size bel_) : w.heap.size ≤ gb394)); clear HB; have HB := n0_; have BK394 := n1_; have GW394 := n2_; have GE394 := n3_; clear n0_ n1_ n2_ n3_; clear hb hbox hg; have hcz14_ := cells3_ BK394.out) | ((with_reducible refine gate_callee (f := 8) rfl ?_); refine goesL_ (some 13) rfl rfl Try.func8 (by kernel_rfl) rfl #[.agg #[.string a0_0, .int .i64 a0_1, .slice A0_2 l0_2.length c0_2], .int .i64 a1] rfl arg_ ?_; (with_reducible refine (posthornlaw22_Great.calls k a0_0 a0_1 _ _ l0_2 a1 false _ ?side1 ?side2 A3.out).mono ?_); (case side1 => exact cop_ (Kd.C_below HR0_2.out HB.out)); (case side2 => exact HC0_2.out); rintro e w15 ⟨rfl, hb⟩; refine ⟨_, rfl, ?_⟩; have n0_ := ad_ (blk_below (g := gb394) (o := .cells #[.string a0_0, .int .i64 a0_1, .slice A0_2 l0_2.length c0_2] 24 (0, 0)) (blo_ BK394.out) hb); have n1_ := ad_ (below_step belg_ hb); clear BK394; clear HB; have BK394 := n0_; have HB := n1_; clear n0_ n1_; (try clear hb); (try clear hb2); (try clear hk); (try clear hi); have hcz16_ := cells3_ BK394.out) | ((with_reducible refine gate_callee (f := 17) rfl ?_); refine goesL_ (some 18) rfl rfl Try.func17 (by kernel_rfl) rfl #[.agg #[.string a0_0, .int .i64 a0_1, .slice A0_2 l0_2.length c0_2], .int .i64 a1] rfl arg_ ?_; (with_reducible refine (zone_Moments.calls k a0_0 a0_1 _ _ l0_2 a1 t397 t400 _ ?side1 ?side2 A10.out).mono ?_); (case side1 => exact cop_ (Kd.C_below HR0_2.out HB.out)); (case side2 => exact HC0_2.out); rintro e w17 ⟨v398, rfl, ho0, hb⟩; refine ⟨_, rfl, ?_⟩; have n0_ := ad_ (Kd.R_lower ho0 (below_size belg_)); have n1_ := ad_ (blk_below (g := gb394) (o := .cells #[.string a0_0, .int .i64 a0_1, .slice A0_2 l0_2.length c0_2] 24 (0, 0)) (blo_ BK394.out) hb); have n2_ := ad_ (below_step belg_ hb); clear BK394; clear HB; have HO399 := n0_; have BK394 := n1_; have HB := n2_; clear n0_ n1_ n2_; (try clear hb); (try clear hb2); (try clear hk); (try clear hi); (try clear ho0); have hcz18_ := cells3_ BK394.out) | ((with_reducible refine gate_callee (f := 19) rfl ?_); refine goesL_ (some 24) rfl rfl Try.func19 (by kernel_rfl) rfl #[.agg #[.string a0_0, .int .i64 a0_1, .slice A0_2 l0_2.length c0_2], .int .i64 a1] rfl arg_ ?_; (with_reducible refine (zone_Moment.calls k a0_0 a0_1 _ _ l0_2 a1 t401 t402 _ ?side1 ?side2 A11.out).mono ?_); (case side1 => exact cop_ (Kd.C_below HR0_2.out HB.out)); (case side2 => exact HC0_2.out); rintro e w19 ⟨rfl, hb⟩; refine ⟨_, rfl, ?_⟩; have n0_ := ad_ (Kd.R_below (rod_ HO399) hb); have n1_ := ad_ (blk_below (g := gb394) (o := .cells #[.string a0_0, .int .i64 a0_1, .slice A0_2 l0_2.length c0_2] 24 (0, 0)) (blo_ BK394.out) hb); have n2_ := ad_ (below_step belg_ hb); clear HO399; clear BK394; clear HB; have HO399 := n0_; have BK394 := n1_; have HB := n2_; clear n0_ n1_ n2_; (try clear hb); (try clear hb2); (try clear hk); (try clear hi)))
  (try simp only [Act.put, List.setIfInBounds_toArray, List.set_cons_zero, List.set_cons_succ])
  go_cut [37] (fun v37 wc => ∃ (kq : Nat) (x37_11 : Bool), v37 = .bool x37_11 ∧ Aside0 (posthornlaw22_ZoneGaps.j0 kq a1 t401 x37_11 a0_0 a0_1 l0_2 = some r) ∧ Aside0 (kq ≤ k) ∧ Aside0 (wc.heap[gb394]? = some (.cells #[.string a0_0, .int .i64 a0_1, (.slice A0_2 l0_2.length c0_2)] 24 (0, 0))) ∧ Aside0 (Below w.heap.size w wc))
  case first =>
   have H := HC12.out
   clear HC12
   by_cases c20 : t400 = 0
   ·rw [if_pos c20] at H
    have c20b0 : (t400 == 0) = true := beq_iff_eq.mpr c20
    have c20b1 : (t400 != 0) = false := bne_eq_false_iff_eq.mpr c20
    clear c20
    (first | rw [c20b0] | (simp only [i64_w, i32_w]; rw [c20b0]) | skip)
    by_cases c21 : (t397.length : Int) > 0
    ·rw [if_pos c21] at H
     have c21b0 : decide (0 < (t397.length : Int)) = true := decide_eq_true c21
     have c21b1 : decide (0 < t397.length) = true := decide_eq_true (by omega)
     clear c21
     have H' := Aside0.mk H
     clear H
     obtain ⟨Ao22, co22, eo22⟩ := Kd.R_slice HO399.out
     subst eo22
     go_wp2
     go_meet
     case rel => exact ⟨_, (true), val_, H', ⟨by first | omega | exact Nat.le_refl _⟩, ⟨blo_ BK394.out⟩, ⟨belg_⟩⟩
    ·rw [if_neg c21] at H
     have c21b0 : decide (0 < (t397.length : Int)) = false := decide_eq_false c21
     have c21b1 : decide (0 < t397.length) = false := decide_eq_false (by omega)
     clear c21
     have H' := Aside0.mk H
     clear H
     obtain ⟨Ao23, co23, eo23⟩ := Kd.R_slice HO399.out
     subst eo23
     go_wp2
     go_meet
     case rel => exact ⟨_, ((t402 != 0)), val_, H', ⟨by first | omega | exact Nat.le_refl _⟩, ⟨blo_ BK394.out⟩, ⟨belg_⟩⟩
   ·rw [if_neg c20] at H
    have c20b0 : (t400 == 0) = false := beq_eq_false_iff_ne.mpr c20
    have c20b1 : (t400 != 0) = true := bne_iff_ne.mpr c20
    (first | rw [c20b0] | (simp only [i64_w, i32_w]; rw [c20b0]) | skip)
    have H' := Aside0.mk H
    clear H
    go_wp2
    go_meet
    case rel => exact ⟨_, (true), val_, H', ⟨by first | omega | exact Nat.le_refl _⟩, ⟨blo_ BK394.out⟩, ⟨belg_⟩⟩
  case rest =>
   clear HC12
   try clear c1
   try clear c2
   try clear p2
   try clear c4
   try clear c7
   try clear c8
   try clear c9
   try clear c17
   try clear c19
   try clear c20
   try clear c20b0
   try clear c20b1
   try clear c21
   try clear c21b0
   try clear c21b1
   try clear hcz14_
   try clear hcz16_
   try clear hcz18_
   try clear hcz7_
   obtain ⟨kq, x37_11, rfl, HA, HJ11, BK394, HB⟩ := hcut
   cases kq with
   | zero => exact absurd HA.out (by simp [posthornlaw22_ZoneGaps.j0])
   | succ kj11 =>
    have H := HA.out
    clear HA
    simp only [posthornlaw22_ZoneGaps.j0] at H
    by_cases c24 : x37_11 = true
    ·subst c24
     have H1 := ifp_ H
     clear H
     have H := H1
     clear H1
     replace H := Option.bind_eq_some_iff.mp H
     obtain ⟨t403, A250, H⟩ := H
     try dsimp only at H
     have A25 := Aside0.mk A250
     clear A250
     obtain rfl := Option.some.inj H
     go_wp2_with (first | ((with_reducible refine gate_callee (f := 9) rfl ?_); refine goesL_ (some 38) rfl rfl Try.func9 (by kernel_rfl) rfl #[] rfl arg_ ?_; (with_reducible refine (posthornlaw22_alive.calls kj11  t403 _ A25.out).mono ?_); rintro e w26 ⟨rfl, hb⟩; refine ⟨_, rfl, ?_⟩; have n0_ := ad_ (blk_below (g := gb394) (o := .cells #[.string a0_0, .int .i64 a0_1, .slice A0_2 l0_2.length c0_2] 24 (0, 0)) (blo_ BK394.out) hb); have n1_ := ad_ (below_step belg_ hb); clear BK394; clear HB; have BK394 := n0_; have HB := n1_; clear n0_ n1_; (try clear hb); (try clear hb2); (try clear hk); (try clear hi)))
     go_ret
     exact ⟨ret_, belg_⟩
    ·replace c24 := Bool.eq_false_iff.mpr c24
     subst c24
     have H1 := ifn_ H
     clear H
     have H := H1
     clear H1
     replace H := Option.bind_eq_some_iff.mp H
     obtain ⟨⟨t404, t405⟩, A270, H⟩ := H
     try dsimp only at H
     have A27 := Aside0.mk A270
     clear A270
     replace H := Option.bind_eq_some_iff.mp H
     obtain ⟨t406, A280, H⟩ := H
     try dsimp only at H
     have A28 := Aside0.mk A280
     clear A280
     by_cases c29 : t406 = true
     ·subst c29
      have H1 := ifp_ H
      clear H
      have H := H1
      clear H1
      by_cases c30 : t405 = 0
      ·rw [if_pos c30] at H
       have c30b0 : (t405 == 0) = true := beq_iff_eq.mpr c30
       have c30b1 : (t405 != 0) = false := bne_eq_false_iff_eq.mpr c30
       clear c30
       obtain rfl := Option.some.inj H
       have hcz31_ := cells3_ BK394.out
       go_wp2_with (first | ((with_reducible refine gate_callee (f := 13) rfl ?_); refine goesL_ (some 42) rfl rfl Try.func13 (by kernel_rfl) rfl #[.agg #[.string a0_0, .int .i64 a0_1, .slice A0_2 l0_2.length c0_2], .int .i64 t401] rfl arg_ ?_; (with_reducible refine (zone_Local.calls kj11 a0_0 a0_1 _ _ l0_2 t401 t404 t405 _ ?side1 ?side2 A27.out).mono ?_); (case side1 => exact cop_ (Kd.C_below HR0_2.out HB.out)); (case side2 => exact HC0_2.out); rintro e w32 ⟨rfl, hb⟩; refine ⟨_, rfl, ?_⟩; have n0_ := ad_ (blk_below (g := gb394) (o := .cells #[.string a0_0, .int .i64 a0_1, .slice A0_2 l0_2.length c0_2] 24 (0, 0)) (blo_ BK394.out) hb); have n1_ := ad_ (below_step belg_ hb); clear BK394; clear HB; have BK394 := n0_; have HB := n1_; clear n0_ n1_; (try clear hb); (try clear hb2); (try clear hk); (try clear hi)) | ((with_reducible refine gate_callee (f := 9) rfl ?_); refine goesL_ (some 45) rfl rfl Try.func9 (by kernel_rfl) rfl #[] rfl arg_ ?_; (with_reducible refine (posthornlaw22_alive.calls kj11  true _ A28.out).mono ?_); rintro e w33 ⟨rfl, hb⟩; refine ⟨_, rfl, ?_⟩; have n0_ := ad_ (blk_below (g := gb394) (o := .cells #[.string a0_0, .int .i64 a0_1, .slice A0_2 l0_2.length c0_2] 24 (0, 0)) (blo_ BK394.out) hb); have n1_ := ad_ (below_step belg_ hb); clear BK394; clear HB; have BK394 := n0_; have HB := n1_; clear n0_ n1_; (try clear hb); (try clear hb2); (try clear hk); (try clear hi)))
       go_ret
       exact ⟨ret_, belg_⟩
      ·rw [if_neg c30] at H
       have c30b0 : (t405 == 0) = false := beq_eq_false_iff_ne.mpr c30
       have c30b1 : (t405 != 0) = true := bne_iff_ne.mpr c30
       obtain rfl := Option.some.inj H
       have hcz34_ := cells3_ BK394.out
       go_wp2_with (first | ((with_reducible refine gate_callee (f := 13) rfl ?_); refine goesL_ (some 42) rfl rfl Try.func13 (by kernel_rfl) rfl #[.agg #[.string a0_0, .int .i64 a0_1, .slice A0_2 l0_2.length c0_2], .int .i64 t401] rfl arg_ ?_; (with_reducible refine (zone_Local.calls kj11 a0_0 a0_1 _ _ l0_2 t401 t404 t405 _ ?side1 ?side2 A27.out).mono ?_); (case side1 => exact cop_ (Kd.C_below HR0_2.out HB.out)); (case side2 => exact HC0_2.out); rintro e w35 ⟨rfl, hb⟩; refine ⟨_, rfl, ?_⟩; have n0_ := ad_ (blk_below (g := gb394) (o := .cells #[.string a0_0, .int .i64 a0_1, .slice A0_2 l0_2.length c0_2] 24 (0, 0)) (blo_ BK394.out) hb); have n1_ := ad_ (below_step belg_ hb); clear BK394; clear HB; have BK394 := n0_; have HB := n1_; clear n0_ n1_; (try clear hb); (try clear hb2); (try clear hk); (try clear hi)) | ((with_reducible refine gate_callee (f := 9) rfl ?_); refine goesL_ (some 45) rfl rfl Try.func9 (by kernel_rfl) rfl #[] rfl arg_ ?_; (with_reducible refine (posthornlaw22_alive.calls kj11  true _ A28.out).mono ?_); rintro e w36 ⟨rfl, hb⟩; refine ⟨_, rfl, ?_⟩; have n0_ := ad_ (blk_below (g := gb394) (o := .cells #[.string a0_0, .int .i64 a0_1, .slice A0_2 l0_2.length c0_2] 24 (0, 0)) (blo_ BK394.out) hb); have n1_ := ad_ (below_step belg_ hb); clear BK394; clear HB; have BK394 := n0_; have HB := n1_; clear n0_ n1_; (try clear hb); (try clear hb2); (try clear hk); (try clear hi)))
       go_ret
       exact ⟨ret_, belg_⟩
     ·replace c29 := Bool.eq_false_iff.mpr c29
      subst c29
      have H1 := ifn_ H
      clear H
      have H := H1
      clear H1
      exact absurd (Option.some.inj H) (by rw [hr_.out]; decide)

end Go.Proofs.Ytlplmkllmgdifaa.PZ

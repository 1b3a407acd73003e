-- Written by a program of the session (wip/tools).
import Derived.Test.YtlplmkllmgdifaaPZx0
namespace Go.Proofs.Ytlplmkllmgdifaa.PZ
open Go.RowKit Go.Proofs.YtlplmkllmgdifaaW.PrintWords Go.Proofs.YtlplmkllmgdifaaW.PrintLast Go.Proofs.YtlplmkllmgdifaaW.PrintMore
attribute [local go_sem] max2_int min2_int max_two min_two max_three min_three max_four min_four   -- for this text's walks alone
set_option linter.unusedVariables false
set_option linter.unusedSimpArgs false

/-! ### posthornlaw21_Great: function 22 -/
def posthornlaw21_Great.f (a0_0 : Int) (a0_1 : Int) (a0_2 : Int) (a0_3 : Int) (l0_4 : List Int) (l0_5 : List Int) (l0_6 : List (S79)) : Option (Bool) := if (wrap64 ((l0_4.length : Int) + (l0_5.length : Int))) > 100 then (some true) else (some (decide ((l0_6.length : Int) > 100)))
set_option maxHeartbeats 8000000 in
set_option maxRecDepth 100000 in
theorem posthornlaw21_Great.calls (a0_0 : Int) (a0_1 : Int) (a0_2 : Int) (a0_3 : Int) (A0_4 : Option Addr) (c0_4 : Nat) (l0_4 : List Int) (A0_5 : Option Addr) (c0_5 : Nat) (l0_5 : List Int) (A0_6 : Option Addr) (c0_6 : Nat) (l0_6 : List (S79)) (r : Bool) (w : World) (hr0_4 : Kd.C (Kd.int .i64) w A0_4 l0_4.length l0_4) (hc0_4 : l0_4.length ≤ c0_4) (hr0_5 : Kd.C (Kd.int .i64) w A0_5 l0_5.length l0_5) (hc0_5 : l0_5.length ≤ c0_5) (hr0_6 : Kd.C k79 w A0_6 l0_6.length l0_6) (hc0_6 : l0_6.length ≤ c0_6) (h : posthornlaw21_Great.f a0_0 a0_1 a0_2 a0_3 l0_4 l0_5 l0_6 = some r) :
  Calls Try.prog 22 #[.agg #[.int .i64 a0_0, .int .i64 a0_1, .int .i64 a0_2, .int .i64 a0_3, .slice A0_4 l0_4.length c0_4, .slice A0_5 l0_5.length c0_5, .slice A0_6 l0_6.length c0_6]] w fun e w' => e = .returned (.bool r) ∧ Below w.heap.size w w' := by
 have hu40 := Try.underlying40
 have HR0_4 := Aside0.mk hr0_4
 have HC0_4 := Aside0.mk hc0_4
 clear hr0_4 hc0_4
 have HR0_5 := Aside0.mk hr0_5
 have HC0_5 := Aside0.mk hc0_5
 clear hr0_5 hc0_5
 have HR0_6 := Aside0.mk hr0_6
 have HC0_6 := Aside0.mk hc0_6
 clear hr0_6 hc0_6
 have HB := ad_ (Below.refl w.heap.size w)
 have H : (if (wrap64 ((l0_4.length : Int) + (l0_5.length : Int))) > 100 then (some true) else (some (decide ((l0_6.length : Int) > 100)))) = some r := h
 clear h
 by_cases c2 : (wrap64 ((l0_4.length : Int) + (l0_5.length : Int))) > 100
 ·rw [if_pos c2] at H
  have c2b0 : decide (100 < (wrap64 ((l0_4.length : Int) + (l0_5.length : Int)))) = true := decide_eq_true c2
  clear c2
  obtain rfl := Option.some.inj H
  go_enter Try.func22, Try.ntmps22
  go_wp2_with (first | ((with_reducible refine gate_dst (N := 1) rfl ?_); (try (refine gate_guard (by rfl) ?_; dsimp only)); refine box_event ?hg (N := 1) ?hd (cs := #[.int .i64 a0_0, .int .i64 a0_1, .int .i64 a0_2, .int .i64 a0_3, .slice A0_4 l0_4.length c0_4, .slice A0_5 l0_5.length c0_5, .slice A0_6 l0_6.length c0_6]) (t := 40) ?hr ?_; (case hd => rfl); (case hg => rfl); (case hr => first | (go_simp; done) | (go_simp; rfl)); intro gb101 hg w3 hbox hb; have n0_ := ad_ (below_step bel_ hb); have n1_ := ad_ (hbox); have n2_ := ad_ ((by rw [hg]; exact (below_size bel_) : w.heap.size ≤ gb101)); have n3_ := ad_ ((by rw [hg]; exact (below_size bel_) : w.heap.size ≤ gb101)); clear HB; have HB := n0_; have BK101 := n1_; have GW101 := n2_; have GE101 := n3_; clear n0_ n1_ n2_ n3_; clear hb hbox hg; have hcz4_ := cells7_ BK101.out))
  go_ret
  exact ⟨ret_, belg_⟩
 ·rw [if_neg c2] at H
  have c2b0 : decide (100 < (wrap64 ((l0_4.length : Int) + (l0_5.length : Int)))) = false := decide_eq_false c2
  clear c2
  obtain rfl := Option.some.inj H
  go_enter Try.func22, Try.ntmps22
  go_wp2_with (first | ((with_reducible refine gate_dst (N := 1) rfl ?_); (try (refine gate_guard (by rfl) ?_; dsimp only)); refine box_event ?hg (N := 1) ?hd (cs := #[.int .i64 a0_0, .int .i64 a0_1, .int .i64 a0_2, .int .i64 a0_3, .slice A0_4 l0_4.length c0_4, .slice A0_5 l0_5.length c0_5, .slice A0_6 l0_6.length c0_6]) (t := 40) ?hr ?_; (case hd => rfl); (case hg => rfl); (case hr => first | (go_simp; done) | (go_simp; rfl)); intro gb101 hg w5 hbox hb; have n0_ := ad_ (below_step bel_ hb); have n1_ := ad_ (hbox); have n2_ := ad_ ((by rw [hg]; exact (below_size bel_) : w.heap.size ≤ gb101)); have n3_ := ad_ ((by rw [hg]; exact (below_size bel_) : w.heap.size ≤ gb101)); clear HB; have HB := n0_; have BK101 := n1_; have GW101 := n2_; have GE101 := n3_; clear n0_ n1_ n2_ n3_; clear hb hbox hg; have hcz6_ := cells7_ BK101.out))
  go_ret
  exact ⟨ret_, belg_⟩

/-! ### posthornlaw22_Great: function 8 -/
mutual
def posthornlaw22_Great.j0 : Nat → Bool → ByteArray → Int → List (S42) → Option (Bool)
 | 0, _, _, _, _ => none
 | k + 1, x19, x103000, x103001, x103002 => if x19 = true then (some true) else (posthornlaw22_Great.l0 k 0 x103000 x103001 x103002)
def posthornlaw22_Great.l0 : Nat → Int → ByteArray → Int → List (S42) → Option (Bool)
 | 0, _, _, _, _ => none
 | k + 1, x5, x103000, x103001, x103002 => if x5 < (x103002.length : Int) then (if 0 ≤ x5 then ((posthornlaw21_Great.f ((rd_T42 x103002 x5).f4.f0) ((rd_T42 x103002 x5).f4.f1) ((rd_T42 x103002 x5).f4.f2) ((rd_T42 x103002 x5).f4.f3) ((rd_T42 x103002 x5).f4.f4) ((rd_T42 x103002 x5).f4.f5) ((rd_T42 x103002 x5).f4.f6)).bind fun t104 => (if t104 = true then (some true) else (posthornlaw22_Great.l0 k (wrap64 (x5 + 1)) x103000 x103001 x103002))) else (none)) else (some false)
end
def posthornlaw22_Great.f (k : Nat) (a0_0 : ByteArray) (a0_1 : Int) (l0_2 : List (S42)) (a1 : Int) : Option (Bool) := if (a0_0.size : Int) > 300 then (posthornlaw22_Great.j0 k true a0_0 a0_1 l0_2) else (if (l0_2.length : Int) > 20 then (posthornlaw22_Great.j0 k true a0_0 a0_1 l0_2) else (posthornlaw22_Great.j0 k (decide (a1 > 17179869184)) a0_0 a0_1 l0_2))
theorem posthornlaw22_Great.mono_l : ∀ k, (∀ y0 y1 y2 y3, LeO (posthornlaw22_Great.j0 k y0 y1 y2 y3) (posthornlaw22_Great.j0 (k + 1) y0 y1 y2 y3)) ∧ (∀ y0 y1 y2 y3, LeO (posthornlaw22_Great.l0 k y0 y1 y2 y3) (posthornlaw22_Great.l0 (k + 1) y0 y1 y2 y3))
 | 0 => ⟨fun _ _ _ _ r h => by simp [posthornlaw22_Great.j0] at h, fun _ _ _ _ r h => by simp [posthornlaw22_Great.l0] at h⟩
 | k + 1 => by
  obtain ⟨ih0, ih1⟩ := posthornlaw22_Great.mono_l k
  refine ⟨?_, ?_⟩
  all_goals
   intros
   first | unfold posthornlaw22_Great.j0 | unfold posthornlaw22_Great.l0
   repeat' first
   | (with_reducible exact ih0 ..)
   | (with_reducible exact ih1 ..)
   | (with_reducible exact LeO.refl ..)
   | (with_reducible exact LeO.none ..)
   | (with_reducible refine LeO.ite ?_ ?_)
   | (with_reducible refine LeO.bind ?_ (fun _ => ?_))
   | exact ih0 ..
   | exact ih1 ..
   | exact LeO.none ..
   | refine LeO.ite ?_ ?_
   | refine LeO.bind ?_ (fun _ => ?_)
theorem posthornlaw22_Great.mono : ∀ a0 a1 a2 a3 k, LeO (posthornlaw22_Great.f k a0 a1 a2 a3) (posthornlaw22_Great.f (k + 1) a0 a1 a2 a3) := by
 intro a0 a1 a2 a3 k
 obtain ⟨ih0, ih1⟩ := posthornlaw22_Great.mono_l k
 unfold posthornlaw22_Great.f
 repeat' first
   | (with_reducible exact ih0 ..)
   | (with_reducible exact ih1 ..)
   | (with_reducible exact LeO.refl ..)
   | (with_reducible exact LeO.none ..)
   | (with_reducible refine LeO.ite ?_ ?_)
   | (with_reducible refine LeO.bind ?_ (fun _ => ?_))
   | exact ih0 ..
   | exact ih1 ..
   | exact LeO.none ..
   | refine LeO.ite ?_ ?_
   | refine LeO.bind ?_ (fun _ => ?_)
set_option maxHeartbeats 8000000 in
set_option maxRecDepth 100000 in
theorem posthornlaw22_Great.calls (k : Nat) (a0_0 : ByteArray) (a0_1 : Int) (A0_2 : Option Addr) (c0_2 : Nat) (l0_2 : List (S42)) (a1 : Int) (r : Bool) (w : World) (hr0_2 : Kd.C k42 w A0_2 l0_2.length l0_2) (hc0_2 : l0_2.length ≤ c0_2) (h : posthornlaw22_Great.f k a0_0 a0_1 l0_2 a1 = some r) :
  Calls Try.prog 8 #[.agg #[.string a0_0, .int .i64 a0_1, .slice A0_2 l0_2.length c0_2], .int .i64 a1] w fun e w' => e = .returned (.bool r) ∧ Below w.heap.size w w' := by
 have hu24 := Try.underlying24
 have hu40 := Try.underlying40
 have HR0_2 := Aside0.mk hr0_2
 have HC0_2 := Aside0.mk hc0_2
 clear hr0_2 hc0_2
 have HB := ad_ (Below.refl w.heap.size w)
 have H : (if (a0_0.size : Int) > 300 then (posthornlaw22_Great.j0 k true a0_0 a0_1 l0_2) else (if (l0_2.length : Int) > 20 then (posthornlaw22_Great.j0 k true a0_0 a0_1 l0_2) else (posthornlaw22_Great.j0 k (decide (a1 > 17179869184)) a0_0 a0_1 l0_2))) = some r := h
 clear h
 have HC3 := Aside0.mk H
 clear H
 go_enter Try.func8, Try.ntmps8
 go_upto_region 1 with (first | ((with_reducible refine gate_dst (N := 2) rfl ?_); (try (refine gate_guard (by rfl) ?_; dsimp only)); refine box_event ?hg (N := 2) ?hd (cs := #[.string a0_0, .int .i64 a0_1, .slice A0_2 l0_2.length c0_2]) (t := 24) ?hr ?_; (case hd => rfl); (case hg => rfl); (case hr => first | (go_simp; done) | (go_simp; rfl)); intro gb102 hg w4 hbox hb; have n0_ := ad_ (below_step bel_ hb); have n1_ := ad_ (hbox); have n2_ := ad_ ((by rw [hg]; exact (below_size bel_) : w.heap.size ≤ gb102)); have n3_ := ad_ ((by rw [hg]; exact (below_size bel_) : w.heap.size ≤ gb102)); clear HB; have HB := n0_; have BK102 := n1_; have GW102 := n2_; have GE102 := n3_; clear n0_ n1_ n2_ n3_; clear hb hbox hg))
 (try simp only [Act.put, List.setIfInBounds_toArray, List.set_cons_zero, List.set_cons_succ])
 go_cut [19] (fun v19 wc => ∃ (kq : Nat) (x19_2 : Bool), v19 = .bool x19_2 ∧ Aside0 (posthornlaw22_Great.j0 kq x19_2 a0_0 a0_1 l0_2 = some r) ∧ Aside0 (kq ≤ k) ∧ Aside0 (wc.heap[gb102]? = some (.cells #[.string a0_0, .int .i64 a0_1, (.slice A0_2 l0_2.length c0_2)] 24 (0, 0))) ∧ Aside0 (Below w.heap.size w wc))
 case first =>
  have H := HC3.out
  clear HC3
  by_cases c5 : (a0_0.size : Int) > 300
  ·rw [if_pos c5] at H
   have c5b0 : decide (300 < (a0_0.size : Int)) = true := decide_eq_true c5
   have c5b1 : decide (300 < a0_0.size) = true := decide_eq_true (by omega)
   clear c5
   (first | rw [c5b0] | (simp only [i64_w, i32_w]; rw [c5b0]) | skip)
   have H' := Aside0.mk H
   clear H
   have hcz6_ := cells3_ BK102.out
   go_wp2
   go_meet
   case rel => exact ⟨_, (true), val_, H', ⟨by first | omega | exact Nat.le_refl _⟩, ⟨blo_ BK102.out⟩, ⟨belg_⟩⟩
  ·rw [if_neg c5] at H
   have c5b0 : decide (300 < (a0_0.size : Int)) = false := decide_eq_false c5
   have c5b1 : decide (300 < a0_0.size) = false := decide_eq_false (by omega)
   clear c5
   (first | rw [c5b0] | (simp only [i64_w, i32_w]; rw [c5b0]) | skip)
   by_cases c7 : (l0_2.length : Int) > 20
   ·rw [if_pos c7] at H
    have c7b0 : decide (20 < (l0_2.length : Int)) = true := decide_eq_true c7
    have c7b1 : decide (20 < l0_2.length) = true := decide_eq_true (by omega)
    clear c7
    have H' := Aside0.mk H
    clear H
    have hcz8_ := cells3_ BK102.out
    go_wp2
    go_meet
    case rel => exact ⟨_, (true), val_, H', ⟨by first | omega | exact Nat.le_refl _⟩, ⟨blo_ BK102.out⟩, ⟨belg_⟩⟩
   ·rw [if_neg c7] at H
    have c7b0 : decide (20 < (l0_2.length : Int)) = false := decide_eq_false c7
    have c7b1 : decide (20 < l0_2.length) = false := decide_eq_false (by omega)
    clear c7
    have H' := Aside0.mk H
    clear H
    have hcz9_ := cells3_ BK102.out
    go_wp2
    go_meet
    case rel => exact ⟨_, (decide (a1 > 17179869184)), val_, H', ⟨by first | omega | exact Nat.le_refl _⟩, ⟨blo_ BK102.out⟩, ⟨belg_⟩⟩
 case rest =>
  clear HC3
  try clear p2
  try clear c5
  try clear c5b0
  try clear c5b1
  try clear c7
  try clear c7b0
  try clear c7b1
  try clear c8
  try clear hcz6_
  try clear hcz8_
  try clear hcz9_
  obtain ⟨kq, x19_2, rfl, HA, HJ2, BK102, HB⟩ := hcut
  cases kq with
  | zero => exact absurd HA.out (by simp [posthornlaw22_Great.j0])
  | succ kj2 =>
   have H := HA.out
   clear HA
   simp only [posthornlaw22_Great.j0] at H
   by_cases c10 : x19_2 = true
   ·subst c10
    have H1 := ifp_ H
    clear H
    have H := H1
    clear H1
    obtain rfl := Option.some.inj H
    go_wp2
    go_ret
    exact ⟨ret_, belg_⟩
   ·replace c10 := Bool.eq_false_iff.mpr c10
    subst c10
    have H1 := ifn_ H
    clear H
    have H := H1
    clear H1
    have H' := Aside0.mk H
    clear H
    go_wp2
    go_loopg [5] kj2 (fun kq v5 w' => ∃ (x5_2 : Int), v5 = .int .i64 x5_2 ∧ Aside0 (posthornlaw22_Great.l0 kq x5_2 a0_0 a0_1 l0_2 = some r) ∧ Aside0 (kq ≤ kj2) ∧ Aside0 (w'.heap[gb102]? = some (.cells #[.string a0_0, .int .i64 a0_1, (.slice A0_2 l0_2.length c0_2)] 24 (0, 0))) ∧ Aside0 (Below w.heap.size w w'))
    case atStart => exact ⟨(0), val_, H', ⟨Nat.le_refl _⟩, ⟨blo_ BK102.out⟩, ⟨belg_⟩⟩
    case round =>
     clear H'
     try clear c1
     try clear p2
     try clear c5
     try clear c5b0
     try clear c5b1
     try clear c7
     try clear c7b0
     try clear c7b1
     try clear c8
     try clear c10
     try clear hcz6_
     try clear hcz8_
     try clear hcz9_
     try clear p2
     obtain ⟨x5_2, rfl, HA, HK2, BK102, HB⟩ := hrel
     cases gk with
     | zero => exact absurd HA.out (by simp [posthornlaw22_Great.l0])
     | succ k2 =>
      have H := HA.out
      clear HA
      simp only [posthornlaw22_Great.l0] at H
      by_cases c11 : x5_2 < (l0_2.length : Int)
      ·rw [if_pos c11] at H
       have c11b0 : decide (x5_2 < (l0_2.length : Int)) = true := decide_eq_true c11
       clear c11
       by_cases c12 : 0 ≤ x5_2
       ·rw [if_pos c12] at H
        have c12b0 : decide (0 ≤ x5_2) = true := decide_eq_true c12
        clear c12
        replace H := Option.bind_eq_some_iff.mp H
        obtain ⟨t104, A130, H⟩ := H
        try dsimp only at H
        have A13 := Aside0.mk A130
        clear A130
        by_cases c14 : t104 = true
        ·subst c14
         have H1 := ifp_ H
         clear H
         have H := H1
         clear H1
         obtain rfl := Option.some.inj H
         have hcz15_ := cells3_ BK102.out
         have p103 : 0 ≤ (x5_2 : Int) := dec_
         have q103 : x5_2 < (l0_2.length : Int) := dec_
         obtain ⟨ad103, A103_8, c103_8, A103_9, c103_9, A103_10, c103_10, e103, hx103_0, hx103_1, hx103_2, hx103_3, hx103_4, hx103_5, hx103_6, hx103_7, hx103_8, hx103_9, hx103_10, hl103_8, hi103_8, hl103_9, hi103_9, hl103_10, hi103_10⟩ := at_T42 HR0_2.out x5_2 p103 q103
         cases e103
         replace hx103_0 := (HB.out.cell (World.block_lt_of_cell? w _ hx103_0)).trans hx103_0
         replace hx103_1 := (HB.out.cell (World.block_lt_of_cell? w _ hx103_1)).trans hx103_1
         replace hx103_2 := (HB.out.cell (World.block_lt_of_cell? w _ hx103_2)).trans hx103_2
         replace hx103_3 := (HB.out.cell (World.block_lt_of_cell? w _ hx103_3)).trans hx103_3
         replace hx103_4 := (HB.out.cell (World.block_lt_of_cell? w _ hx103_4)).trans hx103_4
         replace hx103_5 := (HB.out.cell (World.block_lt_of_cell? w _ hx103_5)).trans hx103_5
         replace hx103_6 := (HB.out.cell (World.block_lt_of_cell? w _ hx103_6)).trans hx103_6
         replace hx103_7 := (HB.out.cell (World.block_lt_of_cell? w _ hx103_7)).trans hx103_7
         replace hx103_8 := (HB.out.cell (World.block_lt_of_cell? w _ hx103_8)).trans hx103_8
         replace hx103_9 := (HB.out.cell (World.block_lt_of_cell? w _ hx103_9)).trans hx103_9
         replace hx103_10 := (HB.out.cell (World.block_lt_of_cell? w _ hx103_10)).trans hx103_10
         have HR103_8 := Aside0.mk hi103_8
         have HC103_8 := Aside0.mk hl103_8
         clear hi103_8 hl103_8
         have HR103_9 := Aside0.mk hi103_9
         have HC103_9 := Aside0.mk hl103_9
         clear hi103_9 hl103_9
         have HR103_10 := Aside0.mk hi103_10
         have HC103_10 := Aside0.mk hl103_10
         clear hi103_10 hl103_10
         replace p103 := eq_true p103
         replace q103 := eq_true q103
         go_wp2_with (first | ((with_reducible refine gate_callee (f := 22) rfl ?_); refine goesL_ (some 33) rfl rfl Try.func22 (by kernel_rfl) rfl #[.agg #[.int .i64 ((rd_T42 l0_2 x5_2).f4.f0), .int .i64 ((rd_T42 l0_2 x5_2).f4.f1), .int .i64 ((rd_T42 l0_2 x5_2).f4.f2), .int .i64 ((rd_T42 l0_2 x5_2).f4.f3), .slice A103_8 ((rd_T42 l0_2 x5_2).f4.f4).length c103_8, .slice A103_9 ((rd_T42 l0_2 x5_2).f4.f5).length c103_9, .slice A103_10 ((rd_T42 l0_2 x5_2).f4.f6).length c103_10]] rfl arg_ ?_; (with_reducible refine (posthornlaw21_Great.calls ((rd_T42 l0_2 x5_2).f4.f0) ((rd_T42 l0_2 x5_2).f4.f1) ((rd_T42 l0_2 x5_2).f4.f2) ((rd_T42 l0_2 x5_2).f4.f3) _ _ ((rd_T42 l0_2 x5_2).f4.f4) _ _ ((rd_T42 l0_2 x5_2).f4.f5) _ _ ((rd_T42 l0_2 x5_2).f4.f6) true _ ?side1 ?side2 ?side3 ?side4 ?side5 ?side6 A13.out).mono ?_); (case side1 => exact cop_ (Kd.C_below HR103_8.out HB.out)); (case side2 => exact HC103_8.out); (case side3 => exact cop_ (Kd.C_below HR103_9.out HB.out)); (case side4 => exact HC103_9.out); (case side5 => exact cop_ (Kd.C_below HR103_10.out HB.out)); (case side6 => exact HC103_10.out); rintro e w16 ⟨rfl, hb⟩; refine ⟨_, rfl, ?_⟩; have n0_ := ad_ (blk_below (g := gb102) (o := .cells #[.string a0_0, .int .i64 a0_1, .slice (some ad103) l0_2.length c0_2] 24 (0, 0)) (blo_ BK102.out) hb); have n1_ := ad_ (below_step belg_ hb); clear BK102; clear HB; have BK102 := n0_; have HB := n1_; clear n0_ n1_; (try clear hb); (try clear hb2); (try clear hk); (try clear hi)))
         go_ret
         exact ⟨ret_, belg_⟩
        ·replace c14 := Bool.eq_false_iff.mpr c14
         subst c14
         have H1 := ifn_ H
         clear H
         have H := H1
         clear H1
         have H' := Aside0.mk H
         clear H
         have hcz17_ := cells3_ BK102.out
         have p103 : 0 ≤ (x5_2 : Int) := dec_
         have q103 : x5_2 < (l0_2.length : Int) := dec_
         obtain ⟨ad103, A103_8, c103_8, A103_9, c103_9, A103_10, c103_10, e103, hx103_0, hx103_1, hx103_2, hx103_3, hx103_4, hx103_5, hx103_6, hx103_7, hx103_8, hx103_9, hx103_10, hl103_8, hi103_8, hl103_9, hi103_9, hl103_10, hi103_10⟩ := at_T42 HR0_2.out x5_2 p103 q103
         cases e103
         replace hx103_0 := (HB.out.cell (World.block_lt_of_cell? w _ hx103_0)).trans hx103_0
         replace hx103_1 := (HB.out.cell (World.block_lt_of_cell? w _ hx103_1)).trans hx103_1
         replace hx103_2 := (HB.out.cell (World.block_lt_of_cell? w _ hx103_2)).trans hx103_2
         replace hx103_3 := (HB.out.cell (World.block_lt_of_cell? w _ hx103_3)).trans hx103_3
         replace hx103_4 := (HB.out.cell (World.block_lt_of_cell? w _ hx103_4)).trans hx103_4
         replace hx103_5 := (HB.out.cell (World.block_lt_of_cell? w _ hx103_5)).trans hx103_5
         replace hx103_6 := (HB.out.cell (World.block_lt_of_cell? w _ hx103_6)).trans hx103_6
         replace hx103_7 := (HB.out.cell (World.block_lt_of_cell? w _ hx103_7)).trans hx103_7
         replace hx103_8 := (HB.out.cell (World.block_lt_of_cell? w _ hx103_8)).trans hx103_8
         replace hx103_9 := (HB.out.cell (World.block_lt_of_cell? w _ hx103_9)).trans hx103_9
         replace hx103_10 := (HB.out.cell (World.block_lt_of_cell? w _ hx103_10)).trans hx103_10
         have HR103_8 := Aside0.mk hi103_8
         have HC103_8 := Aside0.mk hl103_8
         clear hi103_8 hl103_8
         have HR103_9 := Aside0.mk hi103_9
         have HC103_9 := Aside0.mk hl103_9
         clear hi103_9 hl103_9
         have HR103_10 := Aside0.mk hi103_10
         have HC103_10 := Aside0.mk hl103_10
         clear hi103_10 hl103_10
         replace p103 := eq_true p103
         replace q103 := eq_true q103
         go_wp2_with (first | ((with_reducible refine gate_callee (f := 22) rfl ?_); refine goesL_ (some 33) rfl rfl Try.func22 (by kernel_rfl) rfl #[.agg #[.int .i64 ((rd_T42 l0_2 x5_2).f4.f0), .int .i64 ((rd_T42 l0_2 x5_2).f4.f1), .int .i64 ((rd_T42 l0_2 x5_2).f4.f2), .int .i64 ((rd_T42 l0_2 x5_2).f4.f3), .slice A103_8 ((rd_T42 l0_2 x5_2).f4.f4).length c103_8, .slice A103_9 ((rd_T42 l0_2 x5_2).f4.f5).length c103_9, .slice A103_10 ((rd_T42 l0_2 x5_2).f4.f6).length c103_10]] rfl arg_ ?_; (with_reducible refine (posthornlaw21_Great.calls ((rd_T42 l0_2 x5_2).f4.f0) ((rd_T42 l0_2 x5_2).f4.f1) ((rd_T42 l0_2 x5_2).f4.f2) ((rd_T42 l0_2 x5_2).f4.f3) _ _ ((rd_T42 l0_2 x5_2).f4.f4) _ _ ((rd_T42 l0_2 x5_2).f4.f5) _ _ ((rd_T42 l0_2 x5_2).f4.f6) false _ ?side1 ?side2 ?side3 ?side4 ?side5 ?side6 A13.out).mono ?_); (case side1 => exact cop_ (Kd.C_below HR103_8.out HB.out)); (case side2 => exact HC103_8.out); (case side3 => exact cop_ (Kd.C_below HR103_9.out HB.out)); (case side4 => exact HC103_9.out); (case side5 => exact cop_ (Kd.C_below HR103_10.out HB.out)); (case side6 => exact HC103_10.out); rintro e w18 ⟨rfl, hb⟩; refine ⟨_, rfl, ?_⟩; have n0_ := ad_ (blk_below (g := gb102) (o := .cells #[.string a0_0, .int .i64 a0_1, .slice (some ad103) l0_2.length c0_2] 24 (0, 0)) (blo_ BK102.out) hb); have n1_ := ad_ (below_step belg_ hb); clear BK102; clear HB; have BK102 := n0_; have HB := n1_; clear n0_ n1_; (try clear hb); (try clear hb2); (try clear hk); (try clear hi)))
         go_roundg k2
         case measure => have := HJ2.out; have := HK2.out; omega
         case rel => exact ⟨(wrap64 (x5_2 + 1)), val_, H', ⟨by have := HJ2.out; have := HK2.out; omega⟩, ⟨blo_ BK102.out⟩, ⟨belg_⟩⟩
       ·rw [if_neg c12] at H
        exact absurd H (by simp)
      ·rw [if_neg c11] at H
       have c11b0 : decide (x5_2 < (l0_2.length : Int)) = false := decide_eq_false c11
       clear c11
       obtain rfl := Option.some.inj H
       have hcz19_ := cells3_ BK102.out
       go_wp2
       go_ret
       exact ⟨ret_, belg_⟩

/-! ### when_Right: function 26 -/
def when_Right.f (a0 : Int) : Option (Bool) := if a0 ≥ 0 then (some (decide (a0 ≤ 253402300799))) else (some false)
set_option maxHeartbeats 8000000 in
set_option maxRecDepth 100000 in
theorem when_Right.calls (a0 : Int) (r : Bool) (w : World) (h : when_Right.f a0 = some r) :
  Calls Try.prog 26 #[.int .i64 a0] w fun e w' => e = .returned (.bool r) ∧ Drawn0 w w' := by
 have H : (if a0 ≥ 0 then (some (decide (a0 ≤ 253402300799))) else (some false)) = some r := h
 clear h
 by_cases c2 : a0 ≥ 0
 ·rw [if_pos c2] at H
  have c2b0 : decide (0 ≤ a0) = true := decide_eq_true c2
  clear c2
  obtain rfl := Option.some.inj H
  go_enter Try.func26, Try.ntmps26
  go_wp2
  go_ret
  exact ⟨val_, by repeat (first | exact Drawn0.refl _ | apply Drawn0.step)⟩
 ·rw [if_neg c2] at H
  have c2b0 : decide (0 ≤ a0) = false := decide_eq_false c2
  clear c2
  obtain rfl := Option.some.inj H
  go_enter Try.func26, Try.ntmps26
  go_wp2
  go_ret
  exact ⟨val_, by repeat (first | exact Drawn0.refl _ | apply Drawn0.step)⟩

/-! ### zone_isShift: function 36 -/
def zone_isShift.f (a0 : Int) : Option (Bool) := if a0 ≥ (-86399) then (some (decide (a0 ≤ 86399))) else (some false)
set_option maxHeartbeats 8000000 in
set_option maxRecDepth 100000 in
theorem zone_isShift.calls (a0 : Int) (r : Bool) (w : World) (h : zone_isShift.f a0 = some r) :
  Calls Try.prog 36 #[.int .i64 a0] w fun e w' => e = .returned (.bool r) ∧ Drawn0 w w' := by
 have H : (if a0 ≥ (-86399) then (some (decide (a0 ≤ 86399))) else (some false)) = some r := h
 clear h
 by_cases c2 : a0 ≥ (-86399)
 ·rw [if_pos c2] at H
  have c2b0 : decide ((-86399) ≤ a0) = true := decide_eq_true c2
  clear c2
  obtain rfl := Option.some.inj H
  go_enter Try.func36, Try.ntmps36
  go_wp2
  go_ret
  exact ⟨val_, by repeat (first | exact Drawn0.refl _ | apply Drawn0.step)⟩
 ·rw [if_neg c2] at H
  have c2b0 : decide ((-86399) ≤ a0) = false := decide_eq_false c2
  clear c2
  obtain rfl := Option.some.inj H
  go_enter Try.func36, Try.ntmps36
  go_wp2
  go_ret
  exact ⟨val_, by repeat (first | exact Drawn0.refl _ | apply Drawn0.step)⟩

/-! ### recur_rises: function 81 -/
def recur_rises.l0 : Nat → List Int → Int → Int → List Int → Int → Int → Option (Bool)
 | 0, _, _, _, _, _, _ => none
 | k + 1, x0, x1, x2, x9, x10, x11 => if x11 < x10 then (if 0 ≤ x11 then (if x11 < (x9.length : Int) then (if (rd x9 x11) < x1 then (some false) else (if (rd x9 x11) > x2 then (some false) else (if (rd x9 x11) = 0 then (some false) else (if x11 > 0 then (if 0 ≤ (wrap64 (x11 - 1)) then (if (wrap64 (x11 - 1)) < (x0.length : Int) then (if (rd x0 (wrap64 (x11 - 1))) ≥ (rd x9 x11) then (some false) else (recur_rises.l0 k x0 x1 x2 x9 x10 (wrap64 (x11 + 1)))) else (none)) else (none)) else (recur_rises.l0 k x0 x1 x2 x9 x10 (wrap64 (x11 + 1))))))) else (none)) else (none)) else (some true)
def recur_rises.f (k : Nat) (l0 : List Int) (a1 : Int) (a2 : Int) : Option (Bool) := recur_rises.l0 k l0 a1 a2 l0 (l0.length : Int) 0
theorem recur_rises.mono_l : ∀ k, (∀ y0 y1 y2 y3 y4 y5, LeO (recur_rises.l0 k y0 y1 y2 y3 y4 y5) (recur_rises.l0 (k + 1) y0 y1 y2 y3 y4 y5))
 | 0 => fun _ _ _ _ _ _ r h => by simp [recur_rises.l0] at h
 | k + 1 => by
  have ih0 := recur_rises.mono_l k
  ·intro y0 y1 y2 y3 y4 y5
   unfold recur_rises.l0
   repeat' first
   | (with_reducible exact ih0 ..)
   | (with_reducible exact LeO.refl ..)
   | (with_reducible exact LeO.none ..)
   | (with_reducible refine LeO.ite ?_ ?_)
   | (with_reducible refine LeO.bind ?_ (fun _ => ?_))
   | exact ih0 ..
   | exact LeO.none ..
   | refine LeO.ite ?_ ?_
   | refine LeO.bind ?_ (fun _ => ?_)
theorem recur_rises.mono : ∀ a0 a1 a2 k, LeO (recur_rises.f k a0 a1 a2) (recur_rises.f (k + 1) a0 a1 a2) := by
 intro a0 a1 a2 k
 have ih0 := recur_rises.mono_l k
 unfold recur_rises.f
 repeat' first
   | (with_reducible exact ih0 ..)
   | (with_reducible exact LeO.refl ..)
   | (with_reducible exact LeO.none ..)
   | (with_reducible refine LeO.ite ?_ ?_)
   | (with_reducible refine LeO.bind ?_ (fun _ => ?_))
   | exact ih0 ..
   | exact LeO.none ..
   | refine LeO.ite ?_ ?_
   | refine LeO.bind ?_ (fun _ => ?_)
set_option maxHeartbeats 8000000 in
set_option maxRecDepth 100000 in
theorem recur_rises.calls (k : Nat) (A0 : Option Addr) (c0 : Nat) (l0 : List Int) (a1 : Int) (a2 : Int) (r : Bool) (w : World) (hr0 : Kd.C (Kd.int .i64) w A0 l0.length l0) (hc0 : l0.length ≤ c0) (h : recur_rises.f k l0 a1 a2 = some r) :
  Calls Try.prog 81 #[.slice A0 l0.length c0, .int .i64 a1, .int .i64 a2] w fun e w' => e = .returned (.bool r) ∧ Drawn0 w w' := by
 have HR0 := Aside0.mk hr0
 have HC0 := Aside0.mk hc0
 clear hr0 hc0
 have H : (recur_rises.l0 k l0 a1 a2 l0 (l0.length : Int) 0) = some r := h
 clear h
 have H' := Aside0.mk H
 clear H
 go_enter Try.func81, Try.ntmps81
 go_wp2
 go_loopg [11] k (fun kq v11 w' => ∃ (x11_1 : Int), v11 = .int .i64 x11_1 ∧ Aside0 (recur_rises.l0 kq l0 a1 a2 l0 (l0.length : Int) x11_1 = some r) ∧ Aside0 (kq ≤ k) ∧ Drawn0 w w')
 case atStart => exact ⟨(0), val_, H', ⟨Nat.le_refl _⟩, by repeat (first | exact Drawn0.refl _ | apply Drawn0.step)⟩
 case round =>
  clear H'
  try clear p2
  obtain ⟨x11_1, rfl, HA, HK1, ⟨m1, rfl⟩⟩ := hrel
  cases gk with
  | zero => exact absurd HA.out (by simp [recur_rises.l0])
  | succ k1 =>
   have H := HA.out
   clear HA
   simp only [recur_rises.l0] at H
   by_cases c4 : x11_1 < (l0.length : Int)
   ·rw [if_pos c4] at H
    have c4b0 : decide (x11_1 < (l0.length : Int)) = true := decide_eq_true c4
    clear c4
    by_cases c5 : 0 ≤ x11_1
    ·rw [if_pos c5] at H
     have c5b0 : decide (0 ≤ x11_1) = true := decide_eq_true c5
     clear c5
     by_cases c6 : x11_1 < (l0.length : Int)
     ·rw [if_pos c6] at H
      have c6b0 : decide (x11_1 < (l0.length : Int)) = true := decide_eq_true c6
      clear c6
      by_cases c7 : (rd l0 x11_1) < a1
      ·rw [if_pos c7] at H
       have c7b0 : decide ((rd l0 x11_1) < a1) = true := decide_eq_true c7
       clear c7
       obtain rfl := Option.some.inj H
       have p105 : 0 ≤ (x11_1 : Int) := dec_
       have q105 : x11_1 < (l0.length : Int) := dec_
       obtain ⟨ad105, e105, hx105_0⟩ := Kd.at_int HR0.out x11_1 p105 q105
       cases e105
       replace p105 := eq_true p105
       replace q105 := eq_true q105
       go_wp2
       go_ret
       exact ⟨val_, by repeat (first | exact Drawn0.refl _ | apply Drawn0.step)⟩
      ·rw [if_neg c7] at H
       have c7b0 : decide ((rd l0 x11_1) < a1) = false := decide_eq_false c7
       clear c7
       by_cases c8 : (rd l0 x11_1) > a2
       ·rw [if_pos c8] at H
        have c8b0 : decide (a2 < (rd l0 x11_1)) = true := decide_eq_true c8
        clear c8
        obtain rfl := Option.some.inj H
        have p105 : 0 ≤ (x11_1 : Int) := dec_
        have q105 : x11_1 < (l0.length : Int) := dec_
        obtain ⟨ad105, e105, hx105_0⟩ := Kd.at_int HR0.out x11_1 p105 q105
        cases e105
        replace p105 := eq_true p105
        replace q105 := eq_true q105
        go_wp2
        go_ret
        exact ⟨val_, by repeat (first | exact Drawn0.refl _ | apply Drawn0.step)⟩
       ·rw [if_neg c8] at H
        have c8b0 : decide (a2 < (rd l0 x11_1)) = false := decide_eq_false c8
        clear c8
        by_cases c9 : (rd l0 x11_1) = 0
        ·rw [if_pos c9] at H
         have c9b0 : ((rd l0 x11_1) == 0) = true := beq_iff_eq.mpr c9
         have c9b1 : ((rd l0 x11_1) != 0) = false := bne_eq_false_iff_eq.mpr c9
         clear c9
         obtain rfl := Option.some.inj H
         have p105 : 0 ≤ (x11_1 : Int) := dec_
         have q105 : x11_1 < (l0.length : Int) := dec_
         obtain ⟨ad105, e105, hx105_0⟩ := Kd.at_int HR0.out x11_1 p105 q105
         cases e105
         replace p105 := eq_true p105
         replace q105 := eq_true q105
         go_wp2
         go_ret
         exact ⟨val_, by repeat (first | exact Drawn0.refl _ | apply Drawn0.step)⟩
        ·rw [if_neg c9] at H
         have c9b0 : ((rd l0 x11_1) == 0) = false := beq_eq_false_iff_ne.mpr c9
         have c9b1 : ((rd l0 x11_1) != 0) = true := bne_iff_ne.mpr c9
         by_cases c10 : x11_1 > 0
         ·rw [if_pos c10] at H
          have c10b0 : decide (0 < x11_1) = true := decide_eq_true c10
          clear c10
          obtain ⟨ji11, hji11⟩ : ∃ j_ : Int, (wrap64 (x11_1 - 1)) = j_ := ⟨_, rfl⟩
          replace H : (if 0 ≤ (ji11) then (if (ji11) < (l0.length : Int) then (if (rd l0 (ji11)) ≥ (rd l0 x11_1) then (some false) else (recur_rises.l0 k1 l0 a1 a2 l0 (l0.length : Int) (wrap64 (x11_1 + 1)))) else (none)) else (none)) = some r := by first | (rw [hji11] at H; exact H) | (simp only [hji11] at H ⊢; exact H)
          have hji11w : (IntKind.i64.wrap (x11_1 - 1)) = ji11 := (i64_w _).trans hji11
          by_cases c12 : 0 ≤ (ji11)
          ·rw [if_pos c12] at H
           have c12b0 : decide (0 ≤ (ji11)) = true := decide_eq_true c12
           clear c12
           by_cases c13 : (ji11) < (l0.length : Int)
           ·rw [if_pos c13] at H
            have c13b0 : decide ((ji11) < (l0.length : Int)) = true := decide_eq_true c13
            clear c13
            by_cases c14 : (rd l0 (ji11)) ≥ (rd l0 x11_1)
            ·rw [if_pos c14] at H
             have c14b0 : decide ((rd l0 x11_1) ≤ (rd l0 (ji11))) = true := decide_eq_true c14
             clear c14
             obtain rfl := Option.some.inj H
             have p105 : 0 ≤ (x11_1 : Int) := dec_
             have q105 : x11_1 < (l0.length : Int) := dec_
             obtain ⟨ad105, e105, hx105_0⟩ := Kd.at_int HR0.out x11_1 p105 q105
             cases e105
             replace p105 := eq_true p105
             replace q105 := eq_true q105
             have p106 : 0 ≤ ((ji11) : Int) := dec_
             have q106 : (ji11) < (l0.length : Int) := dec_
             obtain ⟨ad106, e106, hx106_0⟩ := Kd.at_int HR0.out (ji11) p106 q106
             obtain rfl : ad105 = ad106 := (by injection e106)
             replace p106 := eq_true p106
             replace q106 := eq_true q106
             go_wp2
             go_ret
             exact ⟨by first | rfl | (simp; done) | (simp only [← hji11] <;> (first | rfl | simp)) | (simp [*]; done), by repeat (first | exact Drawn0.refl _ | apply Drawn0.step)⟩
            ·rw [if_neg c14] at H
             have c14b0 : decide ((rd l0 x11_1) ≤ (rd l0 (ji11))) = false := decide_eq_false c14
             clear c14
             have H' := Aside0.mk H
             clear H
             have p105 : 0 ≤ (x11_1 : Int) := dec_
             have q105 : x11_1 < (l0.length : Int) := dec_
             obtain ⟨ad105, e105, hx105_0⟩ := Kd.at_int HR0.out x11_1 p105 q105
             cases e105
             replace p105 := eq_true p105
             replace q105 := eq_true q105
             have p106 : 0 ≤ ((ji11) : Int) := dec_
             have q106 : (ji11) < (l0.length : Int) := dec_
             obtain ⟨ad106, e106, hx106_0⟩ := Kd.at_int HR0.out (ji11) p106 q106
             obtain rfl : ad105 = ad106 := (by injection e106)
             replace p106 := eq_true p106
             replace q106 := eq_true q106
             go_wp2
             go_roundg k1
             case measure => have := HK1.out; omega
             case rel => exact ⟨(wrap64 (x11_1 + 1)), val_, H', ⟨by have := HK1.out; omega⟩, by repeat (first | exact Drawn0.refl _ | apply Drawn0.step)⟩
           ·rw [if_neg c13] at H
            exact absurd H (by simp)
          ·rw [if_neg c12] at H
           exact absurd H (by simp)
         ·rw [if_neg c10] at H
          have c10b0 : decide (0 < x11_1) = false := decide_eq_false c10
          clear c10
          have H' := Aside0.mk H
          clear H
          have p105 : 0 ≤ (x11_1 : Int) := dec_
          have q105 : x11_1 < (l0.length : Int) := dec_
          obtain ⟨ad105, e105, hx105_0⟩ := Kd.at_int HR0.out x11_1 p105 q105
          cases e105
          replace p105 := eq_true p105
          replace q105 := eq_true q105
          go_wp2
          go_roundg k1
          case measure => have := HK1.out; omega
          case rel => exact ⟨(wrap64 (x11_1 + 1)), val_, H', ⟨by have := HK1.out; omega⟩, by repeat (first | exact Drawn0.refl _ | apply Drawn0.step)⟩
     ·rw [if_neg c6] at H
      exact absurd H (by simp)
    ·rw [if_neg c5] at H
     exact absurd H (by simp)
   ·rw [if_neg c4] at H
    have c4b0 : decide (x11_1 < (l0.length : Int)) = false := decide_eq_false c4
    clear c4
    obtain rfl := Option.some.inj H
    go_wp2
    go_ret
    exact ⟨val_, by repeat (first | exact Drawn0.refl _ | apply Drawn0.step)⟩

/-! ### recur_order: function 82 -/
def recur_order.f (a0_0 : Int) (a0_1 : Int) (a1_0 : Int) (a1_1 : Int) : Option (Int) := if a0_0 = a1_0 then (some (wrap64 (a0_1 - a1_1))) else (some (wrap64 (a0_0 - a1_0)))
set_option maxHeartbeats 8000000 in
set_option maxRecDepth 100000 in
theorem recur_order.calls (a0_0 : Int) (a0_1 : Int) (a1_0 : Int) (a1_1 : Int) (r : Int) (w : World) (h : recur_order.f a0_0 a0_1 a1_0 a1_1 = some r) :
  Calls Try.prog 82 #[.agg #[.int .i64 a0_0, .int .i64 a0_1], .agg #[.int .i64 a1_0, .int .i64 a1_1]] w fun e w' => e = .returned (.int .i64 r) ∧ Below w.heap.size w w' := by
 have hu79 := Try.underlying79
 have HB := ad_ (Below.refl w.heap.size w)
 have H : (if a0_0 = a1_0 then (some (wrap64 (a0_1 - a1_1))) else (some (wrap64 (a0_0 - a1_0)))) = some r := h
 clear h
 by_cases c3 : a0_0 = a1_0
 ·rw [if_pos c3] at H
  have c3b0 : (a0_0 == a1_0) = true := beq_iff_eq.mpr c3
  have c3b1 : (a0_0 != a1_0) = false := bne_eq_false_iff_eq.mpr c3
  clear c3
  obtain rfl := Option.some.inj H
  go_enter Try.func82, Try.ntmps82
  go_wp2_with (first | ((with_reducible refine gate_dst (N := 2) rfl ?_); refine box_event ?hg (N := 2) ?hd (cs := #[.int .i64 a0_0, .int .i64 a0_1]) (t := 79) ?hr ?_; (case hd => rfl); (case hg => rfl); (case hr => first | (go_simp; done) | (go_simp; rfl)); intro gb107 hg w4 hbox hb; have n0_ := ad_ (below_step bel_ hb); have n1_ := ad_ (hbox); have n2_ := ad_ ((by rw [hg]; exact (below_size bel_) : w.heap.size ≤ gb107)); have n3_ := ad_ ((by rw [hg]; exact (below_size bel_) : w.heap.size ≤ gb107)); clear HB; have HB := n0_; have BK107 := n1_; have GW107 := n2_; have GE107 := n3_; clear n0_ n1_ n2_ n3_; clear hb hbox hg) | ((with_reducible refine gate_dst (N := 3) rfl ?_); refine box_event ?hg (N := 3) ?hd (cs := #[.int .i64 a1_0, .int .i64 a1_1]) (t := 79) ?hr ?_; (case hd => rfl); (case hg => rfl); (case hr => first | (go_simp; done) | (go_simp; rfl)); intro gb108 hg w5 hbox hb; have n0_ := ad_ (blk_below (g := gb107) (o := .cells #[.int .i64 a0_0, .int .i64 a0_1] 79 (0, 0)) (blo_ BK107.out) hb); have n1_ := ad_ (below_step belg_ hb); have n2_ := ad_ (hbox); have n3_ := ad_ ((by rw [hg]; exact (below_size belg_) : w.heap.size ≤ gb108)); have n4_ := ad_ ((by rw [hg]; exact (below_size belg_) : w.heap.size ≤ gb108)); have n5_ := ad_ ((by rw [hg]; exact Nat.ne_of_lt (blk_lt (g := gb107) (o := .cells #[.int .i64 a0_0, .int .i64 a0_1] 79 (0, 0)) (blo_ BK107.out)) : gb107 ≠ gb108)); have n6_ := ad_ ((by rw [hg]; exact Nat.ne_of_gt (blk_lt (g := gb107) (o := .cells #[.int .i64 a0_0, .int .i64 a0_1] 79 (0, 0)) (blo_ BK107.out)) : gb108 ≠ gb107)); clear BK107; clear HB; have BK107 := n0_; have HB := n1_; have BK108 := n2_; have GW108 := n3_; have GE108 := n4_; have NB107_108 := n5_; have NB108_107 := n6_; clear n0_ n1_ n2_ n3_ n4_ n5_ n6_; clear hb hbox hg; have hnb6 := NB107_108.out; have hnc6 := NB108_107.out; have hcz7_ := cells2_ BK107.out; have hcz8_ := cells2_ BK108.out))
  go_ret
  exact ⟨ret_, belg_⟩
 ·rw [if_neg c3] at H
  have c3b0 : (a0_0 == a1_0) = false := beq_eq_false_iff_ne.mpr c3
  have c3b1 : (a0_0 != a1_0) = true := bne_iff_ne.mpr c3
  obtain rfl := Option.some.inj H
  go_enter Try.func82, Try.ntmps82
  go_wp2_with (first | ((with_reducible refine gate_dst (N := 2) rfl ?_); refine box_event ?hg (N := 2) ?hd (cs := #[.int .i64 a0_0, .int .i64 a0_1]) (t := 79) ?hr ?_; (case hd => rfl); (case hg => rfl); (case hr => first | (go_simp; done) | (go_simp; rfl)); intro gb107 hg w9 hbox hb; have n0_ := ad_ (below_step bel_ hb); have n1_ := ad_ (hbox); have n2_ := ad_ ((by rw [hg]; exact (below_size bel_) : w.heap.size ≤ gb107)); have n3_ := ad_ ((by rw [hg]; exact (below_size bel_) : w.heap.size ≤ gb107)); clear HB; have HB := n0_; have BK107 := n1_; have GW107 := n2_; have GE107 := n3_; clear n0_ n1_ n2_ n3_; clear hb hbox hg) | ((with_reducible refine gate_dst (N := 3) rfl ?_); refine box_event ?hg (N := 3) ?hd (cs := #[.int .i64 a1_0, .int .i64 a1_1]) (t := 79) ?hr ?_; (case hd => rfl); (case hg => rfl); (case hr => first | (go_simp; done) | (go_simp; rfl)); intro gb108 hg w10 hbox hb; have n0_ := ad_ (blk_below (g := gb107) (o := .cells #[.int .i64 a0_0, .int .i64 a0_1] 79 (0, 0)) (blo_ BK107.out) hb); have n1_ := ad_ (below_step belg_ hb); have n2_ := ad_ (hbox); have n3_ := ad_ ((by rw [hg]; exact (below_size belg_) : w.heap.size ≤ gb108)); have n4_ := ad_ ((by rw [hg]; exact (below_size belg_) : w.heap.size ≤ gb108)); have n5_ := ad_ ((by rw [hg]; exact Nat.ne_of_lt (blk_lt (g := gb107) (o := .cells #[.int .i64 a0_0, .int .i64 a0_1] 79 (0, 0)) (blo_ BK107.out)) : gb107 ≠ gb108)); have n6_ := ad_ ((by rw [hg]; exact Nat.ne_of_gt (blk_lt (g := gb107) (o := .cells #[.int .i64 a0_0, .int .i64 a0_1] 79 (0, 0)) (blo_ BK107.out)) : gb108 ≠ gb107)); clear BK107; clear HB; have BK107 := n0_; have HB := n1_; have BK108 := n2_; have GW108 := n3_; have GE108 := n4_; have NB107_108 := n5_; have NB108_107 := n6_; clear n0_ n1_ n2_ n3_ n4_ n5_ n6_; clear hb hbox hg; have hnb11 := NB107_108.out; have hnc11 := NB108_107.out; have hcz12_ := cells2_ BK107.out; have hcz13_ := cells2_ BK108.out))
  go_ret
  exact ⟨ret_, belg_⟩

end Go.Proofs.Ytlplmkllmgdifaa.PZ

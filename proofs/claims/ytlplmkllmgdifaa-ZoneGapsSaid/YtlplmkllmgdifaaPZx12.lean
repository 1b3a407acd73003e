-- Written by a program of the session (wip/tools).
import Derived.Test.YtlplmkllmgdifaaPZx0
import Derived.Test.YtlplmkllmgdifaaPZx1
import Derived.Test.YtlplmkllmgdifaaPZx4
import Derived.Test.YtlplmkllmgdifaaPZx7
import Derived.Test.YtlplmkllmgdifaaPZx11
namespace Go.Proofs.Ytlplmkllmgdifaa.PZ
open Go.RowKit Go.Proofs.YtlplmkllmgdifaaW.PrintWords Go.Proofs.YtlplmkllmgdifaaW.PrintLast Go.Proofs.YtlplmkllmgdifaaW.PrintMore
attribute [local go_sem] max2_int min2_int max_two min_two max_three min_three max_four min_four   -- for this text's walks alone
set_option linter.unusedVariables false
set_option linter.unusedSimpArgs false

/-! ### zone_Zone_changes: function 43 -/
mutual
def zone_Zone_changes.l0 : Nat → Int → List (S75) → List (S42) → Int → Int → Option ((List (S75)))
 | 0, _, _, _, _, _ => none
 | k + 1, x1, x5, x11, x12, x13 => if x13 < x12 then (if 0 ≤ x13 then (if x13 < (x11.length : Int) then (if x5.length < 8796093022208 then ((some (x5 ++ [(⟨wrap64 (((rd_T42 x11 x13).f0) - ((rd_T42 x11 x13).f1)), (rd_T42 x11 x13).f2⟩ : S75)] : List (S75))).bind fun y216 => (if ((rd_T42 x11 x13).f3 = true) then ((zone_yearOf.f k x1).bind fun t219 => (if ((rd_T42 x11 x13).f4.f3) = (-1) then (zone_Zone_changes.j1 k x1 y216 t219 x11 x12 x13 ((rd_T42 x11 x13).f0) ((rd_T42 x11 x13).f1) ((rd_T42 x11 x13).f2) ((rd_T42 x11 x13).f3) ((rd_T42 x11 x13).f4.f0) ((rd_T42 x11 x13).f4.f1) ((rd_T42 x11 x13).f4.f2) ((rd_T42 x11 x13).f4.f3) ((rd_T42 x11 x13).f4.f4) ((rd_T42 x11 x13).f4.f5) ((rd_T42 x11 x13).f4.f6)) else ((zone_yearOf.f k ((rd_T42 x11 x13).f4.f3)).bind fun t220 => (zone_Zone_changes.j1 k x1 y216 (mn t219 t220) x11 x12 x13 ((rd_T42 x11 x13).f0) ((rd_T42 x11 x13).f1) ((rd_T42 x11 x13).f2) ((rd_T42 x11 x13).f3) ((rd_T42 x11 x13).f4.f0) ((rd_T42 x11 x13).f4.f1) ((rd_T42 x11 x13).f4.f2) ((rd_T42 x11 x13).f4.f3) ((rd_T42 x11 x13).f4.f4) ((rd_T42 x11 x13).f4.f5) ((rd_T42 x11 x13).f4.f6))))) else (zone_Zone_changes.l0 k x1 y216 x11 x12 (wrap64 (x13 + 1))))) else (none)) else (none)) else (none)) else ((zone_change_58.f k x5).bind fun t213 => (some t213))
def zone_Zone_changes.j1 : Nat → Int → List (S75) → Int → List (S42) → Int → Int → Int → Int → Int → Bool → Int → Int → Int → Int → List Int → List Int → List (S79) → Option ((List (S75)))
 | 0, _, _, _, _, _, _, _, _, _, _, _, _, _, _, _, _, _ => none
 | k + 1, x1, x5, x8, x11, x12, x13, x216000, x216001, x216002, x216003, x216004, x216005, x216006, x216007, x216008, x216009, x216010 => zone_Zone_changes.l1 k x1 x5 x8 x11 x12 x13 0 x216000 x216001 x216002 x216003 x216004 x216005 x216006 x216007 x216008 x216009 x216010
def zone_Zone_changes.l1 : Nat → Int → List (S75) → Int → List (S42) → Int → Int → Int → Int → Int → Int → Bool → Int → Int → Int → Int → List Int → List Int → List (S79) → Option ((List (S75)))
 | 0, _, _, _, _, _, _, _, _, _, _, _, _, _, _, _, _, _, _ => none
 | k + 1, x1, x5, x8, x11, x12, x13, x43, x216000, x216001, x216002, x216003, x216004, x216005, x216006, x216007, x216008, x216009, x216010 => if x43 < 3 then ((zone_Onset_year.f k x216000 x216001 x216002 x216003 x216004 x216005 x216006 x216007 x216008 x216009 x216010 x5 (wrap64 ((wrap64 (x8 - 1)) + x43))).bind fun t221 => (zone_Zone_changes.l1 k x1 t221 x8 x11 x12 x13 (wrap64 (x43 + 1)) x216000 x216001 x216002 x216003 x216004 x216005 x216006 x216007 x216008 x216009 x216010)) else (zone_Zone_changes.l0 k x1 x5 x11 x12 (wrap64 (x13 + 1)))
end
def zone_Zone_changes.f (k : Nat) (a0_0 : ByteArray) (a0_1 : Int) (l0_2 : List (S42)) (a1 : Int) : Option ((List (S75))) := zone_Zone_changes.l0 k a1 ([] : List (S75)) l0_2 (l0_2.length : Int) 0
theorem zone_Zone_changes.mono_l : ∀ k, (∀ y0 y1 y2 y3 y4, LeO (zone_Zone_changes.l0 k y0 y1 y2 y3 y4) (zone_Zone_changes.l0 (k + 1) y0 y1 y2 y3 y4)) ∧ (∀ y0 y1 y2 y3 y4 y5 y6 y7 y8 y9 y10 y11 y12 y13 y14 y15 y16, LeO (zone_Zone_changes.j1 k y0 y1 y2 y3 y4 y5 y6 y7 y8 y9 y10 y11 y12 y13 y14 y15 y16) (zone_Zone_changes.j1 (k + 1) y0 y1 y2 y3 y4 y5 y6 y7 y8 y9 y10 y11 y12 y13 y14 y15 y16)) ∧ (∀ y0 y1 y2 y3 y4 y5 y6 y7 y8 y9 y10 y11 y12 y13 y14 y15 y16 y17, LeO (zone_Zone_changes.l1 k y0 y1 y2 y3 y4 y5 y6 y7 y8 y9 y10 y11 y12 y13 y14 y15 y16 y17) (zone_Zone_changes.l1 (k + 1) y0 y1 y2 y3 y4 y5 y6 y7 y8 y9 y10 y11 y12 y13 y14 y15 y16 y17))
 | 0 => ⟨fun _ _ _ _ _ r h => by simp [zone_Zone_changes.l0] at h, fun _ _ _ _ _ _ _ _ _ _ _ _ _ _ _ _ _ r h => by simp [zone_Zone_changes.j1] at h, fun _ _ _ _ _ _ _ _ _ _ _ _ _ _ _ _ _ _ r h => by simp [zone_Zone_changes.l1] at h⟩
 | k + 1 => by
  obtain ⟨ih0, ih1, ih2⟩ := zone_Zone_changes.mono_l k
  refine ⟨?_, ?_, ?_⟩
  all_goals
   intros
   first | unfold zone_Zone_changes.l0 | unfold zone_Zone_changes.j1 | unfold zone_Zone_changes.l1
   repeat' first
   | (with_reducible exact ih0 ..)
   | (with_reducible exact ih1 ..)
   | (with_reducible exact ih2 ..)
   | (with_reducible exact zone_Onset_year.mono ..)
   | (with_reducible exact zone_change_58.mono ..)
   | (with_reducible exact zone_yearOf.mono ..)
   | (with_reducible exact LeO.refl ..)
   | (with_reducible exact LeO.none ..)
   | (with_reducible refine LeO.ite ?_ ?_)
   | (with_reducible refine LeO.bind ?_ (fun _ => ?_))
   | exact ih0 ..
   | exact ih1 ..
   | exact ih2 ..
   | exact zone_Onset_year.mono ..
   | exact zone_change_58.mono ..
   | exact zone_yearOf.mono ..
   | exact LeO.none ..
   | refine LeO.ite ?_ ?_
   | refine LeO.bind ?_ (fun _ => ?_)
theorem zone_Zone_changes.mono : ∀ a0 a1 a2 a3 k, LeO (zone_Zone_changes.f k a0 a1 a2 a3) (zone_Zone_changes.f (k + 1) a0 a1 a2 a3) := by
 intro a0 a1 a2 a3 k
 obtain ⟨ih0, ih1, ih2⟩ := zone_Zone_changes.mono_l k
 unfold zone_Zone_changes.f
 repeat' first
   | (with_reducible exact ih0 ..)
   | (with_reducible exact ih1 ..)
   | (with_reducible exact ih2 ..)
   | (with_reducible exact zone_Onset_year.mono ..)
   | (with_reducible exact zone_change_58.mono ..)
   | (with_reducible exact zone_yearOf.mono ..)
   | (with_reducible exact LeO.refl ..)
   | (with_reducible exact LeO.none ..)
   | (with_reducible refine LeO.ite ?_ ?_)
   | (with_reducible refine LeO.bind ?_ (fun _ => ?_))
   | exact ih0 ..
   | exact ih1 ..
   | exact ih2 ..
   | exact zone_Onset_year.mono ..
   | exact zone_change_58.mono ..
   | exact zone_yearOf.mono ..
   | exact LeO.none ..
   | refine LeO.ite ?_ ?_
   | refine LeO.bind ?_ (fun _ => ?_)
set_option maxHeartbeats 8000000 in
set_option maxRecDepth 100000 in
theorem zone_Zone_changes.calls (k : Nat) (a0_0 : ByteArray) (a0_1 : Int) (A0_2 : Option Addr) (c0_2 : Nat) (l0_2 : List (S42)) (a1 : Int) (r : List (S75)) (w : World) (hr0_2 : Kd.C k42 w A0_2 l0_2.length l0_2) (hc0_2 : l0_2.length ≤ c0_2) (h : zone_Zone_changes.f k a0_0 a0_1 l0_2 a1 = some r) :
  Calls Try.prog 43 #[.agg #[.string a0_0, .int .i64 a0_1, .slice A0_2 l0_2.length c0_2], .int .i64 a1] w fun e w' => ∃ v0_ : Value, e = .returned (v0_) ∧ Kd.R k75 75 w' w.heap.size (fun _ => True) v0_ r ∧ Below w.heap.size w w' := by
 have hu24 := Try.underlying24
 have hu42 := Try.underlying42
 have hu75 := Try.underlying75
 have HR0_2 := Aside0.mk hr0_2
 have HC0_2 := Aside0.mk hc0_2
 clear hr0_2 hc0_2
 have HB := ad_ (Below.refl w.heap.size w)
 have H : (zone_Zone_changes.l0 k a1 ([] : List (S75)) l0_2 (l0_2.length : Int) 0) = some r := h
 clear h
 have H' := Aside0.mk H
 clear H
 go_enter Try.func43, Try.ntmps43
 go_wp2_with (first | ((with_reducible refine gate_dst (N := 2) rfl ?_); refine box_event ?hg (N := 2) ?hd (cs := #[.string a0_0, .int .i64 a0_1, .slice A0_2 l0_2.length c0_2]) (t := 24) ?hr ?_; (case hd => rfl); (case hg => rfl); (case hr => first | (go_simp; done) | (go_simp; rfl)); intro gb212 hg w3 hbox hb; have n0_ := ad_ (below_step bel_ hb); have n1_ := ad_ (hbox); have n2_ := ad_ ((by rw [hg]; exact (below_size bel_) : w.heap.size ≤ gb212)); have n3_ := ad_ ((by rw [hg]; exact (below_size bel_) : w.heap.size ≤ gb212)); clear HB; have HB := n0_; have BK212 := n1_; have GW212 := n2_; have GE212 := n3_; clear n0_ n1_ n2_ n3_; clear hb hbox hg; have hcz4_ := cells3_ BK212.out))
 go_loopg [5, 13] k (fun kq v5 v13 w' => ∃ (x5_1 : List (S75)) (x13_1 : Int), v13 = .int .i64 x13_1 ∧ Aside0 (zone_Zone_changes.l0 kq a1 x5_1 l0_2 (l0_2.length : Int) x13_1 = some r) ∧ Aside0 (kq ≤ k) ∧ Aside0 (Kd.R k75 75 w' w.heap.size (fun _ => True) v5 x5_1) ∧ Aside0 (w'.heap[gb212]? = some (.cells #[.string a0_0, .int .i64 a0_1, (.slice A0_2 l0_2.length c0_2)] 24 (0, 0))) ∧ Aside0 (Below w.heap.size w w'))
 case atStart => exact ⟨(([] : List (S75))), (0), val_, H', ⟨Nat.le_refl _⟩, ⟨by first | exact Kd.R_nil _ _ _ _ _ | exact Kd.N_nil _ _ _ _ _ | exact Kd.V_nil _ _ _ _ _ | exact Kd.Q_nil _ _ _ _ _ | exact Kd.S_nil _ _ _ _ _⟩, ⟨blo_ BK212.out⟩, ⟨belg_⟩⟩
 case round =>
  clear H'
  try clear p2
  try clear c4
  try clear hcz4_
  obtain ⟨x5_1, x13_1, rfl, HA, HK1, HO_5, BK212, HB⟩ := hrel
  cases gk with
  | zero => exact absurd HA.out (by simp [zone_Zone_changes.l0])
  | succ k1 =>
   have H := HA.out
   clear HA
   simp only [zone_Zone_changes.l0] at H
   by_cases c5 : x13_1 < (l0_2.length : Int)
   ·rw [if_pos c5] at H
    have c5b0 : decide (x13_1 < (l0_2.length : Int)) = true := decide_eq_true c5
    clear c5
    by_cases c6 : 0 ≤ x13_1
    ·rw [if_pos c6] at H
     have c6b0 : decide (0 ≤ x13_1) = true := decide_eq_true c6
     clear c6
     by_cases c7 : x13_1 < (l0_2.length : Int)
     ·rw [if_pos c7] at H
      have c7b0 : decide (x13_1 < (l0_2.length : Int)) = true := decide_eq_true c7
      clear c7
      by_cases c8 : x5_1.length < 8796093022208
      ·rw [if_pos c8] at H
       have LMc8 := Aside0.mk c8
       clear c8
       obtain ⟨y216, hy216⟩ : ∃ y_ : List (S75), y_ = (x5_1 ++ [(⟨wrap64 (((rd_T42 l0_2 x13_1).f0) - ((rd_T42 l0_2 x13_1).f1)), (rd_T42 l0_2 x13_1).f2⟩ : S75)]) := ⟨_, rfl⟩
       replace H : (if ((rd_T42 l0_2 x13_1).f3 = true) then ((zone_yearOf.f k1 a1).bind fun t219 => (if ((rd_T42 l0_2 x13_1).f4.f3) = (-1) then (zone_Zone_changes.j1 k1 a1 y216 t219 l0_2 (l0_2.length : Int) x13_1 ((rd_T42 l0_2 x13_1).f0) ((rd_T42 l0_2 x13_1).f1) ((rd_T42 l0_2 x13_1).f2) ((rd_T42 l0_2 x13_1).f3) ((rd_T42 l0_2 x13_1).f4.f0) ((rd_T42 l0_2 x13_1).f4.f1) ((rd_T42 l0_2 x13_1).f4.f2) ((rd_T42 l0_2 x13_1).f4.f3) ((rd_T42 l0_2 x13_1).f4.f4) ((rd_T42 l0_2 x13_1).f4.f5) ((rd_T42 l0_2 x13_1).f4.f6)) else ((zone_yearOf.f k1 ((rd_T42 l0_2 x13_1).f4.f3)).bind fun t220 => (zone_Zone_changes.j1 k1 a1 y216 (mn t219 t220) l0_2 (l0_2.length : Int) x13_1 ((rd_T42 l0_2 x13_1).f0) ((rd_T42 l0_2 x13_1).f1) ((rd_T42 l0_2 x13_1).f2) ((rd_T42 l0_2 x13_1).f3) ((rd_T42 l0_2 x13_1).f4.f0) ((rd_T42 l0_2 x13_1).f4.f1) ((rd_T42 l0_2 x13_1).f4.f2) ((rd_T42 l0_2 x13_1).f4.f3) ((rd_T42 l0_2 x13_1).f4.f4) ((rd_T42 l0_2 x13_1).f4.f5) ((rd_T42 l0_2 x13_1).f4.f6))))) else (zone_Zone_changes.l0 k1 a1 y216 l0_2 (l0_2.length : Int) (wrap64 (x13_1 + 1)))) = some r := by first | (rw [hy216]; with_reducible exact H) | (have H2_ := (Option.bind_some _ _).symm.trans H; rw [hy216]; with_reducible exact H2_) | (have H2_ := (Option.bind_some _ _).symm.trans H; with_reducible exact H2_) | with_reducible exact H | (rw [hy216]; exact H) | exact H
       have Ny216 := Aside0.mk hy216
       clear hy216
       obtain ⟨bq9, hbq9⟩ : ∃ b_ : Bool, b_ = ((rd_T42 l0_2 x13_1).f3) := ⟨_, rfl⟩
       replace H : (if (bq9 = true) then ((zone_yearOf.f k1 a1).bind fun t219 => (if ((rd_T42 l0_2 x13_1).f4.f3) = (-1) then (zone_Zone_changes.j1 k1 a1 y216 t219 l0_2 (l0_2.length : Int) x13_1 ((rd_T42 l0_2 x13_1).f0) ((rd_T42 l0_2 x13_1).f1) ((rd_T42 l0_2 x13_1).f2) bq9 ((rd_T42 l0_2 x13_1).f4.f0) ((rd_T42 l0_2 x13_1).f4.f1) ((rd_T42 l0_2 x13_1).f4.f2) ((rd_T42 l0_2 x13_1).f4.f3) ((rd_T42 l0_2 x13_1).f4.f4) ((rd_T42 l0_2 x13_1).f4.f5) ((rd_T42 l0_2 x13_1).f4.f6)) else ((zone_yearOf.f k1 ((rd_T42 l0_2 x13_1).f4.f3)).bind fun t220 => (zone_Zone_changes.j1 k1 a1 y216 (mn t219 t220) l0_2 (l0_2.length : Int) x13_1 ((rd_T42 l0_2 x13_1).f0) ((rd_T42 l0_2 x13_1).f1) ((rd_T42 l0_2 x13_1).f2) bq9 ((rd_T42 l0_2 x13_1).f4.f0) ((rd_T42 l0_2 x13_1).f4.f1) ((rd_T42 l0_2 x13_1).f4.f2) ((rd_T42 l0_2 x13_1).f4.f3) ((rd_T42 l0_2 x13_1).f4.f4) ((rd_T42 l0_2 x13_1).f4.f5) ((rd_T42 l0_2 x13_1).f4.f6))))) else (zone_Zone_changes.l0 k1 a1 y216 l0_2 (l0_2.length : Int) (wrap64 (x13_1 + 1)))) = some r := by rw [← hbq9] at H; exact H
       have Nbq9 := Aside0.mk hbq9
       clear hbq9
       by_cases c10 : (bq9 = true)
       ·subst c10
        have H1 := ifp_ H
        clear H
        have H := H1
        clear H1
        replace H := Option.bind_eq_some_iff.mp H
        obtain ⟨t219, A110, H⟩ := H
        try dsimp only at H
        have A11 := Aside0.mk A110
        clear A110
        have HC12 := Aside0.mk H
        clear H
        have p214 : 0 ≤ (x13_1 : Int) := dec_
        have q214 : x13_1 < (l0_2.length : Int) := dec_
        obtain ⟨ad214, A214_8, c214_8, A214_9, c214_9, A214_10, c214_10, e214, hx214_0, hx214_1, hx214_2, hx214_3, hx214_4, hx214_5, hx214_6, hx214_7, hx214_8, hx214_9, hx214_10, hl214_8, hi214_8, hl214_9, hi214_9, hl214_10, hi214_10⟩ := at_T42 HR0_2.out x13_1 p214 q214
        (try rw [← Nbq9.out] at hx214_3)
        cases e214
        replace hx214_0 := (HB.out.cell (World.block_lt_of_cell? w _ hx214_0)).trans hx214_0
        replace hx214_1 := (HB.out.cell (World.block_lt_of_cell? w _ hx214_1)).trans hx214_1
        replace hx214_2 := (HB.out.cell (World.block_lt_of_cell? w _ hx214_2)).trans hx214_2
        replace hx214_3 := (HB.out.cell (World.block_lt_of_cell? w _ hx214_3)).trans hx214_3
        replace hx214_4 := (HB.out.cell (World.block_lt_of_cell? w _ hx214_4)).trans hx214_4
        replace hx214_5 := (HB.out.cell (World.block_lt_of_cell? w _ hx214_5)).trans hx214_5
        replace hx214_6 := (HB.out.cell (World.block_lt_of_cell? w _ hx214_6)).trans hx214_6
        replace hx214_7 := (HB.out.cell (World.block_lt_of_cell? w _ hx214_7)).trans hx214_7
        replace hx214_8 := (HB.out.cell (World.block_lt_of_cell? w _ hx214_8)).trans hx214_8
        replace hx214_9 := (HB.out.cell (World.block_lt_of_cell? w _ hx214_9)).trans hx214_9
        replace hx214_10 := (HB.out.cell (World.block_lt_of_cell? w _ hx214_10)).trans hx214_10
        have HR214_8 := Aside0.mk hi214_8
        have HC214_8 := Aside0.mk hl214_8
        clear hi214_8 hl214_8
        have HR214_9 := Aside0.mk hi214_9
        have HC214_9 := Aside0.mk hl214_9
        clear hi214_9 hl214_9
        have HR214_10 := Aside0.mk hi214_10
        have HC214_10 := Aside0.mk hl214_10
        clear hi214_10 hl214_10
        replace p214 := eq_true p214
        replace q214 := eq_true q214
        go_upto_if 36 with (first | ((with_reducible refine gate_dst (N := 7) rfl ?_); refine box_event ?hg (N := 7) ?hd (cs := #[.int .i64 0, .int .i64 0, .int .i64 0, .bool false, .int .i64 0, .int .i64 0, .int .i64 0, .int .i64 0, .slice none 0 0, .slice none 0 0, .slice none 0 0]) (t := 42) ?hr ?_; (case hd => rfl); (case hg => rfl); (case hr => first | (go_simp; done) | (go_simp; rfl)); intro gb215 hg w13 hbox hb; have n0_ := ad_ (Kd.R_below (rod_ HO_5) hb); have n1_ := ad_ (blk_below (g := gb212) (o := .cells #[.string a0_0, .int .i64 a0_1, .slice (some ad214) l0_2.length c0_2] 24 (0, 0)) (blo_ BK212.out) hb); have n2_ := ad_ (below_step belg_ hb); have n3_ := ad_ (hbox); have n4_ := ad_ ((by rw [hg]; exact (below_size belg_) : w.heap.size ≤ gb215)); have n5_ := ad_ ((by rw [hg]; exact (below_size belg_) : w.heap.size ≤ gb215)); have n6_ := ad_ ((by rw [hg]; exact Nat.ne_of_lt (blk_lt (g := gb212) (o := .cells #[.string a0_0, .int .i64 a0_1, .slice (some ad214) l0_2.length c0_2] 24 (0, 0)) (blo_ BK212.out)) : gb212 ≠ gb215)); have n7_ := ad_ ((by rw [hg]; exact Nat.ne_of_gt (blk_lt (g := gb212) (o := .cells #[.string a0_0, .int .i64 a0_1, .slice (some ad214) l0_2.length c0_2] 24 (0, 0)) (blo_ BK212.out)) : gb215 ≠ gb212)); clear HO_5; clear BK212; clear HB; have HO_5 := n0_; have BK212 := n1_; have HB := n2_; have BK215 := n3_; have GW215 := n4_; have GE215 := n5_; have NB212_215 := n6_; have NB215_212 := n7_; clear n0_ n1_ n2_ n3_ n4_ n5_ n6_ n7_; clear hb hbox hg; have hnb14 := NB215_212.out; have hnc14 := NB212_215.out; have hcz15_ := cells11_ BK215.out) | ((with_reducible refine gate_builtin (b := .append) (xs := #[.tmp 17, .tmp 26]) rfl ?_); at_builtin; refine Kd.R_append k75 (w0 := w) w.heap.size rfl (.tmp 17) (.tmp 26) 72 75 (.agg #[(.int .i64 0), (.int .i64 0)]) 16 rfl Try.underlying72 info75 rfl (by decide) (by omega) u5 x5_1 (⟨wrap64 (((rd_T42 l0_2 x13_1).f0) - ((rd_T42 l0_2 x13_1).f1)), (rd_T42 l0_2 x13_1).f2⟩ : S75) [.int .i64 (wrap64 (((rd_T42 l0_2 x13_1).f0) - ((rd_T42 l0_2 x13_1).f1))), .int .i64 ((rd_T42 l0_2 x13_1).f2)] (fun _ => True) (fun _ => False) rfl (by first | (go_simp; done) | (go_simp; rfl)) ?aP (fun _ hk => hk.elim) ?aF ?aO ?aB ?aS ?aL ?_; (case aP => exact k75_mkM _ _ _ (⟨wrap64 (((rd_T42 l0_2 x13_1).f0) - ((rd_T42 l0_2 x13_1).f1)), (rd_T42 l0_2 x13_1).f2⟩ : S75)); (case aB => exact belg_); (case aF => exact (fun _ _ => trivial)); (case aO => exact (by (with_reducible repeat (first | apply Kd.R_alloc | apply Kd.R_drewN | apply Kd.R_drew)); exact Kd.R_mono (Kd.R_far (p := ⟨gb215, 10, none⟩) (Kd.R_far (p := ⟨gb215, 9, none⟩) (Kd.R_far (p := ⟨gb215, 8, none⟩) (Kd.R_far (p := ⟨gb215, 7, none⟩) (Kd.R_far (p := ⟨gb215, 6, none⟩) (Kd.R_far (p := ⟨gb215, 5, none⟩) (Kd.R_far (p := ⟨gb215, 4, none⟩) (Kd.R_far (p := ⟨gb215, 3, none⟩) (Kd.R_far (p := ⟨gb215, 2, none⟩) (Kd.R_far (p := ⟨gb215, 1, none⟩) (Kd.R_far (p := ⟨gb215, 0, none⟩) (Kd.R_types HO_5.out BK215.out (by decide)) (fun _ hk => hk.2) (.int .i64 ((rd_T42 l0_2 x13_1).f0))) (fun _ hk => hk.2) (.int .i64 ((rd_T42 l0_2 x13_1).f1))) (fun _ hk => hk.2) (.int .i64 ((rd_T42 l0_2 x13_1).f2))) (fun _ hk => hk.2) (.bool true)) (fun _ hk => hk.2) (.int .i64 ((rd_T42 l0_2 x13_1).f4.f0))) (fun _ hk => hk.2) (.int .i64 ((rd_T42 l0_2 x13_1).f4.f1))) (fun _ hk => hk.2) (.int .i64 ((rd_T42 l0_2 x13_1).f4.f2))) (fun _ hk => hk.2) (.int .i64 ((rd_T42 l0_2 x13_1).f4.f3))) (fun _ hk => hk.2) (.slice A214_8 ((rd_T42 l0_2 x13_1).f4.f4).length c214_8)) (fun _ hk => hk.2) (.slice A214_9 ((rd_T42 l0_2 x13_1).f4.f5).length c214_9)) (fun _ hk => hk.2) (.slice A214_10 ((rd_T42 l0_2 x13_1).f4.f6).length c214_10)) (fun _ hk => trivial))); (case aS => exact (below_size belg_)); (case aL => have := LMc8.out; omega); intro v217 w16 ho hb hg hat; rw [← Ny216.out] at ho; have n0_ := ad_ (blk_grown (g := gb212) (o := .cells #[.string a0_0, .int .i64 a0_1, .slice (some ad214) l0_2.length c0_2] 24 (0, 0)) (by (with_reducible repeat (first | refine blk_drewN ?_ _ | refine blk_drew ?_ | refine blk_alloc ?_ _)); refine blk_far ?_ NB212_215.out _; (with_reducible repeat (first | refine blk_drewN ?_ _ | refine blk_drew ?_ | refine blk_alloc ?_ _)); refine blk_far ?_ NB212_215.out _; (with_reducible repeat (first | refine blk_drewN ?_ _ | refine blk_drew ?_ | refine blk_alloc ?_ _)); refine blk_far ?_ NB212_215.out _; (with_reducible repeat (first | refine blk_drewN ?_ _ | refine blk_drew ?_ | refine blk_alloc ?_ _)); refine blk_far ?_ NB212_215.out _; (with_reducible repeat (first | refine blk_drewN ?_ _ | refine blk_drew ?_ | refine blk_alloc ?_ _)); refine blk_far ?_ NB212_215.out _; (with_reducible repeat (first | refine blk_drewN ?_ _ | refine blk_drew ?_ | refine blk_alloc ?_ _)); refine blk_far ?_ NB212_215.out _; (with_reducible repeat (first | refine blk_drewN ?_ _ | refine blk_drew ?_ | refine blk_alloc ?_ _)); refine blk_far ?_ NB212_215.out _; (with_reducible repeat (first | refine blk_drewN ?_ _ | refine blk_drew ?_ | refine blk_alloc ?_ _)); refine blk_far ?_ NB212_215.out _; (with_reducible repeat (first | refine blk_drewN ?_ _ | refine blk_drew ?_ | refine blk_alloc ?_ _)); refine blk_far ?_ NB212_215.out _; (with_reducible repeat (first | refine blk_drewN ?_ _ | refine blk_drew ?_ | refine blk_alloc ?_ _)); refine blk_far ?_ NB212_215.out _; (with_reducible repeat (first | refine blk_drewN ?_ _ | refine blk_drew ?_ | refine blk_alloc ?_ _)); refine blk_far ?_ NB212_215.out _; exact blo_ BK212.out) hg (Kd.R_ne HO_5.out BK212.out (by decide))); have n1_ := ad_ (blk_grown (g := gb215) (o := .cells #[.int .i64 ((rd_T42 l0_2 x13_1).f0), .int .i64 ((rd_T42 l0_2 x13_1).f1), .int .i64 ((rd_T42 l0_2 x13_1).f2), .bool true, .int .i64 ((rd_T42 l0_2 x13_1).f4.f0), .int .i64 ((rd_T42 l0_2 x13_1).f4.f1), .int .i64 ((rd_T42 l0_2 x13_1).f4.f2), .int .i64 ((rd_T42 l0_2 x13_1).f4.f3), .slice A214_8 ((rd_T42 l0_2 x13_1).f4.f4).length c214_8, .slice A214_9 ((rd_T42 l0_2 x13_1).f4.f5).length c214_9, .slice A214_10 ((rd_T42 l0_2 x13_1).f4.f6).length c214_10] 42 (0, 0)) (by refine blo_ ?_; refine blk_put (cs := #[.int .i64 ((rd_T42 l0_2 x13_1).f0), .int .i64 ((rd_T42 l0_2 x13_1).f1), .int .i64 ((rd_T42 l0_2 x13_1).f2), .bool true, .int .i64 ((rd_T42 l0_2 x13_1).f4.f0), .int .i64 ((rd_T42 l0_2 x13_1).f4.f1), .int .i64 ((rd_T42 l0_2 x13_1).f4.f2), .int .i64 ((rd_T42 l0_2 x13_1).f4.f3), .slice A214_8 ((rd_T42 l0_2 x13_1).f4.f4).length c214_8, .slice A214_9 ((rd_T42 l0_2 x13_1).f4.f5).length c214_9, .slice none 0 0]) ?_ 10 _ rfl; refine blo_ ?_; refine blk_put (cs := #[.int .i64 ((rd_T42 l0_2 x13_1).f0), .int .i64 ((rd_T42 l0_2 x13_1).f1), .int .i64 ((rd_T42 l0_2 x13_1).f2), .bool true, .int .i64 ((rd_T42 l0_2 x13_1).f4.f0), .int .i64 ((rd_T42 l0_2 x13_1).f4.f1), .int .i64 ((rd_T42 l0_2 x13_1).f4.f2), .int .i64 ((rd_T42 l0_2 x13_1).f4.f3), .slice A214_8 ((rd_T42 l0_2 x13_1).f4.f4).length c214_8, .slice none 0 0, .slice none 0 0]) ?_ 9 _ rfl; refine blo_ ?_; refine blk_put (cs := #[.int .i64 ((rd_T42 l0_2 x13_1).f0), .int .i64 ((rd_T42 l0_2 x13_1).f1), .int .i64 ((rd_T42 l0_2 x13_1).f2), .bool true, .int .i64 ((rd_T42 l0_2 x13_1).f4.f0), .int .i64 ((rd_T42 l0_2 x13_1).f4.f1), .int .i64 ((rd_T42 l0_2 x13_1).f4.f2), .int .i64 ((rd_T42 l0_2 x13_1).f4.f3), .slice none 0 0, .slice none 0 0, .slice none 0 0]) ?_ 8 _ rfl; refine blo_ ?_; refine blk_put (cs := #[.int .i64 ((rd_T42 l0_2 x13_1).f0), .int .i64 ((rd_T42 l0_2 x13_1).f1), .int .i64 ((rd_T42 l0_2 x13_1).f2), .bool true, .int .i64 ((rd_T42 l0_2 x13_1).f4.f0), .int .i64 ((rd_T42 l0_2 x13_1).f4.f1), .int .i64 ((rd_T42 l0_2 x13_1).f4.f2), .int .i64 0, .slice none 0 0, .slice none 0 0, .slice none 0 0]) ?_ 7 _ rfl; refine blo_ ?_; refine blk_put (cs := #[.int .i64 ((rd_T42 l0_2 x13_1).f0), .int .i64 ((rd_T42 l0_2 x13_1).f1), .int .i64 ((rd_T42 l0_2 x13_1).f2), .bool true, .int .i64 ((rd_T42 l0_2 x13_1).f4.f0), .int .i64 ((rd_T42 l0_2 x13_1).f4.f1), .int .i64 0, .int .i64 0, .slice none 0 0, .slice none 0 0, .slice none 0 0]) ?_ 6 _ rfl; refine blo_ ?_; refine blk_put (cs := #[.int .i64 ((rd_T42 l0_2 x13_1).f0), .int .i64 ((rd_T42 l0_2 x13_1).f1), .int .i64 ((rd_T42 l0_2 x13_1).f2), .bool true, .int .i64 ((rd_T42 l0_2 x13_1).f4.f0), .int .i64 0, .int .i64 0, .int .i64 0, .slice none 0 0, .slice none 0 0, .slice none 0 0]) ?_ 5 _ rfl; refine blo_ ?_; refine blk_put (cs := #[.int .i64 ((rd_T42 l0_2 x13_1).f0), .int .i64 ((rd_T42 l0_2 x13_1).f1), .int .i64 ((rd_T42 l0_2 x13_1).f2), .bool true, .int .i64 0, .int .i64 0, .int .i64 0, .int .i64 0, .slice none 0 0, .slice none 0 0, .slice none 0 0]) ?_ 4 _ rfl; refine blo_ ?_; refine blk_put (cs := #[.int .i64 ((rd_T42 l0_2 x13_1).f0), .int .i64 ((rd_T42 l0_2 x13_1).f1), .int .i64 ((rd_T42 l0_2 x13_1).f2), .bool false, .int .i64 0, .int .i64 0, .int .i64 0, .int .i64 0, .slice none 0 0, .slice none 0 0, .slice none 0 0]) ?_ 3 _ rfl; refine blo_ ?_; refine blk_put (cs := #[.int .i64 ((rd_T42 l0_2 x13_1).f0), .int .i64 ((rd_T42 l0_2 x13_1).f1), .int .i64 0, .bool false, .int .i64 0, .int .i64 0, .int .i64 0, .int .i64 0, .slice none 0 0, .slice none 0 0, .slice none 0 0]) ?_ 2 _ rfl; refine blo_ ?_; refine blk_put (cs := #[.int .i64 ((rd_T42 l0_2 x13_1).f0), .int .i64 0, .int .i64 0, .bool false, .int .i64 0, .int .i64 0, .int .i64 0, .int .i64 0, .slice none 0 0, .slice none 0 0, .slice none 0 0]) ?_ 1 _ rfl; refine blo_ ?_; refine blk_put (cs := #[.int .i64 0, .int .i64 0, .int .i64 0, .bool false, .int .i64 0, .int .i64 0, .int .i64 0, .int .i64 0, .slice none 0 0, .slice none 0 0, .slice none 0 0]) ?_ 0 _ rfl; exact blo_ BK215.out) hg (Kd.R_ne HO_5.out BK215.out (by decide))); have n2_ := ad_ (hb); have n3_ := ad_ (ho); clear BK212; clear BK215; clear HB; clear HO_5; have BK212 := n0_; have BK215 := n1_; have HB := n2_; have HO218 := n3_; clear n0_ n1_ n2_ n3_; clear ho hb hg hat; have hcz17_ := cells11_ BK215.out) | ((with_reducible refine gate_callee (f := 56) rfl ?_); refine goesL_ (some 32) rfl rfl Try.func56 (by kernel_rfl) rfl #[.int .i64 a1] rfl arg_ ?_; (with_reducible refine (zone_yearOf.calls k1 a1 t219 _ A11.out).mono ?_); rintro e w18 ⟨rfl, hb⟩; refine ⟨_, rfl, ?_⟩; have n0_ := ad_ (Kd.R_below (rod_ HO218) hb); have n1_ := ad_ (blk_below (g := gb212) (o := .cells #[.string a0_0, .int .i64 a0_1, .slice (some ad214) l0_2.length c0_2] 24 (0, 0)) (blo_ BK212.out) hb); have n2_ := ad_ (blk_below (g := gb215) (o := .cells #[.int .i64 ((rd_T42 l0_2 x13_1).f0), .int .i64 ((rd_T42 l0_2 x13_1).f1), .int .i64 ((rd_T42 l0_2 x13_1).f2), .bool true, .int .i64 ((rd_T42 l0_2 x13_1).f4.f0), .int .i64 ((rd_T42 l0_2 x13_1).f4.f1), .int .i64 ((rd_T42 l0_2 x13_1).f4.f2), .int .i64 ((rd_T42 l0_2 x13_1).f4.f3), .slice A214_8 ((rd_T42 l0_2 x13_1).f4.f4).length c214_8, .slice A214_9 ((rd_T42 l0_2 x13_1).f4.f5).length c214_9, .slice A214_10 ((rd_T42 l0_2 x13_1).f4.f6).length c214_10] 42 (0, 0)) (blo_ BK215.out) hb); have n3_ := ad_ (below_step belg_ hb); clear HO218; clear BK212; clear BK215; clear HB; have HO218 := n0_; have BK212 := n1_; have BK215 := n2_; have HB := n3_; clear n0_ n1_ n2_ n3_; (try clear hb); (try clear hb2); (try clear hk); (try clear hi); have hcz19_ := cells11_ BK215.out))
        (try simp only [Act.put, List.setIfInBounds_toArray, List.set_cons_zero, List.set_cons_succ])
        go_cut [8] (fun v8 wc => ∃ (kq : Nat) (x8_11 : Int), v8 = .int .i64 x8_11 ∧ Aside0 (zone_Zone_changes.j1 kq a1 y216 x8_11 l0_2 (l0_2.length : Int) x13_1 ((rd_T42 l0_2 x13_1).f0) ((rd_T42 l0_2 x13_1).f1) ((rd_T42 l0_2 x13_1).f2) true ((rd_T42 l0_2 x13_1).f4.f0) ((rd_T42 l0_2 x13_1).f4.f1) ((rd_T42 l0_2 x13_1).f4.f2) ((rd_T42 l0_2 x13_1).f4.f3) ((rd_T42 l0_2 x13_1).f4.f4) ((rd_T42 l0_2 x13_1).f4.f5) ((rd_T42 l0_2 x13_1).f4.f6) = some r) ∧ Aside0 (kq ≤ k1) ∧ Aside0 (Kd.R k75 75 wc w.heap.size (fun _ => True) v217 y216) ∧ Aside0 (wc.heap[gb212]? = some (.cells #[.string a0_0, .int .i64 a0_1, (.slice (some ad214) l0_2.length c0_2)] 24 (0, 0))) ∧ Aside0 (wc.heap[gb215]? = some (.cells #[.int .i64 ((rd_T42 l0_2 x13_1).f0), .int .i64 ((rd_T42 l0_2 x13_1).f1), .int .i64 ((rd_T42 l0_2 x13_1).f2), .bool true, .int .i64 ((rd_T42 l0_2 x13_1).f4.f0), .int .i64 ((rd_T42 l0_2 x13_1).f4.f1), .int .i64 ((rd_T42 l0_2 x13_1).f4.f2), .int .i64 ((rd_T42 l0_2 x13_1).f4.f3), (.slice A214_8 ((rd_T42 l0_2 x13_1).f4.f4).length c214_8), (.slice A214_9 ((rd_T42 l0_2 x13_1).f4.f5).length c214_9), (.slice A214_10 ((rd_T42 l0_2 x13_1).f4.f6).length c214_10)] 42 (0, 0))) ∧ Aside0 (Below w.heap.size w wc))
        case first =>
         have H := HC12.out
         clear HC12
         by_cases c20 : ((rd_T42 l0_2 x13_1).f4.f3) = (-1)
         ·rw [if_pos c20] at H
          have c20b0 : (((rd_T42 l0_2 x13_1).f4.f3) == (-1)) = true := beq_iff_eq.mpr c20
          have c20b1 : (((rd_T42 l0_2 x13_1).f4.f3) != (-1)) = false := bne_eq_false_iff_eq.mpr c20
          clear c20
          (first | rw [c20b0] | (simp only [i64_w, i32_w]; rw [c20b0]) | skip)
          have H' := Aside0.mk H
          clear H
          go_wp2
          go_meet
          case rel => exact ⟨_, (t219), val_, H', ⟨by have := HK1.out; first | omega | exact Nat.le_refl _⟩, ⟨rod_ HO218⟩, ⟨blo_ BK212.out⟩, ⟨blo_ BK215.out⟩, ⟨belg_⟩⟩
         ·rw [if_neg c20] at H
          have c20b0 : (((rd_T42 l0_2 x13_1).f4.f3) == (-1)) = false := beq_eq_false_iff_ne.mpr c20
          have c20b1 : (((rd_T42 l0_2 x13_1).f4.f3) != (-1)) = true := bne_iff_ne.mpr c20
          (first | rw [c20b0] | (simp only [i64_w, i32_w]; rw [c20b0]) | skip)
          replace H := Option.bind_eq_some_iff.mp H
          obtain ⟨t220, A210, H⟩ := H
          try dsimp only at H
          have A21 := Aside0.mk A210
          clear A210
          obtain ⟨ji22, hji22⟩ : ∃ j_ : Int, (mn t219 t220) = j_ := ⟨_, rfl⟩
          replace H : (zone_Zone_changes.j1 k1 a1 y216 ji22 l0_2 (l0_2.length : Int) x13_1 ((rd_T42 l0_2 x13_1).f0) ((rd_T42 l0_2 x13_1).f1) ((rd_T42 l0_2 x13_1).f2) true ((rd_T42 l0_2 x13_1).f4.f0) ((rd_T42 l0_2 x13_1).f4.f1) ((rd_T42 l0_2 x13_1).f4.f2) ((rd_T42 l0_2 x13_1).f4.f3) ((rd_T42 l0_2 x13_1).f4.f4) ((rd_T42 l0_2 x13_1).f4.f5) ((rd_T42 l0_2 x13_1).f4.f6)) = some r := by first | (rw [hji22] at H; exact H) | (simp only [hji22] at H ⊢; exact H)
          (try rw [hji22] at A21)
          have hji22_ : (if t220 < t219 then t220 else t219) = ji22 := hji22
          have H' := Aside0.mk H
          clear H
          have hnb23 := NB215_212.out
          have hnc23 := NB212_215.out
          have hcz24_ := cells11_ BK215.out
          go_wp2_with (first | ((with_reducible refine gate_callee (f := 56) rfl ?_); refine goesL_ (some 41) rfl rfl Try.func56 (by kernel_rfl) rfl #[.int .i64 ((rd_T42 l0_2 x13_1).f4.f3)] rfl arg_ ?_; (with_reducible refine (zone_yearOf.calls k1 ((rd_T42 l0_2 x13_1).f4.f3) t220 _ A21.out).mono ?_); rintro e w25 ⟨rfl, hb⟩; refine ⟨_, rfl, ?_⟩; have n0_ := ad_ (Kd.R_below (rod_ HO218) hb); have n1_ := ad_ (blk_below (g := gb212) (o := .cells #[.string a0_0, .int .i64 a0_1, .slice (some ad214) l0_2.length c0_2] 24 (0, 0)) (blo_ BK212.out) hb); have n2_ := ad_ (blk_below (g := gb215) (o := .cells #[.int .i64 ((rd_T42 l0_2 x13_1).f0), .int .i64 ((rd_T42 l0_2 x13_1).f1), .int .i64 ((rd_T42 l0_2 x13_1).f2), .bool true, .int .i64 ((rd_T42 l0_2 x13_1).f4.f0), .int .i64 ((rd_T42 l0_2 x13_1).f4.f1), .int .i64 ((rd_T42 l0_2 x13_1).f4.f2), .int .i64 ((rd_T42 l0_2 x13_1).f4.f3), .slice A214_8 ((rd_T42 l0_2 x13_1).f4.f4).length c214_8, .slice A214_9 ((rd_T42 l0_2 x13_1).f4.f5).length c214_9, .slice A214_10 ((rd_T42 l0_2 x13_1).f4.f6).length c214_10] 42 (0, 0)) (blo_ BK215.out) hb); have n3_ := ad_ (below_step belg_ hb); clear HO218; clear BK212; clear BK215; clear HB; have HO218 := n0_; have BK212 := n1_; have BK215 := n2_; have HB := n3_; clear n0_ n1_ n2_ n3_; (try clear hb); (try clear hb2); (try clear hk); (try clear hi)))
          go_meet
          case rel => exact ⟨_, (ji22), (by first | rfl | (simp; done) | (simp only [← hji22] <;> (first | rfl | simp)) | (simp [*]; done)), H', ⟨by have := HK1.out; first | omega | exact Nat.le_refl _⟩, ⟨rod_ HO218⟩, ⟨blo_ BK212.out⟩, ⟨blo_ BK215.out⟩, ⟨belg_⟩⟩
        case rest =>
         clear HC12
         try clear c1
         try clear c2
         try clear p2
         try clear q2
         try clear hx2
         try clear c4
         try clear c5
         try clear c5b0
         try clear c6
         try clear c6b0
         try clear p6
         try clear c7
         try clear c7b0
         try clear c8
         try clear q9
         try clear c10
         try clear c14
         try clear c20
         try clear c20b0
         try clear c20b1
         try clear c21
         try clear p21
         try clear q21
         try clear hx21
         try clear c23
         try clear hcz15_
         try clear hcz17_
         try clear hcz19_
         try clear hcz24_
         try clear hcz4_
         try clear hx214_0
         try clear hx214_1
         try clear hx214_10
         try clear hx214_2
         try clear hx214_3
         try clear hx214_4
         try clear hx214_5
         try clear hx214_6
         try clear hx214_7
         try clear hx214_8
         try clear hx214_9
         try clear p2
         try clear p214
         try clear q214
         obtain ⟨kq, x8_11, rfl, HA, HJ11, HO_5, BK212, BK215, HB⟩ := hcut
         cases kq with
         | zero => exact absurd HA.out (by simp [zone_Zone_changes.j1])
         | succ kj11 =>
          have H := HA.out
          clear HA
          simp only [zone_Zone_changes.j1] at H
          have H' := Aside0.mk H
          clear H
          go_wp2
          go_loopg [5, 43] kj11 (fun kq v5 v43 w' => ∃ (x5_3 : List (S75)) (x43_3 : Int), v43 = .int .i64 x43_3 ∧ Aside0 (zone_Zone_changes.l1 kq a1 x5_3 x8_11 l0_2 (l0_2.length : Int) x13_1 x43_3 ((rd_T42 l0_2 x13_1).f0) ((rd_T42 l0_2 x13_1).f1) ((rd_T42 l0_2 x13_1).f2) true ((rd_T42 l0_2 x13_1).f4.f0) ((rd_T42 l0_2 x13_1).f4.f1) ((rd_T42 l0_2 x13_1).f4.f2) ((rd_T42 l0_2 x13_1).f4.f3) ((rd_T42 l0_2 x13_1).f4.f4) ((rd_T42 l0_2 x13_1).f4.f5) ((rd_T42 l0_2 x13_1).f4.f6) = some r) ∧ Aside0 (kq ≤ kj11) ∧ Aside0 (Kd.R k75 75 w' w.heap.size (fun _ => True) v5 x5_3) ∧ Aside0 (w'.heap[gb212]? = some (.cells #[.string a0_0, .int .i64 a0_1, (.slice (some ad214) l0_2.length c0_2)] 24 (0, 0))) ∧ Aside0 (w'.heap[gb215]? = some (.cells #[.int .i64 ((rd_T42 l0_2 x13_1).f0), .int .i64 ((rd_T42 l0_2 x13_1).f1), .int .i64 ((rd_T42 l0_2 x13_1).f2), .bool true, .int .i64 ((rd_T42 l0_2 x13_1).f4.f0), .int .i64 ((rd_T42 l0_2 x13_1).f4.f1), .int .i64 ((rd_T42 l0_2 x13_1).f4.f2), .int .i64 ((rd_T42 l0_2 x13_1).f4.f3), (.slice A214_8 ((rd_T42 l0_2 x13_1).f4.f4).length c214_8), (.slice A214_9 ((rd_T42 l0_2 x13_1).f4.f5).length c214_9), (.slice A214_10 ((rd_T42 l0_2 x13_1).f4.f6).length c214_10)] 42 (0, 0))) ∧ Aside0 (Below w.heap.size w w'))
          case atStart => exact ⟨(y216), (0), val_, H', ⟨Nat.le_refl _⟩, ⟨rod_ HO_5⟩, ⟨blo_ BK212.out⟩, ⟨blo_ BK215.out⟩, ⟨belg_⟩⟩
          case round =>
           clear H'
           try clear c1
           try clear c2
           try clear p2
           try clear q2
           try clear hx2
           try clear c4
           try clear c5
           try clear c5b0
           try clear c6
           try clear c6b0
           try clear p6
           try clear c7
           try clear c7b0
           try clear c8
           try clear q9
           try clear c10
           try clear c14
           try clear c20
           try clear c20b0
           try clear c20b1
           try clear c21
           try clear p21
           try clear q21
           try clear hx21
           try clear c23
           try clear hcz15_
           try clear hcz17_
           try clear hcz19_
           try clear hcz24_
           try clear hcz4_
           try clear hx214_0
           try clear hx214_1
           try clear hx214_10
           try clear hx214_2
           try clear hx214_3
           try clear hx214_4
           try clear hx214_5
           try clear hx214_6
           try clear hx214_7
           try clear hx214_8
           try clear hx214_9
           try clear p2
           try clear p21
           try clear p214
           try clear p6
           try clear q2
           try clear q21
           try clear q214
           try clear q9
           obtain ⟨x5_3, x43_3, rfl, HA, HK3, HO_5, BK212, BK215, HB⟩ := hrel
           cases gk with
           | zero => exact absurd HA.out (by simp [zone_Zone_changes.l1])
           | succ k3 =>
            have H := HA.out
            clear HA
            simp only [zone_Zone_changes.l1] at H
            by_cases c26 : x43_3 < 3
            ·rw [if_pos c26] at H
             have c26b0 : decide (x43_3 < 3) = true := decide_eq_true c26
             clear c26
             replace H := Option.bind_eq_some_iff.mp H
             obtain ⟨t221, A270, H⟩ := H
             try dsimp only at H
             have A27 := Aside0.mk A270
             clear A270
             have H' := Aside0.mk H
             clear H
             have hnb28 := NB215_212.out
             have hnc28 := NB212_215.out
             have hcz29_ := cells11_ BK215.out
             obtain ⟨Ao30, co30, eo30⟩ := Kd.R_slice HO_5.out
             subst eo30
             go_wp2_with (first | ((with_reducible refine gate_callee (f := 57) rfl ?_); refine goesL_ (some 52) rfl rfl Try.func57 (by kernel_rfl) rfl #[.agg #[.int .i64 ((rd_T42 l0_2 x13_1).f0), .int .i64 ((rd_T42 l0_2 x13_1).f1), .int .i64 ((rd_T42 l0_2 x13_1).f2), .bool true, .int .i64 ((rd_T42 l0_2 x13_1).f4.f0), .int .i64 ((rd_T42 l0_2 x13_1).f4.f1), .int .i64 ((rd_T42 l0_2 x13_1).f4.f2), .int .i64 ((rd_T42 l0_2 x13_1).f4.f3), .slice A214_8 ((rd_T42 l0_2 x13_1).f4.f4).length c214_8, .slice A214_9 ((rd_T42 l0_2 x13_1).f4.f5).length c214_9, .slice A214_10 ((rd_T42 l0_2 x13_1).f4.f6).length c214_10], .slice Ao30 x5_3.length co30, .int .i64 (wrap64 ((wrap64 (x8_11 - 1)) + x43_3))] rfl arg_ ?_; (with_reducible refine (zone_Onset_year.calls k3 ((rd_T42 l0_2 x13_1).f0) ((rd_T42 l0_2 x13_1).f1) ((rd_T42 l0_2 x13_1).f2) true ((rd_T42 l0_2 x13_1).f4.f0) ((rd_T42 l0_2 x13_1).f4.f1) ((rd_T42 l0_2 x13_1).f4.f2) ((rd_T42 l0_2 x13_1).f4.f3) _ _ ((rd_T42 l0_2 x13_1).f4.f4) _ _ ((rd_T42 l0_2 x13_1).f4.f5) _ _ ((rd_T42 l0_2 x13_1).f4.f6) (fun k_ => some k_ = (.slice Ao30 x5_3.length co30 : Value).ownBlock) (.slice Ao30 x5_3.length co30) x5_3 (wrap64 ((wrap64 (x8_11 - 1)) + x43_3)) t221 w _ ?side1 ?side2 ?side3 ?side4 ?side5 ?side6 ?side7 ?side8 A27.out).mono ?_); (case side1 => repeat (first | (with_reducible first | exact HB.out | apply below_alloc | apply pw_below_drewN | apply below_drew1 | refine below_set ?_ GE212.out | refine below_set ?_ GE215.out) | exact HB.out)); (case side2 => exact Kd.C_kept_came (Kd.heap_int .i64) HR214_8.out belg_ (fun k_ hs_ => (fun e_ => Kd.R_base HO_5.out k_ e_.symm) hs_)); (case side3 => exact HC214_8.out); (case side4 => exact Kd.C_kept_came (Kd.heap_int .i64) HR214_9.out belg_ (fun k_ hs_ => (fun e_ => Kd.R_base HO_5.out k_ e_.symm) hs_)); (case side5 => exact HC214_9.out); (case side6 => exact Kd.C_kept_came k79_heap HR214_10.out belg_ (fun k_ hs_ => (fun e_ => Kd.R_base HO_5.out k_ e_.symm) hs_)); (case side7 => exact HC214_10.out); (case side8 => exact Kd.R_tight rfl HO_5.out); rintro e w31 ⟨v222, rfl, ho0, hb, hkp⟩; refine ⟨_, rfl, ?_⟩; have n0_ := ad_ (blk_kept (blo_ BK212.out) hkp (fun hs_ => (fun e_ => (Kd.R_ne HO_5.out BK212.out (by decide)) e_) hs_)); have n1_ := ad_ (blk_kept (blo_ BK215.out) hkp (fun hs_ => (fun e_ => (Kd.R_ne HO_5.out BK215.out (by decide)) e_) hs_)); have n2_ := ad_ (Kd.R_mono (ok' := fun k_ => True) ho0 (fun k_ hk_ => trivial)); have n3_ := ad_ (hb); clear BK212; clear BK215; clear HB; clear HO_5; have BK212 := n0_; have BK215 := n1_; have HO223 := n2_; have HB := n3_; clear n0_ n1_ n2_ n3_; (try clear hb); (try clear hkp); (try clear ho0)))
             go_roundg k3
             case measure => have := HK1.out; have := HJ11.out; have := HK3.out; omega
             case rel => exact ⟨(t221), (wrap64 (x43_3 + 1)), val_, H', ⟨by have := HK1.out; have := HJ11.out; have := HK3.out; omega⟩, ⟨rod_ HO223⟩, ⟨blo_ BK212.out⟩, ⟨blo_ BK215.out⟩, ⟨belg_⟩⟩
            ·rw [if_neg c26] at H
             have c26b0 : decide (x43_3 < 3) = false := decide_eq_false c26
             clear c26
             have H' := Aside0.mk H
             clear H
             go_wp2
             go_roundg k3
             case measure => have := HK1.out; have := HJ11.out; have := HK3.out; omega
             case rel => exact ⟨(x5_3), (wrap64 (x13_1 + 1)), val_, H', ⟨by have := HK1.out; have := HJ11.out; have := HK3.out; omega⟩, ⟨rod_ HO_5⟩, ⟨blo_ BK212.out⟩, ⟨belg_⟩⟩
       ·replace c10 := Bool.eq_false_iff.mpr c10
        subst c10
        have H1 := ifn_ H
        clear H
        have H := H1
        clear H1
        have H' := Aside0.mk H
        clear H
        have p214 : 0 ≤ (x13_1 : Int) := dec_
        have q214 : x13_1 < (l0_2.length : Int) := dec_
        obtain ⟨ad214, A214_8, c214_8, A214_9, c214_9, A214_10, c214_10, e214, hx214_0, hx214_1, hx214_2, hx214_3, hx214_4, hx214_5, hx214_6, hx214_7, hx214_8, hx214_9, hx214_10, hl214_8, hi214_8, hl214_9, hi214_9, hl214_10, hi214_10⟩ := at_T42 HR0_2.out x13_1 p214 q214
        (try rw [← Nbq9.out] at hx214_3)
        cases e214
        replace hx214_0 := (HB.out.cell (World.block_lt_of_cell? w _ hx214_0)).trans hx214_0
        replace hx214_1 := (HB.out.cell (World.block_lt_of_cell? w _ hx214_1)).trans hx214_1
        replace hx214_2 := (HB.out.cell (World.block_lt_of_cell? w _ hx214_2)).trans hx214_2
        replace hx214_3 := (HB.out.cell (World.block_lt_of_cell? w _ hx214_3)).trans hx214_3
        replace hx214_4 := (HB.out.cell (World.block_lt_of_cell? w _ hx214_4)).trans hx214_4
        replace hx214_5 := (HB.out.cell (World.block_lt_of_cell? w _ hx214_5)).trans hx214_5
        replace hx214_6 := (HB.out.cell (World.block_lt_of_cell? w _ hx214_6)).trans hx214_6
        replace hx214_7 := (HB.out.cell (World.block_lt_of_cell? w _ hx214_7)).trans hx214_7
        replace hx214_8 := (HB.out.cell (World.block_lt_of_cell? w _ hx214_8)).trans hx214_8
        replace hx214_9 := (HB.out.cell (World.block_lt_of_cell? w _ hx214_9)).trans hx214_9
        replace hx214_10 := (HB.out.cell (World.block_lt_of_cell? w _ hx214_10)).trans hx214_10
        have HR214_8 := Aside0.mk hi214_8
        have HC214_8 := Aside0.mk hl214_8
        clear hi214_8 hl214_8
        have HR214_9 := Aside0.mk hi214_9
        have HC214_9 := Aside0.mk hl214_9
        clear hi214_9 hl214_9
        have HR214_10 := Aside0.mk hi214_10
        have HC214_10 := Aside0.mk hl214_10
        clear hi214_10 hl214_10
        replace p214 := eq_true p214
        replace q214 := eq_true q214
        go_wp2_with (first | ((with_reducible refine gate_dst (N := 7) rfl ?_); refine box_event ?hg (N := 7) ?hd (cs := #[.int .i64 0, .int .i64 0, .int .i64 0, .bool false, .int .i64 0, .int .i64 0, .int .i64 0, .int .i64 0, .slice none 0 0, .slice none 0 0, .slice none 0 0]) (t := 42) ?hr ?_; (case hd => rfl); (case hg => rfl); (case hr => first | (go_simp; done) | (go_simp; rfl)); intro gb215 hg w32 hbox hb; have n0_ := ad_ (Kd.R_below (rod_ HO_5) hb); have n1_ := ad_ (blk_below (g := gb212) (o := .cells #[.string a0_0, .int .i64 a0_1, .slice (some ad214) l0_2.length c0_2] 24 (0, 0)) (blo_ BK212.out) hb); have n2_ := ad_ (below_step belg_ hb); have n3_ := ad_ (hbox); have n4_ := ad_ ((by rw [hg]; exact (below_size belg_) : w.heap.size ≤ gb215)); have n5_ := ad_ ((by rw [hg]; exact (below_size belg_) : w.heap.size ≤ gb215)); have n6_ := ad_ ((by rw [hg]; exact Nat.ne_of_lt (blk_lt (g := gb212) (o := .cells #[.string a0_0, .int .i64 a0_1, .slice (some ad214) l0_2.length c0_2] 24 (0, 0)) (blo_ BK212.out)) : gb212 ≠ gb215)); have n7_ := ad_ ((by rw [hg]; exact Nat.ne_of_gt (blk_lt (g := gb212) (o := .cells #[.string a0_0, .int .i64 a0_1, .slice (some ad214) l0_2.length c0_2] 24 (0, 0)) (blo_ BK212.out)) : gb215 ≠ gb212)); clear HO_5; clear BK212; clear HB; have HO_5 := n0_; have BK212 := n1_; have HB := n2_; have BK215 := n3_; have GW215 := n4_; have GE215 := n5_; have NB212_215 := n6_; have NB215_212 := n7_; clear n0_ n1_ n2_ n3_ n4_ n5_ n6_ n7_; clear hb hbox hg; have hnb33 := NB215_212.out; have hnc33 := NB212_215.out; have hcz34_ := cells11_ BK215.out) | ((with_reducible refine gate_builtin (b := .append) (xs := #[.tmp 17, .tmp 26]) rfl ?_); at_builtin; refine Kd.R_append k75 (w0 := w) w.heap.size rfl (.tmp 17) (.tmp 26) 72 75 (.agg #[(.int .i64 0), (.int .i64 0)]) 16 rfl Try.underlying72 info75 rfl (by decide) (by omega) u5 x5_1 (⟨wrap64 (((rd_T42 l0_2 x13_1).f0) - ((rd_T42 l0_2 x13_1).f1)), (rd_T42 l0_2 x13_1).f2⟩ : S75) [.int .i64 (wrap64 (((rd_T42 l0_2 x13_1).f0) - ((rd_T42 l0_2 x13_1).f1))), .int .i64 ((rd_T42 l0_2 x13_1).f2)] (fun _ => True) (fun _ => False) rfl (by first | (go_simp; done) | (go_simp; rfl)) ?aP (fun _ hk => hk.elim) ?aF ?aO ?aB ?aS ?aL ?_; (case aP => exact k75_mkM _ _ _ (⟨wrap64 (((rd_T42 l0_2 x13_1).f0) - ((rd_T42 l0_2 x13_1).f1)), (rd_T42 l0_2 x13_1).f2⟩ : S75)); (case aB => exact belg_); (case aF => exact (fun _ _ => trivial)); (case aO => exact (by (with_reducible repeat (first | apply Kd.R_alloc | apply Kd.R_drewN | apply Kd.R_drew)); exact Kd.R_mono (Kd.R_far (p := ⟨gb215, 10, none⟩) (Kd.R_far (p := ⟨gb215, 9, none⟩) (Kd.R_far (p := ⟨gb215, 8, none⟩) (Kd.R_far (p := ⟨gb215, 7, none⟩) (Kd.R_far (p := ⟨gb215, 6, none⟩) (Kd.R_far (p := ⟨gb215, 5, none⟩) (Kd.R_far (p := ⟨gb215, 4, none⟩) (Kd.R_far (p := ⟨gb215, 3, none⟩) (Kd.R_far (p := ⟨gb215, 2, none⟩) (Kd.R_far (p := ⟨gb215, 1, none⟩) (Kd.R_far (p := ⟨gb215, 0, none⟩) (Kd.R_types HO_5.out BK215.out (by decide)) (fun _ hk => hk.2) (.int .i64 ((rd_T42 l0_2 x13_1).f0))) (fun _ hk => hk.2) (.int .i64 ((rd_T42 l0_2 x13_1).f1))) (fun _ hk => hk.2) (.int .i64 ((rd_T42 l0_2 x13_1).f2))) (fun _ hk => hk.2) (.bool false)) (fun _ hk => hk.2) (.int .i64 ((rd_T42 l0_2 x13_1).f4.f0))) (fun _ hk => hk.2) (.int .i64 ((rd_T42 l0_2 x13_1).f4.f1))) (fun _ hk => hk.2) (.int .i64 ((rd_T42 l0_2 x13_1).f4.f2))) (fun _ hk => hk.2) (.int .i64 ((rd_T42 l0_2 x13_1).f4.f3))) (fun _ hk => hk.2) (.slice A214_8 ((rd_T42 l0_2 x13_1).f4.f4).length c214_8)) (fun _ hk => hk.2) (.slice A214_9 ((rd_T42 l0_2 x13_1).f4.f5).length c214_9)) (fun _ hk => hk.2) (.slice A214_10 ((rd_T42 l0_2 x13_1).f4.f6).length c214_10)) (fun _ hk => trivial))); (case aS => exact (below_size belg_)); (case aL => have := LMc8.out; omega); intro v217 w35 ho hb hg hat; rw [← Ny216.out] at ho; have n0_ := ad_ (blk_grown (g := gb212) (o := .cells #[.string a0_0, .int .i64 a0_1, .slice (some ad214) l0_2.length c0_2] 24 (0, 0)) (by (with_reducible repeat (first | refine blk_drewN ?_ _ | refine blk_drew ?_ | refine blk_alloc ?_ _)); refine blk_far ?_ NB212_215.out _; (with_reducible repeat (first | refine blk_drewN ?_ _ | refine blk_drew ?_ | refine blk_alloc ?_ _)); refine blk_far ?_ NB212_215.out _; (with_reducible repeat (first | refine blk_drewN ?_ _ | refine blk_drew ?_ | refine blk_alloc ?_ _)); refine blk_far ?_ NB212_215.out _; (with_reducible repeat (first | refine blk_drewN ?_ _ | refine blk_drew ?_ | refine blk_alloc ?_ _)); refine blk_far ?_ NB212_215.out _; (with_reducible repeat (first | refine blk_drewN ?_ _ | refine blk_drew ?_ | refine blk_alloc ?_ _)); refine blk_far ?_ NB212_215.out _; (with_reducible repeat (first | refine blk_drewN ?_ _ | refine blk_drew ?_ | refine blk_alloc ?_ _)); refine blk_far ?_ NB212_215.out _; (with_reducible repeat (first | refine blk_drewN ?_ _ | refine blk_drew ?_ | refine blk_alloc ?_ _)); refine blk_far ?_ NB212_215.out _; (with_reducible repeat (first | refine blk_drewN ?_ _ | refine blk_drew ?_ | refine blk_alloc ?_ _)); refine blk_far ?_ NB212_215.out _; (with_reducible repeat (first | refine blk_drewN ?_ _ | refine blk_drew ?_ | refine blk_alloc ?_ _)); refine blk_far ?_ NB212_215.out _; (with_reducible repeat (first | refine blk_drewN ?_ _ | refine blk_drew ?_ | refine blk_alloc ?_ _)); refine blk_far ?_ NB212_215.out _; (with_reducible repeat (first | refine blk_drewN ?_ _ | refine blk_drew ?_ | refine blk_alloc ?_ _)); refine blk_far ?_ NB212_215.out _; exact blo_ BK212.out) hg (Kd.R_ne HO_5.out BK212.out (by decide))); have n1_ := ad_ (blk_grown (g := gb215) (o := .cells #[.int .i64 ((rd_T42 l0_2 x13_1).f0), .int .i64 ((rd_T42 l0_2 x13_1).f1), .int .i64 ((rd_T42 l0_2 x13_1).f2), .bool false, .int .i64 ((rd_T42 l0_2 x13_1).f4.f0), .int .i64 ((rd_T42 l0_2 x13_1).f4.f1), .int .i64 ((rd_T42 l0_2 x13_1).f4.f2), .int .i64 ((rd_T42 l0_2 x13_1).f4.f3), .slice A214_8 ((rd_T42 l0_2 x13_1).f4.f4).length c214_8, .slice A214_9 ((rd_T42 l0_2 x13_1).f4.f5).length c214_9, .slice A214_10 ((rd_T42 l0_2 x13_1).f4.f6).length c214_10] 42 (0, 0)) (by refine blo_ ?_; refine blk_put (cs := #[.int .i64 ((rd_T42 l0_2 x13_1).f0), .int .i64 ((rd_T42 l0_2 x13_1).f1), .int .i64 ((rd_T42 l0_2 x13_1).f2), .bool false, .int .i64 ((rd_T42 l0_2 x13_1).f4.f0), .int .i64 ((rd_T42 l0_2 x13_1).f4.f1), .int .i64 ((rd_T42 l0_2 x13_1).f4.f2), .int .i64 ((rd_T42 l0_2 x13_1).f4.f3), .slice A214_8 ((rd_T42 l0_2 x13_1).f4.f4).length c214_8, .slice A214_9 ((rd_T42 l0_2 x13_1).f4.f5).length c214_9, .slice none 0 0]) ?_ 10 _ rfl; refine blo_ ?_; refine blk_put (cs := #[.int .i64 ((rd_T42 l0_2 x13_1).f0), .int .i64 ((rd_T42 l0_2 x13_1).f1), .int .i64 ((rd_T42 l0_2 x13_1).f2), .bool false, .int .i64 ((rd_T42 l0_2 x13_1).f4.f0), .int .i64 ((rd_T42 l0_2 x13_1).f4.f1), .int .i64 ((rd_T42 l0_2 x13_1).f4.f2), .int .i64 ((rd_T42 l0_2 x13_1).f4.f3), .slice A214_8 ((rd_T42 l0_2 x13_1).f4.f4).length c214_8, .slice none 0 0, .slice none 0 0]) ?_ 9 _ rfl; refine blo_ ?_; refine blk_put (cs := #[.int .i64 ((rd_T42 l0_2 x13_1).f0), .int .i64 ((rd_T42 l0_2 x13_1).f1), .int .i64 ((rd_T42 l0_2 x13_1).f2), .bool false, .int .i64 ((rd_T42 l0_2 x13_1).f4.f0), .int .i64 ((rd_T42 l0_2 x13_1).f4.f1), .int .i64 ((rd_T42 l0_2 x13_1).f4.f2), .int .i64 ((rd_T42 l0_2 x13_1).f4.f3), .slice none 0 0, .slice none 0 0, .slice none 0 0]) ?_ 8 _ rfl; refine blo_ ?_; refine blk_put (cs := #[.int .i64 ((rd_T42 l0_2 x13_1).f0), .int .i64 ((rd_T42 l0_2 x13_1).f1), .int .i64 ((rd_T42 l0_2 x13_1).f2), .bool false, .int .i64 ((rd_T42 l0_2 x13_1).f4.f0), .int .i64 ((rd_T42 l0_2 x13_1).f4.f1), .int .i64 ((rd_T42 l0_2 x13_1).f4.f2), .int .i64 0, .slice none 0 0, .slice none 0 0, .slice none 0 0]) ?_ 7 _ rfl; refine blo_ ?_; refine blk_put (cs := #[.int .i64 ((rd_T42 l0_2 x13_1).f0), .int .i64 ((rd_T42 l0_2 x13_1).f1), .int .i64 ((rd_T42 l0_2 x13_1).f2), .bool false, .int .i64 ((rd_T42 l0_2 x13_1).f4.f0), .int .i64 ((rd_T42 l0_2 x13_1).f4.f1), .int .i64 0, .int .i64 0, .slice none 0 0, .slice none 0 0, .slice none 0 0]) ?_ 6 _ rfl; refine blo_ ?_; refine blk_put (cs := #[.int .i64 ((rd_T42 l0_2 x13_1).f0), .int .i64 ((rd_T42 l0_2 x13_1).f1), .int .i64 ((rd_T42 l0_2 x13_1).f2), .bool false, .int .i64 ((rd_T42 l0_2 x13_1).f4.f0), .int .i64 0, .int .i64 0, .int .i64 0, .slice none 0 0, .slice none 0 0, .slice none 0 0]) ?_ 5 _ rfl; refine blo_ ?_; refine blk_put (cs := #[.int .i64 ((rd_T42 l0_2 x13_1).f0), .int .i64 ((rd_T42 l0_2 x13_1).f1), .int .i64 ((rd_T42 l0_2 x13_1).f2), .bool false, .int .i64 0, .int .i64 0, .int .i64 0, .int .i64 0, .slice none 0 0, .slice none 0 0, .slice none 0 0]) ?_ 4 _ rfl; refine blo_ ?_; refine blk_put (cs := #[.int .i64 ((rd_T42 l0_2 x13_1).f0), .int .i64 ((rd_T42 l0_2 x13_1).f1), .int .i64 ((rd_T42 l0_2 x13_1).f2), .bool false, .int .i64 0, .int .i64 0, .int .i64 0, .int .i64 0, .slice none 0 0, .slice none 0 0, .slice none 0 0]) ?_ 3 _ rfl; refine blo_ ?_; refine blk_put (cs := #[.int .i64 ((rd_T42 l0_2 x13_1).f0), .int .i64 ((rd_T42 l0_2 x13_1).f1), .int .i64 0, .bool false, .int .i64 0, .int .i64 0, .int .i64 0, .int .i64 0, .slice none 0 0, .slice none 0 0, .slice none 0 0]) ?_ 2 _ rfl; refine blo_ ?_; refine blk_put (cs := #[.int .i64 ((rd_T42 l0_2 x13_1).f0), .int .i64 0, .int .i64 0, .bool false, .int .i64 0, .int .i64 0, .int .i64 0, .int .i64 0, .slice none 0 0, .slice none 0 0, .slice none 0 0]) ?_ 1 _ rfl; refine blo_ ?_; refine blk_put (cs := #[.int .i64 0, .int .i64 0, .int .i64 0, .bool false, .int .i64 0, .int .i64 0, .int .i64 0, .int .i64 0, .slice none 0 0, .slice none 0 0, .slice none 0 0]) ?_ 0 _ rfl; exact blo_ BK215.out) hg (Kd.R_ne HO_5.out BK215.out (by decide))); have n2_ := ad_ (hb); have n3_ := ad_ (ho); clear BK212; clear BK215; clear HB; clear HO_5; have BK212 := n0_; have BK215 := n1_; have HB := n2_; have HO218 := n3_; clear n0_ n1_ n2_ n3_; clear ho hb hg hat; have hcz36_ := cells11_ BK215.out))
        go_roundg k1
        case measure => have := HK1.out; omega
        case rel => exact ⟨(y216), (wrap64 (x13_1 + 1)), val_, H', ⟨by have := HK1.out; omega⟩, ⟨rod_ HO218⟩, ⟨blo_ BK212.out⟩, ⟨belg_⟩⟩
      ·rw [if_neg c8] at H
       exact absurd H (by simp)
     ·rw [if_neg c7] at H
      exact absurd H (by simp)
    ·rw [if_neg c6] at H
     exact absurd H (by simp)
   ·rw [if_neg c5] at H
    have c5b0 : decide (x13_1 < (l0_2.length : Int)) = false := decide_eq_false c5
    clear c5
    replace H := Option.bind_eq_some_iff.mp H
    obtain ⟨t213, A370, H⟩ := H
    try dsimp only at H
    have A37 := Aside0.mk A370
    clear A370
    obtain rfl := Option.some.inj H
    obtain ⟨Ao38, co38, eo38⟩ := Kd.R_slice HO_5.out
    subst eo38
    go_wp2_with (first | ((with_reducible refine gate_callee (f := 58) rfl ?_); refine goesL_ (some 56) rfl rfl Try.func58 (by kernel_rfl) rfl #[.slice Ao38 x5_1.length co38, .func (.func 59) #[] #[]] rfl arg_ ?_; (with_reducible refine (zone_change_58.calls k1 (fun k_ => some k_ = (.slice Ao38 x5_1.length co38 : Value).ownBlock) (.slice Ao38 x5_1.length co38) x5_1  t213 w _ ?side1 ?side2 A37.out).mono ?_); (case side1 => repeat (first | (with_reducible first | exact HB.out | apply below_alloc | apply pw_below_drewN | apply below_drew1 | refine below_set ?_ GE212.out) | exact HB.out)); (case side2 => exact Kd.R_tight rfl HO_5.out); rintro e w39 ⟨rfl, hy0, hb, hkp⟩; refine ⟨_, rfl, ?_⟩; have n0_ := ad_ (Kd.R_reok rfl hy0 (fun k_ e_ => HO_5.out.1 k_ e_)); have n1_ := ad_ (blk_kept (blo_ BK212.out) hkp (fun hs_ => (fun e_ => (Kd.R_ne HO_5.out BK212.out (by decide)) e_) hs_)); have n2_ := ad_ (hb); clear HO_5; clear BK212; clear HB; have HO_5 := n0_; have BK212 := n1_; have HB := n2_; clear n0_ n1_ n2_; (try clear hb); (try clear hkp); (try clear hy0)))
    go_ret
    exact ⟨_, ret_, by (with_reducible repeat (first | apply Kd.R_alloc | apply Kd.R_drewN | apply Kd.R_drew)); exact HO_5.out, belg_⟩

/-! ### zone_Zone_shift: function 27 -/
def zone_Zone_shift.l0 : Nat → Int → Int → List (S75) → Int → Int → Option (Int)
 | 0, _, _, _, _, _ => none
 | k + 1, x1, x5, x12, x13, x14 => if x14 < x13 then (if 0 ≤ x14 then (if x14 < (x12.length : Int) then (if ((rd_T75 x12 x14).f0) ≤ x1 then (zone_Zone_shift.l0 k x1 ((rd_T75 x12 x14).f1) x12 x13 (wrap64 (x14 + 1))) else (zone_Zone_shift.l0 k x1 x5 x12 x13 (wrap64 (x14 + 1)))) else (none)) else (none)) else (some x5)
def zone_Zone_shift.f (k : Nat) (a0_0 : ByteArray) (a0_1 : Int) (l0_2 : List (S42)) (a1 : Int) : Option (Int) := (zone_Zone_changes.f k a0_0 a0_1 l0_2 a1).bind fun t225 => (zone_Zone_shift.l0 k a1 a0_1 t225 (t225.length : Int) 0)
theorem zone_Zone_shift.mono_l : ∀ k, (∀ y0 y1 y2 y3 y4, LeO (zone_Zone_shift.l0 k y0 y1 y2 y3 y4) (zone_Zone_shift.l0 (k + 1) y0 y1 y2 y3 y4))
 | 0 => fun _ _ _ _ _ r h => by simp [zone_Zone_shift.l0] at h
 | k + 1 => by
  have ih0 := zone_Zone_shift.mono_l k
  ·intro y0 y1 y2 y3 y4
   unfold zone_Zone_shift.l0
   repeat' first
   | (with_reducible exact ih0 ..)
   | (with_reducible exact zone_Zone_changes.mono ..)
   | (with_reducible exact LeO.refl ..)
   | (with_reducible exact LeO.none ..)
   | (with_reducible refine LeO.ite ?_ ?_)
   | (with_reducible refine LeO.bind ?_ (fun _ => ?_))
   | exact ih0 ..
   | exact zone_Zone_changes.mono ..
   | exact LeO.none ..
   | refine LeO.ite ?_ ?_
   | refine LeO.bind ?_ (fun _ => ?_)
theorem zone_Zone_shift.mono : ∀ a0 a1 a2 a3 k, LeO (zone_Zone_shift.f k a0 a1 a2 a3) (zone_Zone_shift.f (k + 1) a0 a1 a2 a3) := by
 intro a0 a1 a2 a3 k
 have ih0 := zone_Zone_shift.mono_l k
 unfold zone_Zone_shift.f
 repeat' first
   | (with_reducible exact ih0 ..)
   | (with_reducible exact zone_Zone_changes.mono ..)
   | (with_reducible exact LeO.refl ..)
   | (with_reducible exact LeO.none ..)
   | (with_reducible refine LeO.ite ?_ ?_)
   | (with_reducible refine LeO.bind ?_ (fun _ => ?_))
   | exact ih0 ..
   | exact zone_Zone_changes.mono ..
   | exact LeO.none ..
   | refine LeO.ite ?_ ?_
   | refine LeO.bind ?_ (fun _ => ?_)
set_option maxHeartbeats 8000000 in
set_option maxRecDepth 100000 in
theorem zone_Zone_shift.calls (k : Nat) (a0_0 : ByteArray) (a0_1 : Int) (A0_2 : Option Addr) (c0_2 : Nat) (l0_2 : List (S42)) (a1 : Int) (r : Int) (w : World) (hr0_2 : Kd.C k42 w A0_2 l0_2.length l0_2) (hc0_2 : l0_2.length ≤ c0_2) (h : zone_Zone_shift.f k a0_0 a0_1 l0_2 a1 = some r) :
  Calls Try.prog 27 #[.agg #[.string a0_0, .int .i64 a0_1, .slice A0_2 l0_2.length c0_2], .int .i64 a1] w fun e w' => e = .returned (.int .i64 r) ∧ Below w.heap.size w w' := by
 have hu24 := Try.underlying24
 have hu75 := Try.underlying75
 have HR0_2 := Aside0.mk hr0_2
 have HC0_2 := Aside0.mk hc0_2
 clear hr0_2 hc0_2
 have HB := ad_ (Below.refl w.heap.size w)
 have H : ((zone_Zone_changes.f k a0_0 a0_1 l0_2 a1).bind fun t225 => (zone_Zone_shift.l0 k a1 a0_1 t225 (t225.length : Int) 0)) = some r := h
 clear h
 replace H := Option.bind_eq_some_iff.mp H
 obtain ⟨t225, A30, H⟩ := H
 try dsimp only at H
 have A3 := Aside0.mk A30
 clear A30
 have H' := Aside0.mk H
 clear H
 go_enter Try.func27, Try.ntmps27
 go_wp2_with (first | ((with_reducible refine gate_dst (N := 2) rfl ?_); refine box_event ?hg (N := 2) ?hd (cs := #[.string a0_0, .int .i64 a0_1, .slice A0_2 l0_2.length c0_2]) (t := 24) ?hr ?_; (case hd => rfl); (case hg => rfl); (case hr => first | (go_simp; done) | (go_simp; rfl)); intro gb224 hg w4 hbox hb; have n0_ := ad_ (below_step bel_ hb); have n1_ := ad_ (hbox); have n2_ := ad_ ((by rw [hg]; exact (below_size bel_) : w.heap.size ≤ gb224)); have n3_ := ad_ ((by rw [hg]; exact (below_size bel_) : w.heap.size ≤ gb224)); clear HB; have HB := n0_; have BK224 := n1_; have GW224 := n2_; have GE224 := n3_; clear n0_ n1_ n2_ n3_; clear hb hbox hg; have hcz5_ := cells3_ BK224.out) | ((with_reducible refine gate_callee (f := 43) rfl ?_); refine goesL_ (some 12) rfl rfl Try.func43 (by kernel_rfl) rfl #[.agg #[.string a0_0, .int .i64 a0_1, .slice A0_2 l0_2.length c0_2], .int .i64 a1] rfl arg_ ?_; (with_reducible refine (zone_Zone_changes.calls k a0_0 a0_1 _ _ l0_2 a1 t225 _ ?side1 ?side2 A3.out).mono ?_); (case side1 => exact cop_ (Kd.C_below HR0_2.out HB.out)); (case side2 => exact HC0_2.out); rintro e w6 ⟨v226, rfl, ho0, hb⟩; refine ⟨_, rfl, ?_⟩; have n0_ := ad_ (Kd.R_lower ho0 (below_size belg_)); have n1_ := ad_ (blk_below (g := gb224) (o := .cells #[.string a0_0, .int .i64 a0_1, .slice A0_2 l0_2.length c0_2] 24 (0, 0)) (blo_ BK224.out) hb); have n2_ := ad_ (below_step belg_ hb); clear BK224; clear HB; have HO227 := n0_; have BK224 := n1_; have HB := n2_; clear n0_ n1_ n2_; (try clear hb); (try clear hb2); (try clear hk); (try clear hi); (try clear ho0); obtain ⟨Ao7, co7, eo7⟩ := Kd.R_slice HO227.out; subst eo7))
 go_loopg [5, 14] k (fun kq v5 v14 w' => ∃ (x5_1 : Int) (x14_1 : Int), v5 = .int .i64 x5_1 ∧ v14 = .int .i64 x14_1 ∧ Aside0 (zone_Zone_shift.l0 kq a1 x5_1 t225 (t225.length : Int) x14_1 = some r) ∧ Aside0 (kq ≤ k) ∧ Aside0 (Kd.R k75 75 w' w.heap.size (fun _ => True) (.slice Ao7 t225.length co7) t225) ∧ Aside0 (w'.heap[gb224]? = some (.cells #[.string a0_0, .int .i64 a0_1, (.slice A0_2 l0_2.length c0_2)] 24 (0, 0))) ∧ Aside0 (Below w.heap.size w w'))
 case atStart => exact ⟨(a0_1), (0), val_, val_, H', ⟨Nat.le_refl _⟩, ⟨rod_ HO227⟩, ⟨blo_ BK224.out⟩, ⟨belg_⟩⟩
 case round =>
  clear H'
  try clear c2
  try clear p2
  try clear c4
  try clear hcz5_
  obtain ⟨x5_1, x14_1, rfl, rfl, HA, HK1, HO_12, BK224, HB⟩ := hrel
  cases gk with
  | zero => exact absurd HA.out (by simp [zone_Zone_shift.l0])
  | succ k1 =>
   have H := HA.out
   clear HA
   simp only [zone_Zone_shift.l0] at H
   by_cases c8 : x14_1 < (t225.length : Int)
   ·rw [if_pos c8] at H
    have c8b0 : decide (x14_1 < (t225.length : Int)) = true := decide_eq_true c8
    clear c8
    by_cases c9 : 0 ≤ x14_1
    ·rw [if_pos c9] at H
     have c9b0 : decide (0 ≤ x14_1) = true := decide_eq_true c9
     clear c9
     by_cases c10 : x14_1 < (t225.length : Int)
     ·rw [if_pos c10] at H
      have c10b0 : decide (x14_1 < (t225.length : Int)) = true := decide_eq_true c10
      clear c10
      by_cases c11 : ((rd_T75 t225 x14_1).f0) ≤ a1
      ·rw [if_pos c11] at H
       have c11b0 : decide (((rd_T75 t225 x14_1).f0) ≤ a1) = true := decide_eq_true c11
       clear c11
       have H' := Aside0.mk H
       clear H
       have p228 : 0 ≤ (x14_1 : Int) := dec_
       have q228 : x14_1 < (t225.length : Int) := dec_
       obtain ⟨ad228, e228, hx228_0, hx228_1⟩ := at_T75 (Kd.R_reads' HO_12.out).2.2 x14_1 p228 q228
       cases e228
       replace p228 := eq_true p228
       replace q228 := eq_true q228
       go_wp2_with (first | ((with_reducible refine gate_dst (N := 7) rfl ?_); refine box_event ?hg (N := 7) ?hd (cs := #[.int .i64 0, .int .i64 0]) (t := 75) ?hr ?_; (case hd => rfl); (case hg => rfl); (case hr => first | (go_simp; done) | (go_simp; rfl)); intro gb229 hg w12 hbox hb; have n0_ := ad_ (Kd.R_below (Kd.R_elderB (rod_ HO_12) gb229 (Nat.le_of_eq hg.symm)) hb); have n1_ := ad_ (blk_below (g := gb224) (o := .cells #[.string a0_0, .int .i64 a0_1, .slice A0_2 l0_2.length c0_2] 24 (0, 0)) (blo_ BK224.out) hb); have n2_ := ad_ (below_step belg_ hb); have n3_ := ad_ (hbox); have n4_ := ad_ ((by rw [hg]; exact (below_size belg_) : w.heap.size ≤ gb229)); have n5_ := ad_ ((by rw [hg]; exact (below_size belg_) : w.heap.size ≤ gb229)); have n6_ := ad_ ((by rw [hg]; exact Nat.ne_of_lt (blk_lt (g := gb224) (o := .cells #[.string a0_0, .int .i64 a0_1, .slice A0_2 l0_2.length c0_2] 24 (0, 0)) (blo_ BK224.out)) : gb224 ≠ gb229)); have n7_ := ad_ ((by rw [hg]; exact Nat.ne_of_gt (blk_lt (g := gb224) (o := .cells #[.string a0_0, .int .i64 a0_1, .slice A0_2 l0_2.length c0_2] 24 (0, 0)) (blo_ BK224.out)) : gb229 ≠ gb224)); clear HO_12; clear BK224; clear HB; have HO_12 := n0_; have BK224 := n1_; have HB := n2_; have BK229 := n3_; have GW229 := n4_; have GE229 := n5_; have NB224_229 := n6_; have NB229_224 := n7_; clear n0_ n1_ n2_ n3_ n4_ n5_ n6_ n7_; clear hb hbox hg; have hnb13 := NB229_224.out; have hnc13 := NB224_229.out; have hcz14_ := cells2_ BK229.out))
       go_roundg k1
       case measure => have := HK1.out; omega
       case rel => exact ⟨((rd_T75 t225 x14_1).f1), (wrap64 (x14_1 + 1)), val_, val_, H', ⟨by have := HK1.out; omega⟩, ⟨by (with_reducible repeat (first | apply Kd.R_alloc | apply Kd.R_drewN | apply Kd.R_drew)); exact Kd.R_mono (Kd.R_far (p := ⟨gb229, 1, none⟩) (Kd.R_far (p := ⟨gb229, 0, none⟩) (Kd.R_mono HO_12.out (fun k_ hk => (⟨hk, hk.2⟩ : _ ∧ k_ ≠ gb229))) (fun _ hk => hk.2) (.int .i64 ((rd_T75 t225 x14_1).f0))) (fun _ hk => hk.2) (.int .i64 ((rd_T75 t225 x14_1).f1))) (fun _ hk => trivial)⟩, ⟨by (with_reducible repeat (first | refine blk_drewN ?_ _ | refine blk_drew ?_ | refine blk_alloc ?_ _)); refine blk_far ?_ NB224_229.out _; (with_reducible repeat (first | refine blk_drewN ?_ _ | refine blk_drew ?_ | refine blk_alloc ?_ _)); refine blk_far ?_ NB224_229.out _; exact blo_ BK224.out⟩, ⟨belg_⟩⟩
      ·rw [if_neg c11] at H
       have c11b0 : decide (((rd_T75 t225 x14_1).f0) ≤ a1) = false := decide_eq_false c11
       clear c11
       have H' := Aside0.mk H
       clear H
       have p228 : 0 ≤ (x14_1 : Int) := dec_
       have q228 : x14_1 < (t225.length : Int) := dec_
       obtain ⟨ad228, e228, hx228_0, hx228_1⟩ := at_T75 (Kd.R_reads' HO_12.out).2.2 x14_1 p228 q228
       cases e228
       replace p228 := eq_true p228
       replace q228 := eq_true q228
       go_wp2_with (first | ((with_reducible refine gate_dst (N := 7) rfl ?_); refine box_event ?hg (N := 7) ?hd (cs := #[.int .i64 0, .int .i64 0]) (t := 75) ?hr ?_; (case hd => rfl); (case hg => rfl); (case hr => first | (go_simp; done) | (go_simp; rfl)); intro gb229 hg w15 hbox hb; have n0_ := ad_ (Kd.R_below (Kd.R_elderB (rod_ HO_12) gb229 (Nat.le_of_eq hg.symm)) hb); have n1_ := ad_ (blk_below (g := gb224) (o := .cells #[.string a0_0, .int .i64 a0_1, .slice A0_2 l0_2.length c0_2] 24 (0, 0)) (blo_ BK224.out) hb); have n2_ := ad_ (below_step belg_ hb); have n3_ := ad_ (hbox); have n4_ := ad_ ((by rw [hg]; exact (below_size belg_) : w.heap.size ≤ gb229)); have n5_ := ad_ ((by rw [hg]; exact (below_size belg_) : w.heap.size ≤ gb229)); have n6_ := ad_ ((by rw [hg]; exact Nat.ne_of_lt (blk_lt (g := gb224) (o := .cells #[.string a0_0, .int .i64 a0_1, .slice A0_2 l0_2.length c0_2] 24 (0, 0)) (blo_ BK224.out)) : gb224 ≠ gb229)); have n7_ := ad_ ((by rw [hg]; exact Nat.ne_of_gt (blk_lt (g := gb224) (o := .cells #[.string a0_0, .int .i64 a0_1, .slice A0_2 l0_2.length c0_2] 24 (0, 0)) (blo_ BK224.out)) : gb229 ≠ gb224)); clear HO_12; clear BK224; clear HB; have HO_12 := n0_; have BK224 := n1_; have HB := n2_; have BK229 := n3_; have GW229 := n4_; have GE229 := n5_; have NB224_229 := n6_; have NB229_224 := n7_; clear n0_ n1_ n2_ n3_ n4_ n5_ n6_ n7_; clear hb hbox hg; have hnb16 := NB229_224.out; have hnc16 := NB224_229.out; have hcz17_ := cells2_ BK229.out))
       go_roundg k1
       case measure => have := HK1.out; omega
       case rel => exact ⟨(x5_1), (wrap64 (x14_1 + 1)), val_, val_, H', ⟨by have := HK1.out; omega⟩, ⟨by (with_reducible repeat (first | apply Kd.R_alloc | apply Kd.R_drewN | apply Kd.R_drew)); exact Kd.R_mono (Kd.R_far (p := ⟨gb229, 1, none⟩) (Kd.R_far (p := ⟨gb229, 0, none⟩) (Kd.R_mono HO_12.out (fun k_ hk => (⟨hk, hk.2⟩ : _ ∧ k_ ≠ gb229))) (fun _ hk => hk.2) (.int .i64 ((rd_T75 t225 x14_1).f0))) (fun _ hk => hk.2) (.int .i64 ((rd_T75 t225 x14_1).f1))) (fun _ hk => trivial)⟩, ⟨by (with_reducible repeat (first | refine blk_drewN ?_ _ | refine blk_drew ?_ | refine blk_alloc ?_ _)); refine blk_far ?_ NB224_229.out _; (with_reducible repeat (first | refine blk_drewN ?_ _ | refine blk_drew ?_ | refine blk_alloc ?_ _)); refine blk_far ?_ NB224_229.out _; exact blo_ BK224.out⟩, ⟨belg_⟩⟩
     ·rw [if_neg c10] at H
      exact absurd H (by simp)
    ·rw [if_neg c9] at H
     exact absurd H (by simp)
   ·rw [if_neg c8] at H
    have c8b0 : decide (x14_1 < (t225.length : Int)) = false := decide_eq_false c8
    clear c8
    obtain rfl := Option.some.inj H
    go_wp2
    go_ret
    exact ⟨ret_, belg_⟩

/-! ### zone_Shift: function 11 -/
def zone_Shift.f (k : Nat) (a0_0 : ByteArray) (a0_1 : Int) (l0_2 : List (S42)) (a1 : Int) : Option (Int × Int) := (zone_Right.f k a0_0 a0_1 l0_2).bind fun t231 => (if t231 = true then ((when_Right.f a1).bind fun t232 => (if t232 = true then ((zone_Zone_shift.f k a0_0 a0_1 l0_2 a1).bind fun t233 => (some (t233, 0))) else (some (0, 110)))) else (some (0, 3)))
theorem zone_Shift.mono : ∀ a0 a1 a2 a3 k, LeO (zone_Shift.f k a0 a1 a2 a3) (zone_Shift.f (k + 1) a0 a1 a2 a3) := by
 intro a0 a1 a2 a3 k
 unfold zone_Shift.f
 repeat' first
   | (with_reducible exact zone_Right.mono ..)
   | (with_reducible exact zone_Zone_shift.mono ..)
   | (with_reducible exact LeO.refl ..)
   | (with_reducible exact LeO.none ..)
   | (with_reducible refine LeO.ite ?_ ?_)
   | (with_reducible refine LeO.bind ?_ (fun _ => ?_))
   | exact zone_Right.mono ..
   | exact zone_Zone_shift.mono ..
   | exact LeO.none ..
   | refine LeO.ite ?_ ?_
   | refine LeO.bind ?_ (fun _ => ?_)
set_option maxHeartbeats 8000000 in
set_option maxRecDepth 100000 in
theorem zone_Shift.calls (k : Nat) (a0_0 : ByteArray) (a0_1 : Int) (A0_2 : Option Addr) (c0_2 : Nat) (l0_2 : List (S42)) (a1 : Int) (r1 : Int) (r2 : Int) (w : World) (hr0_2 : Kd.C k42 w A0_2 l0_2.length l0_2) (hc0_2 : l0_2.length ≤ c0_2) (h : zone_Shift.f k a0_0 a0_1 l0_2 a1 = some (r1, r2)) :
  Calls Try.prog 11 #[.agg #[.string a0_0, .int .i64 a0_1, .slice A0_2 l0_2.length c0_2], .int .i64 a1] w fun e w' => e = .returned (.tuple #[.int .i64 r1, .int .i64 r2]) ∧ Below w.heap.size w w' := by
 have hu24 := Try.underlying24
 have HR0_2 := Aside0.mk hr0_2
 have HC0_2 := Aside0.mk hc0_2
 clear hr0_2 hc0_2
 have HB := ad_ (Below.refl w.heap.size w)
 have H : ((zone_Right.f k a0_0 a0_1 l0_2).bind fun t231 => (if t231 = true then ((when_Right.f a1).bind fun t232 => (if t232 = true then ((zone_Zone_shift.f k a0_0 a0_1 l0_2 a1).bind fun t233 => (some (t233, 0))) else (some (0, 110)))) else (some (0, 3)))) = some (r1, r2) := h
 clear h
 replace H := Option.bind_eq_some_iff.mp H
 obtain ⟨t231, A30, H⟩ := H
 try dsimp only at H
 have A3 := Aside0.mk A30
 clear A30
 by_cases c4 : t231 = true
 ·subst c4
  have H1 := ifp_ H
  clear H
  have H := H1
  clear H1
  replace H := Option.bind_eq_some_iff.mp H
  obtain ⟨t232, A50, H⟩ := H
  try dsimp only at H
  have A5 := Aside0.mk A50
  clear A50
  by_cases c6 : t232 = true
  ·subst c6
   have H1 := ifp_ H
   clear H
   have H := H1
   clear H1
   replace H := Option.bind_eq_some_iff.mp H
   obtain ⟨t233, A70, H⟩ := H
   try dsimp only at H
   have A7 := Aside0.mk A70
   clear A70
   simp only [Option.some.injEq, Prod.mk.injEq] at H
   obtain ⟨rfl, rfl⟩ := H
   go_enter Try.func11, Try.ntmps11
   go_wp2_with (first | ((with_reducible refine gate_dst (N := 2) rfl ?_); refine box_event ?hg (N := 2) ?hd (cs := #[.string a0_0, .int .i64 a0_1, .slice A0_2 l0_2.length c0_2]) (t := 24) ?hr ?_; (case hd => rfl); (case hg => rfl); (case hr => first | (go_simp; done) | (go_simp; rfl)); intro gb230 hg w8 hbox hb; have n0_ := ad_ (below_step bel_ hb); have n1_ := ad_ (hbox); have n2_ := ad_ ((by rw [hg]; exact (below_size bel_) : w.heap.size ≤ gb230)); have n3_ := ad_ ((by rw [hg]; exact (below_size bel_) : w.heap.size ≤ gb230)); clear HB; have HB := n0_; have BK230 := n1_; have GW230 := n2_; have GE230 := n3_; clear n0_ n1_ n2_ n3_; clear hb hbox hg; have hcz9_ := cells3_ BK230.out) | ((with_reducible refine gate_callee (f := 15) rfl ?_); refine goesL_ (some 8) rfl rfl Try.func15 (by kernel_rfl) rfl #[.agg #[.string a0_0, .int .i64 a0_1, .slice A0_2 l0_2.length c0_2]] rfl arg_ ?_; (with_reducible refine (zone_Right.calls k a0_0 a0_1 _ _ l0_2 true _ ?side1 ?side2 A3.out).mono ?_); (case side1 => exact cop_ (Kd.C_below HR0_2.out HB.out)); (case side2 => exact HC0_2.out); rintro e w10 ⟨rfl, hb⟩; refine ⟨_, rfl, ?_⟩; have n0_ := ad_ (blk_below (g := gb230) (o := .cells #[.string a0_0, .int .i64 a0_1, .slice A0_2 l0_2.length c0_2] 24 (0, 0)) (blo_ BK230.out) hb); have n1_ := ad_ (below_step belg_ hb); clear BK230; clear HB; have BK230 := n0_; have HB := n1_; clear n0_ n1_; (try clear hb); (try clear hb2); (try clear hk); (try clear hi)) | ((with_reducible refine gate_callee (f := 26) rfl ?_); refine goesL_ (some 12) rfl rfl Try.func26 (by kernel_rfl) rfl #[.int .i64 a1] rfl arg_ ?_; (with_reducible refine (when_Right.calls a1 true _ A5.out).mono ?_); rintro e w' ⟨rfl, ⟨nd, rfl⟩⟩; refine ⟨_, rfl, ?_⟩; have hcz11_ := cells3_ BK230.out) | ((with_reducible refine gate_callee (f := 27) rfl ?_); refine goesL_ (some 16) rfl rfl Try.func27 (by kernel_rfl) rfl #[.agg #[.string a0_0, .int .i64 a0_1, .slice A0_2 l0_2.length c0_2], .int .i64 a1] rfl arg_ ?_; (with_reducible refine (zone_Zone_shift.calls k a0_0 a0_1 _ _ l0_2 a1 t233 _ ?side1 ?side2 A7.out).mono ?_); (case side1 => exact cop_ (Kd.C_below HR0_2.out belg_)); (case side2 => exact HC0_2.out); rintro e w12 ⟨rfl, hb⟩; refine ⟨_, rfl, ?_⟩; have n0_ := ad_ (blk_below (g := gb230) (o := .cells #[.string a0_0, .int .i64 a0_1, .slice A0_2 l0_2.length c0_2] 24 (0, 0)) (blo_ BK230.out) hb); have n1_ := ad_ (below_step belg_ hb); clear BK230; clear HB; have BK230 := n0_; have HB := n1_; clear n0_ n1_; (try clear hb); (try clear hb2); (try clear hk); (try clear hi)))
   go_ret2
   exact ⟨ret_, belg_⟩
  ·replace c6 := Bool.eq_false_iff.mpr c6
   subst c6
   have H1 := ifn_ H
   clear H
   have H := H1
   clear H1
   simp only [Option.some.injEq, Prod.mk.injEq] at H
   obtain ⟨rfl, rfl⟩ := H
   go_enter Try.func11, Try.ntmps11
   go_wp2_with (first | ((with_reducible refine gate_dst (N := 2) rfl ?_); refine box_event ?hg (N := 2) ?hd (cs := #[.string a0_0, .int .i64 a0_1, .slice A0_2 l0_2.length c0_2]) (t := 24) ?hr ?_; (case hd => rfl); (case hg => rfl); (case hr => first | (go_simp; done) | (go_simp; rfl)); intro gb230 hg w13 hbox hb; have n0_ := ad_ (below_step bel_ hb); have n1_ := ad_ (hbox); have n2_ := ad_ ((by rw [hg]; exact (below_size bel_) : w.heap.size ≤ gb230)); have n3_ := ad_ ((by rw [hg]; exact (below_size bel_) : w.heap.size ≤ gb230)); clear HB; have HB := n0_; have BK230 := n1_; have GW230 := n2_; have GE230 := n3_; clear n0_ n1_ n2_ n3_; clear hb hbox hg; have hcz14_ := cells3_ BK230.out) | ((with_reducible refine gate_callee (f := 15) rfl ?_); refine goesL_ (some 8) rfl rfl Try.func15 (by kernel_rfl) rfl #[.agg #[.string a0_0, .int .i64 a0_1, .slice A0_2 l0_2.length c0_2]] rfl arg_ ?_; (with_reducible refine (zone_Right.calls k a0_0 a0_1 _ _ l0_2 true _ ?side1 ?side2 A3.out).mono ?_); (case side1 => exact cop_ (Kd.C_below HR0_2.out HB.out)); (case side2 => exact HC0_2.out); rintro e w15 ⟨rfl, hb⟩; refine ⟨_, rfl, ?_⟩; have n0_ := ad_ (blk_below (g := gb230) (o := .cells #[.string a0_0, .int .i64 a0_1, .slice A0_2 l0_2.length c0_2] 24 (0, 0)) (blo_ BK230.out) hb); have n1_ := ad_ (below_step belg_ hb); clear BK230; clear HB; have BK230 := n0_; have HB := n1_; clear n0_ n1_; (try clear hb); (try clear hb2); (try clear hk); (try clear hi)) | ((with_reducible refine gate_callee (f := 26) rfl ?_); refine goesL_ (some 12) rfl rfl Try.func26 (by kernel_rfl) rfl #[.int .i64 a1] rfl arg_ ?_; (with_reducible refine (when_Right.calls a1 false _ A5.out).mono ?_); rintro e w' ⟨rfl, ⟨nd, rfl⟩⟩; refine ⟨_, rfl, ?_⟩))
   go_ret2
   exact ⟨ret_, belg_⟩
 ·replace c4 := Bool.eq_false_iff.mpr c4
  subst c4
  have H1 := ifn_ H
  clear H
  have H := H1
  clear H1
  simp only [Option.some.injEq, Prod.mk.injEq] at H
  obtain ⟨rfl, rfl⟩ := H
  go_enter Try.func11, Try.ntmps11
  go_wp2_with (first | ((with_reducible refine gate_dst (N := 2) rfl ?_); refine box_event ?hg (N := 2) ?hd (cs := #[.string a0_0, .int .i64 a0_1, .slice A0_2 l0_2.length c0_2]) (t := 24) ?hr ?_; (case hd => rfl); (case hg => rfl); (case hr => first | (go_simp; done) | (go_simp; rfl)); intro gb230 hg w16 hbox hb; have n0_ := ad_ (below_step bel_ hb); have n1_ := ad_ (hbox); have n2_ := ad_ ((by rw [hg]; exact (below_size bel_) : w.heap.size ≤ gb230)); have n3_ := ad_ ((by rw [hg]; exact (below_size bel_) : w.heap.size ≤ gb230)); clear HB; have HB := n0_; have BK230 := n1_; have GW230 := n2_; have GE230 := n3_; clear n0_ n1_ n2_ n3_; clear hb hbox hg; have hcz17_ := cells3_ BK230.out) | ((with_reducible refine gate_callee (f := 15) rfl ?_); refine goesL_ (some 8) rfl rfl Try.func15 (by kernel_rfl) rfl #[.agg #[.string a0_0, .int .i64 a0_1, .slice A0_2 l0_2.length c0_2]] rfl arg_ ?_; (with_reducible refine (zone_Right.calls k a0_0 a0_1 _ _ l0_2 false _ ?side1 ?side2 A3.out).mono ?_); (case side1 => exact cop_ (Kd.C_below HR0_2.out HB.out)); (case side2 => exact HC0_2.out); rintro e w18 ⟨rfl, hb⟩; refine ⟨_, rfl, ?_⟩; have n0_ := ad_ (blk_below (g := gb230) (o := .cells #[.string a0_0, .int .i64 a0_1, .slice A0_2 l0_2.length c0_2] 24 (0, 0)) (blo_ BK230.out) hb); have n1_ := ad_ (below_step belg_ hb); clear BK230; clear HB; have BK230 := n0_; have HB := n1_; clear n0_ n1_; (try clear hb); (try clear hb2); (try clear hk); (try clear hi)))
  go_ret2
  exact ⟨ret_, belg_⟩

end Go.Proofs.Ytlplmkllmgdifaa.PZ

-- Written by a program of the session (wip/tools).
import Derived.Test.YtlplmkllmgdifaaPZx0
import Derived.Test.YtlplmkllmgdifaaPZx1
import Derived.Test.YtlplmkllmgdifaaPZx3
namespace Go.Proofs.Ytlplmkllmgdifaa.PZ
open Go.RowKit Go.Proofs.YtlplmkllmgdifaaW.PrintWords Go.Proofs.YtlplmkllmgdifaaW.PrintLast Go.Proofs.YtlplmkllmgdifaaW.PrintMore
attribute [local go_sem] max2_int min2_int max_two min_two max_three min_three max_four min_four   -- for this text's walks alone
set_option linter.unusedVariables false
set_option linter.unusedSimpArgs false

/-! ### zone_isName: function 35 -/
def zone_isName.l0 : Nat → ByteArray → Int → Int → Option (Bool)
 | 0, _, _, _ => none
 | k + 1, x0, x5, x6 => if x6 < x5 then (if 0 ≤ x6 then (if x6 < (x0.size : Int) then (if (bt x0 x6) < 33 then (some false) else (if (bt x0 x6) > 126 then (some false) else (if (bt x0 x6) = 92 then (some false) else (if (bt x0 x6) = 59 then (some false) else (if (bt x0 x6) = 44 then (some false) else (zone_isName.l0 k x0 x5 (wrap64 (x6 + 1)))))))) else (none)) else (none)) else (if x0.toList = ([] : List UInt8) then (some false) else (some (decide ((x0.size : Int) ≤ 64))))
def zone_isName.f (k : Nat) (a0 : ByteArray) : Option (Bool) := zone_isName.l0 k a0 (a0.size : Int) 0
theorem zone_isName.mono_l : ∀ k, (∀ y0 y1 y2, LeO (zone_isName.l0 k y0 y1 y2) (zone_isName.l0 (k + 1) y0 y1 y2))
 | 0 => fun _ _ _ r h => by simp [zone_isName.l0] at h
 | k + 1 => by
  have ih0 := zone_isName.mono_l k
  ·intro y0 y1 y2
   unfold zone_isName.l0
   repeat' first
   | (with_reducible exact ih0 ..)
   | (with_reducible exact LeO.refl ..)
   | (with_reducible exact LeO.none ..)
   | (with_reducible refine LeO.ite ?_ ?_)
   | (with_reducible refine LeO.bind ?_ (fun _ => ?_))
   | exact ih0 ..
   | exact LeO.none ..
   | refine LeO.ite ?_ ?_
   | refine LeO.bind ?_ (fun _ => ?_)
theorem zone_isName.mono : ∀ a0 k, LeO (zone_isName.f k a0) (zone_isName.f (k + 1) a0) := by
 intro a0 k
 have ih0 := zone_isName.mono_l k
 unfold zone_isName.f
 repeat' first
   | (with_reducible exact ih0 ..)
   | (with_reducible exact LeO.refl ..)
   | (with_reducible exact LeO.none ..)
   | (with_reducible refine LeO.ite ?_ ?_)
   | (with_reducible refine LeO.bind ?_ (fun _ => ?_))
   | exact ih0 ..
   | exact LeO.none ..
   | refine LeO.ite ?_ ?_
   | refine LeO.bind ?_ (fun _ => ?_)
set_option maxHeartbeats 8000000 in
set_option maxRecDepth 100000 in
theorem zone_isName.calls (k : Nat) (a0 : ByteArray) (r : Bool) (w : World) (h : zone_isName.f k a0 = some r) :
  Calls Try.prog 35 #[.string a0] w fun e w' => e = .returned (.bool r) ∧ Drawn0 w w' := by
 have H : (zone_isName.l0 k a0 (a0.size : Int) 0) = some r := h
 clear h
 have H' := Aside0.mk H
 clear H
 go_enter Try.func35, Try.ntmps35
 go_wp2
 go_loopg [6] k (fun kq v6 w' => ∃ (x6_1 : Int), v6 = .int .i64 x6_1 ∧ Aside0 (zone_isName.l0 kq a0 (a0.size : Int) x6_1 = some r) ∧ Aside0 (kq ≤ k) ∧ Drawn0 w w')
 case atStart => exact ⟨(0), val_, H', ⟨Nat.le_refl _⟩, by repeat (first | exact Drawn0.refl _ | apply Drawn0.step)⟩
 case round =>
  clear H'
  obtain ⟨x6_1, rfl, HA, HK1, ⟨m1, rfl⟩⟩ := hrel
  cases gk with
  | zero => exact absurd HA.out (by simp [zone_isName.l0])
  | succ k1 =>
   have H := HA.out
   clear HA
   simp only [zone_isName.l0] at H
   by_cases c2 : x6_1 < (a0.size : Int)
   ·rw [if_pos c2] at H
    have c2b0 : decide (x6_1 < (a0.size : Int)) = true := decide_eq_true c2
    clear c2
    by_cases c3 : 0 ≤ x6_1
    ·rw [if_pos c3] at H
     have c3b0 : decide (0 ≤ x6_1) = true := decide_eq_true c3
     clear c3
     by_cases c4 : x6_1 < (a0.size : Int)
     ·rw [if_pos c4] at H
      have c4b0 : decide (x6_1 < (a0.size : Int)) = true := decide_eq_true c4
      clear c4
      by_cases c6 : (bt a0 x6_1) < 33
      ·rw [if_pos c6] at H
       have c6b0 : decide ((bt a0 x6_1) < 33) = true := decide_eq_true c6
       clear c6
       obtain rfl := Option.some.inj H
       have p5 : 0 ≤ (x6_1 : Int) := dec_
       have q5 : x6_1 < (a0.size : Int) := dec_
       have hx5 := bt_at a0 x6_1
       replace p5 := eq_true p5
       replace q5 := eq_true q5
       go_wp2
       go_ret
       exact ⟨val_, by repeat (first | exact Drawn0.refl _ | apply Drawn0.step)⟩
      ·rw [if_neg c6] at H
       have c6b0 : decide ((bt a0 x6_1) < 33) = false := decide_eq_false c6
       clear c6
       by_cases c8 : (bt a0 x6_1) > 126
       ·rw [if_pos c8] at H
        have c8b0 : decide (126 < (bt a0 x6_1)) = true := decide_eq_true c8
        clear c8
        obtain rfl := Option.some.inj H
        have p5 : 0 ≤ (x6_1 : Int) := dec_
        have q5 : x6_1 < (a0.size : Int) := dec_
        have hx5 := bt_at a0 x6_1
        replace p5 := eq_true p5
        replace q5 := eq_true q5
        have p7 : 0 ≤ (x6_1 : Int) := dec_
        have q7 : x6_1 < (a0.size : Int) := dec_
        have hx7 := bt_at a0 x6_1
        replace p7 := eq_true p7
        replace q7 := eq_true q7
        go_wp2
        go_ret
        exact ⟨val_, by repeat (first | exact Drawn0.refl _ | apply Drawn0.step)⟩
       ·rw [if_neg c8] at H
        have c8b0 : decide (126 < (bt a0 x6_1)) = false := decide_eq_false c8
        clear c8
        by_cases c10 : (bt a0 x6_1) = 92
        ·rw [if_pos c10] at H
         have c10b0 : ((bt a0 x6_1) == 92) = true := beq_iff_eq.mpr c10
         have c10b1 : ((bt a0 x6_1) != 92) = false := bne_eq_false_iff_eq.mpr c10
         clear c10
         obtain rfl := Option.some.inj H
         have p5 : 0 ≤ (x6_1 : Int) := dec_
         have q5 : x6_1 < (a0.size : Int) := dec_
         have hx5 := bt_at a0 x6_1
         replace p5 := eq_true p5
         replace q5 := eq_true q5
         have p7 : 0 ≤ (x6_1 : Int) := dec_
         have q7 : x6_1 < (a0.size : Int) := dec_
         have hx7 := bt_at a0 x6_1
         replace p7 := eq_true p7
         replace q7 := eq_true q7
         have p9 : 0 ≤ (x6_1 : Int) := dec_
         have q9 : x6_1 < (a0.size : Int) := dec_
         have hx9 := bt_at a0 x6_1
         replace p9 := eq_true p9
         replace q9 := eq_true q9
         go_wp2
         go_ret
         exact ⟨val_, by repeat (first | exact Drawn0.refl _ | apply Drawn0.step)⟩
        ·rw [if_neg c10] at H
         have c10b0 : ((bt a0 x6_1) == 92) = false := beq_eq_false_iff_ne.mpr c10
         have c10b1 : ((bt a0 x6_1) != 92) = true := bne_iff_ne.mpr c10
         by_cases c12 : (bt a0 x6_1) = 59
         ·rw [if_pos c12] at H
          have c12b0 : ((bt a0 x6_1) == 59) = true := beq_iff_eq.mpr c12
          have c12b1 : ((bt a0 x6_1) != 59) = false := bne_eq_false_iff_eq.mpr c12
          clear c12
          obtain rfl := Option.some.inj H
          have p5 : 0 ≤ (x6_1 : Int) := dec_
          have q5 : x6_1 < (a0.size : Int) := dec_
          have hx5 := bt_at a0 x6_1
          replace p5 := eq_true p5
          replace q5 := eq_true q5
          have p7 : 0 ≤ (x6_1 : Int) := dec_
          have q7 : x6_1 < (a0.size : Int) := dec_
          have hx7 := bt_at a0 x6_1
          replace p7 := eq_true p7
          replace q7 := eq_true q7
          have p9 : 0 ≤ (x6_1 : Int) := dec_
          have q9 : x6_1 < (a0.size : Int) := dec_
          have hx9 := bt_at a0 x6_1
          replace p9 := eq_true p9
          replace q9 := eq_true q9
          have p11 : 0 ≤ (x6_1 : Int) := dec_
          have q11 : x6_1 < (a0.size : Int) := dec_
          have hx11 := bt_at a0 x6_1
          replace p11 := eq_true p11
          replace q11 := eq_true q11
          go_wp2
          go_ret
          exact ⟨val_, by repeat (first | exact Drawn0.refl _ | apply Drawn0.step)⟩
         ·rw [if_neg c12] at H
          have c12b0 : ((bt a0 x6_1) == 59) = false := beq_eq_false_iff_ne.mpr c12
          have c12b1 : ((bt a0 x6_1) != 59) = true := bne_iff_ne.mpr c12
          by_cases c14 : (bt a0 x6_1) = 44
          ·rw [if_pos c14] at H
           have c14b0 : ((bt a0 x6_1) == 44) = true := beq_iff_eq.mpr c14
           have c14b1 : ((bt a0 x6_1) != 44) = false := bne_eq_false_iff_eq.mpr c14
           clear c14
           obtain rfl := Option.some.inj H
           have p5 : 0 ≤ (x6_1 : Int) := dec_
           have q5 : x6_1 < (a0.size : Int) := dec_
           have hx5 := bt_at a0 x6_1
           replace p5 := eq_true p5
           replace q5 := eq_true q5
           have p7 : 0 ≤ (x6_1 : Int) := dec_
           have q7 : x6_1 < (a0.size : Int) := dec_
           have hx7 := bt_at a0 x6_1
           replace p7 := eq_true p7
           replace q7 := eq_true q7
           have p9 : 0 ≤ (x6_1 : Int) := dec_
           have q9 : x6_1 < (a0.size : Int) := dec_
           have hx9 := bt_at a0 x6_1
           replace p9 := eq_true p9
           replace q9 := eq_true q9
           have p11 : 0 ≤ (x6_1 : Int) := dec_
           have q11 : x6_1 < (a0.size : Int) := dec_
           have hx11 := bt_at a0 x6_1
           replace p11 := eq_true p11
           replace q11 := eq_true q11
           have p13 : 0 ≤ (x6_1 : Int) := dec_
           have q13 : x6_1 < (a0.size : Int) := dec_
           have hx13 := bt_at a0 x6_1
           replace p13 := eq_true p13
           replace q13 := eq_true q13
           go_wp2
           go_ret
           exact ⟨val_, by repeat (first | exact Drawn0.refl _ | apply Drawn0.step)⟩
          ·rw [if_neg c14] at H
           have c14b0 : ((bt a0 x6_1) == 44) = false := beq_eq_false_iff_ne.mpr c14
           have c14b1 : ((bt a0 x6_1) != 44) = true := bne_iff_ne.mpr c14
           have H' := Aside0.mk H
           clear H
           have p5 : 0 ≤ (x6_1 : Int) := dec_
           have q5 : x6_1 < (a0.size : Int) := dec_
           have hx5 := bt_at a0 x6_1
           replace p5 := eq_true p5
           replace q5 := eq_true q5
           have p7 : 0 ≤ (x6_1 : Int) := dec_
           have q7 : x6_1 < (a0.size : Int) := dec_
           have hx7 := bt_at a0 x6_1
           replace p7 := eq_true p7
           replace q7 := eq_true q7
           have p9 : 0 ≤ (x6_1 : Int) := dec_
           have q9 : x6_1 < (a0.size : Int) := dec_
           have hx9 := bt_at a0 x6_1
           replace p9 := eq_true p9
           replace q9 := eq_true q9
           have p11 : 0 ≤ (x6_1 : Int) := dec_
           have q11 : x6_1 < (a0.size : Int) := dec_
           have hx11 := bt_at a0 x6_1
           replace p11 := eq_true p11
           replace q11 := eq_true q11
           have p13 : 0 ≤ (x6_1 : Int) := dec_
           have q13 : x6_1 < (a0.size : Int) := dec_
           have hx13 := bt_at a0 x6_1
           replace p13 := eq_true p13
           replace q13 := eq_true q13
           go_wp2
           go_roundg k1
           case measure => have := HK1.out; omega
           case rel => exact ⟨(wrap64 (x6_1 + 1)), val_, H', ⟨by have := HK1.out; omega⟩, by repeat (first | exact Drawn0.refl _ | apply Drawn0.step)⟩
     ·rw [if_neg c4] at H
      exact absurd H (by simp)
    ·rw [if_neg c3] at H
     exact absurd H (by simp)
   ·rw [if_neg c2] at H
    have c2b0 : decide (x6_1 < (a0.size : Int)) = false := decide_eq_false c2
    clear c2
    by_cases c15 : a0.toList = ([] : List UInt8)
    ·rw [if_pos c15] at H
     have c15b0 : (a0.toList == ([] : List UInt8)) = true := beq_iff_eq.mpr c15
     have c15b1 : (a0.toList != ([] : List UInt8)) = false := bne_eq_false_iff_eq.mpr c15
     clear c15
     obtain rfl := Option.some.inj H
     go_wp2
     go_ret
     exact ⟨val_, by repeat (first | exact Drawn0.refl _ | apply Drawn0.step)⟩
    ·rw [if_neg c15] at H
     have c15b0 : (a0.toList == ([] : List UInt8)) = false := beq_eq_false_iff_ne.mpr c15
     have c15b1 : (a0.toList != ([] : List UInt8)) = true := bne_iff_ne.mpr c15
     obtain rfl := Option.some.inj H
     go_wp2
     go_ret
     exact ⟨val_, by repeat (first | exact Drawn0.refl _ | apply Drawn0.step)⟩

/-! ### zone_Right: function 15 -/
def zone_Right.f (k : Nat) (a0_0 : ByteArray) (a0_1 : Int) (l0_2 : List (S42)) : Option (Bool) := (zone_Onset_32.f k l0_2).bind fun t137 => ((zone_isName.f k a0_0).bind fun t138 => (if t138 = true then ((zone_isShift.f a0_1).bind fun t139 => (if t139 = true then (if (l0_2.length : Int) ≥ 1 then (if (l0_2.length : Int) ≤ 8 then (some (!t137)) else (some false)) else (some false)) else (some false))) else (some false)))
theorem zone_Right.mono : ∀ a0 a1 a2 k, LeO (zone_Right.f k a0 a1 a2) (zone_Right.f (k + 1) a0 a1 a2) := by
 intro a0 a1 a2 k
 unfold zone_Right.f
 repeat' first
   | (with_reducible exact zone_Onset_32.mono ..)
   | (with_reducible exact zone_isName.mono ..)
   | (with_reducible exact LeO.refl ..)
   | (with_reducible exact LeO.none ..)
   | (with_reducible refine LeO.ite ?_ ?_)
   | (with_reducible refine LeO.bind ?_ (fun _ => ?_))
   | exact zone_Onset_32.mono ..
   | exact zone_isName.mono ..
   | exact LeO.none ..
   | refine LeO.ite ?_ ?_
   | refine LeO.bind ?_ (fun _ => ?_)
set_option maxHeartbeats 8000000 in
set_option maxRecDepth 100000 in
theorem zone_Right.calls (k : Nat) (a0_0 : ByteArray) (a0_1 : Int) (A0_2 : Option Addr) (c0_2 : Nat) (l0_2 : List (S42)) (r : Bool) (w : World) (hr0_2 : Kd.C k42 w A0_2 l0_2.length l0_2) (hc0_2 : l0_2.length ≤ c0_2) (h : zone_Right.f k a0_0 a0_1 l0_2 = some r) :
  Calls Try.prog 15 #[.agg #[.string a0_0, .int .i64 a0_1, .slice A0_2 l0_2.length c0_2]] w fun e w' => e = .returned (.bool r) ∧ Below w.heap.size w w' := by
 have hu24 := Try.underlying24
 have HR0_2 := Aside0.mk hr0_2
 have HC0_2 := Aside0.mk hc0_2
 clear hr0_2 hc0_2
 have HB := ad_ (Below.refl w.heap.size w)
 have H : ((zone_Onset_32.f k l0_2).bind fun t137 => ((zone_isName.f k a0_0).bind fun t138 => (if t138 = true then ((zone_isShift.f a0_1).bind fun t139 => (if t139 = true then (if (l0_2.length : Int) ≥ 1 then (if (l0_2.length : Int) ≤ 8 then (some (!t137)) else (some false)) else (some false)) else (some false))) else (some false)))) = some r := h
 clear h
 replace H := Option.bind_eq_some_iff.mp H
 obtain ⟨t137, A20, H⟩ := H
 try dsimp only at H
 have A2 := Aside0.mk A20
 clear A20
 replace H := Option.bind_eq_some_iff.mp H
 obtain ⟨t138, A30, H⟩ := H
 try dsimp only at H
 have A3 := Aside0.mk A30
 clear A30
 by_cases c4 : t138 = true
 ·subst c4
  have H1 := ifp_ H
  clear H
  have H := H1
  clear H1
  replace H := Option.bind_eq_some_iff.mp H
  obtain ⟨t139, A50, H⟩ := H
  try dsimp only at H
  have A5 := Aside0.mk A50
  clear A50
  by_cases c6 : t139 = true
  ·subst c6
   have H1 := ifp_ H
   clear H
   have H := H1
   clear H1
   by_cases c7 : (l0_2.length : Int) ≥ 1
   ·rw [if_pos c7] at H
    have c7b0 : decide (1 ≤ (l0_2.length : Int)) = true := decide_eq_true c7
    have c7b1 : decide (1 ≤ l0_2.length) = true := decide_eq_true (by omega)
    clear c7
    by_cases c8 : (l0_2.length : Int) ≤ 8
    ·rw [if_pos c8] at H
     have c8b0 : decide ((l0_2.length : Int) ≤ 8) = true := decide_eq_true c8
     have c8b1 : decide (l0_2.length ≤ 8) = true := decide_eq_true (by omega)
     clear c8
     obtain rfl := Option.some.inj H
     go_enter Try.func15, Try.ntmps15
     go_wp2_with (first | ((with_reducible refine gate_dst (N := 1) rfl ?_); (try (refine gate_guard (by rfl) ?_; dsimp only)); refine box_event ?hg (N := 1) ?hd (cs := #[.string a0_0, .int .i64 a0_1, .slice A0_2 l0_2.length c0_2]) (t := 24) ?hr ?_; (case hd => rfl); (case hg => rfl); (case hr => first | (go_simp; done) | (go_simp; rfl)); intro gb136 hg w9 hbox hb; have n0_ := ad_ (below_step bel_ hb); have n1_ := ad_ (hbox); have n2_ := ad_ ((by rw [hg]; exact (below_size bel_) : w.heap.size ≤ gb136)); have n3_ := ad_ ((by rw [hg]; exact (below_size bel_) : w.heap.size ≤ gb136)); clear HB; have HB := n0_; have BK136 := n1_; have GW136 := n2_; have GE136 := n3_; clear n0_ n1_ n2_ n3_; clear hb hbox hg; have hcz10_ := cells3_ BK136.out) | ((with_reducible refine gate_callee (f := 32) rfl ?_); refine goesL_ (some 6) rfl rfl Try.func32 (by kernel_rfl) rfl #[.slice A0_2 l0_2.length c0_2, .func (.func 33) #[] #[]] rfl arg_ ?_; (with_reducible refine (zone_Onset_32.calls k _ _ l0_2  t137 _ ?side1 ?side2 A2.out).mono ?_); (case side1 => exact cop_ (Kd.C_below HR0_2.out HB.out)); (case side2 => exact HC0_2.out); rintro e w11 ⟨rfl, hb⟩; refine ⟨_, rfl, ?_⟩; have n0_ := ad_ (blk_below (g := gb136) (o := .cells #[.string a0_0, .int .i64 a0_1, .slice A0_2 l0_2.length c0_2] 24 (0, 0)) (blo_ BK136.out) hb); have n1_ := ad_ (below_step belg_ hb); clear BK136; clear HB; have BK136 := n0_; have HB := n1_; clear n0_ n1_; (try clear hb); (try clear hb2); (try clear hk); (try clear hi); have hcz12_ := cells3_ BK136.out) | ((with_reducible refine gate_callee (f := 35) rfl ?_); refine goesL_ (some 9) rfl rfl Try.func35 (by kernel_rfl) rfl #[.string a0_0] rfl arg_ ?_; (with_reducible refine (zone_isName.calls k a0_0 true _ A3.out).mono ?_); rintro e w' ⟨rfl, ⟨nd, rfl⟩⟩; refine ⟨_, rfl, ?_⟩) | (go_at_call 36; (with_reducible refine (zone_isShift.calls a0_1 true _ A5.out).mono ?_); rintro e w' ⟨rfl, ⟨nd, rfl⟩⟩))
     go_ret
     exact ⟨ret_, belg_⟩
    ·rw [if_neg c8] at H
     have c8b0 : decide ((l0_2.length : Int) ≤ 8) = false := decide_eq_false c8
     have c8b1 : decide (l0_2.length ≤ 8) = false := decide_eq_false (by omega)
     clear c8
     obtain rfl := Option.some.inj H
     go_enter Try.func15, Try.ntmps15
     go_wp2_with (first | ((with_reducible refine gate_dst (N := 1) rfl ?_); (try (refine gate_guard (by rfl) ?_; dsimp only)); refine box_event ?hg (N := 1) ?hd (cs := #[.string a0_0, .int .i64 a0_1, .slice A0_2 l0_2.length c0_2]) (t := 24) ?hr ?_; (case hd => rfl); (case hg => rfl); (case hr => first | (go_simp; done) | (go_simp; rfl)); intro gb136 hg w13 hbox hb; have n0_ := ad_ (below_step bel_ hb); have n1_ := ad_ (hbox); have n2_ := ad_ ((by rw [hg]; exact (below_size bel_) : w.heap.size ≤ gb136)); have n3_ := ad_ ((by rw [hg]; exact (below_size bel_) : w.heap.size ≤ gb136)); clear HB; have HB := n0_; have BK136 := n1_; have GW136 := n2_; have GE136 := n3_; clear n0_ n1_ n2_ n3_; clear hb hbox hg; have hcz14_ := cells3_ BK136.out) | ((with_reducible refine gate_callee (f := 32) rfl ?_); refine goesL_ (some 6) rfl rfl Try.func32 (by kernel_rfl) rfl #[.slice A0_2 l0_2.length c0_2, .func (.func 33) #[] #[]] rfl arg_ ?_; (with_reducible refine (zone_Onset_32.calls k _ _ l0_2  t137 _ ?side1 ?side2 A2.out).mono ?_); (case side1 => exact cop_ (Kd.C_below HR0_2.out HB.out)); (case side2 => exact HC0_2.out); rintro e w15 ⟨rfl, hb⟩; refine ⟨_, rfl, ?_⟩; have n0_ := ad_ (blk_below (g := gb136) (o := .cells #[.string a0_0, .int .i64 a0_1, .slice A0_2 l0_2.length c0_2] 24 (0, 0)) (blo_ BK136.out) hb); have n1_ := ad_ (below_step belg_ hb); clear BK136; clear HB; have BK136 := n0_; have HB := n1_; clear n0_ n1_; (try clear hb); (try clear hb2); (try clear hk); (try clear hi); have hcz16_ := cells3_ BK136.out) | ((with_reducible refine gate_callee (f := 35) rfl ?_); refine goesL_ (some 9) rfl rfl Try.func35 (by kernel_rfl) rfl #[.string a0_0] rfl arg_ ?_; (with_reducible refine (zone_isName.calls k a0_0 true _ A3.out).mono ?_); rintro e w' ⟨rfl, ⟨nd, rfl⟩⟩; refine ⟨_, rfl, ?_⟩) | (go_at_call 36; (with_reducible refine (zone_isShift.calls a0_1 true _ A5.out).mono ?_); rintro e w' ⟨rfl, ⟨nd, rfl⟩⟩))
     go_ret
     exact ⟨ret_, belg_⟩
   ·rw [if_neg c7] at H
    have c7b0 : decide (1 ≤ (l0_2.length : Int)) = false := decide_eq_false c7
    have c7b1 : decide (1 ≤ l0_2.length) = false := decide_eq_false (by omega)
    clear c7
    obtain rfl := Option.some.inj H
    go_enter Try.func15, Try.ntmps15
    go_wp2_with (first | ((with_reducible refine gate_dst (N := 1) rfl ?_); (try (refine gate_guard (by rfl) ?_; dsimp only)); refine box_event ?hg (N := 1) ?hd (cs := #[.string a0_0, .int .i64 a0_1, .slice A0_2 l0_2.length c0_2]) (t := 24) ?hr ?_; (case hd => rfl); (case hg => rfl); (case hr => first | (go_simp; done) | (go_simp; rfl)); intro gb136 hg w17 hbox hb; have n0_ := ad_ (below_step bel_ hb); have n1_ := ad_ (hbox); have n2_ := ad_ ((by rw [hg]; exact (below_size bel_) : w.heap.size ≤ gb136)); have n3_ := ad_ ((by rw [hg]; exact (below_size bel_) : w.heap.size ≤ gb136)); clear HB; have HB := n0_; have BK136 := n1_; have GW136 := n2_; have GE136 := n3_; clear n0_ n1_ n2_ n3_; clear hb hbox hg; have hcz18_ := cells3_ BK136.out) | ((with_reducible refine gate_callee (f := 32) rfl ?_); refine goesL_ (some 6) rfl rfl Try.func32 (by kernel_rfl) rfl #[.slice A0_2 l0_2.length c0_2, .func (.func 33) #[] #[]] rfl arg_ ?_; (with_reducible refine (zone_Onset_32.calls k _ _ l0_2  t137 _ ?side1 ?side2 A2.out).mono ?_); (case side1 => exact cop_ (Kd.C_below HR0_2.out HB.out)); (case side2 => exact HC0_2.out); rintro e w19 ⟨rfl, hb⟩; refine ⟨_, rfl, ?_⟩; have n0_ := ad_ (blk_below (g := gb136) (o := .cells #[.string a0_0, .int .i64 a0_1, .slice A0_2 l0_2.length c0_2] 24 (0, 0)) (blo_ BK136.out) hb); have n1_ := ad_ (below_step belg_ hb); clear BK136; clear HB; have BK136 := n0_; have HB := n1_; clear n0_ n1_; (try clear hb); (try clear hb2); (try clear hk); (try clear hi); have hcz20_ := cells3_ BK136.out) | ((with_reducible refine gate_callee (f := 35) rfl ?_); refine goesL_ (some 9) rfl rfl Try.func35 (by kernel_rfl) rfl #[.string a0_0] rfl arg_ ?_; (with_reducible refine (zone_isName.calls k a0_0 true _ A3.out).mono ?_); rintro e w' ⟨rfl, ⟨nd, rfl⟩⟩; refine ⟨_, rfl, ?_⟩) | (go_at_call 36; (with_reducible refine (zone_isShift.calls a0_1 true _ A5.out).mono ?_); rintro e w' ⟨rfl, ⟨nd, rfl⟩⟩))
    go_ret
    exact ⟨ret_, belg_⟩
  ·replace c6 := Bool.eq_false_iff.mpr c6
   subst c6
   have H1 := ifn_ H
   clear H
   have H := H1
   clear H1
   obtain rfl := Option.some.inj H
   go_enter Try.func15, Try.ntmps15
   go_wp2_with (first | ((with_reducible refine gate_dst (N := 1) rfl ?_); (try (refine gate_guard (by rfl) ?_; dsimp only)); refine box_event ?hg (N := 1) ?hd (cs := #[.string a0_0, .int .i64 a0_1, .slice A0_2 l0_2.length c0_2]) (t := 24) ?hr ?_; (case hd => rfl); (case hg => rfl); (case hr => first | (go_simp; done) | (go_simp; rfl)); intro gb136 hg w21 hbox hb; have n0_ := ad_ (below_step bel_ hb); have n1_ := ad_ (hbox); have n2_ := ad_ ((by rw [hg]; exact (below_size bel_) : w.heap.size ≤ gb136)); have n3_ := ad_ ((by rw [hg]; exact (below_size bel_) : w.heap.size ≤ gb136)); clear HB; have HB := n0_; have BK136 := n1_; have GW136 := n2_; have GE136 := n3_; clear n0_ n1_ n2_ n3_; clear hb hbox hg; have hcz22_ := cells3_ BK136.out) | ((with_reducible refine gate_callee (f := 32) rfl ?_); refine goesL_ (some 6) rfl rfl Try.func32 (by kernel_rfl) rfl #[.slice A0_2 l0_2.length c0_2, .func (.func 33) #[] #[]] rfl arg_ ?_; (with_reducible refine (zone_Onset_32.calls k _ _ l0_2  t137 _ ?side1 ?side2 A2.out).mono ?_); (case side1 => exact cop_ (Kd.C_below HR0_2.out HB.out)); (case side2 => exact HC0_2.out); rintro e w23 ⟨rfl, hb⟩; refine ⟨_, rfl, ?_⟩; have n0_ := ad_ (blk_below (g := gb136) (o := .cells #[.string a0_0, .int .i64 a0_1, .slice A0_2 l0_2.length c0_2] 24 (0, 0)) (blo_ BK136.out) hb); have n1_ := ad_ (below_step belg_ hb); clear BK136; clear HB; have BK136 := n0_; have HB := n1_; clear n0_ n1_; (try clear hb); (try clear hb2); (try clear hk); (try clear hi); have hcz24_ := cells3_ BK136.out) | ((with_reducible refine gate_callee (f := 35) rfl ?_); refine goesL_ (some 9) rfl rfl Try.func35 (by kernel_rfl) rfl #[.string a0_0] rfl arg_ ?_; (with_reducible refine (zone_isName.calls k a0_0 true _ A3.out).mono ?_); rintro e w' ⟨rfl, ⟨nd, rfl⟩⟩; refine ⟨_, rfl, ?_⟩) | (go_at_call 36; (with_reducible refine (zone_isShift.calls a0_1 false _ A5.out).mono ?_); rintro e w' ⟨rfl, ⟨nd, rfl⟩⟩))
   go_ret
   exact ⟨ret_, belg_⟩
 ·replace c4 := Bool.eq_false_iff.mpr c4
  subst c4
  have H1 := ifn_ H
  clear H
  have H := H1
  clear H1
  obtain rfl := Option.some.inj H
  go_enter Try.func15, Try.ntmps15
  go_wp2_with (first | ((with_reducible refine gate_dst (N := 1) rfl ?_); (try (refine gate_guard (by rfl) ?_; dsimp only)); refine box_event ?hg (N := 1) ?hd (cs := #[.string a0_0, .int .i64 a0_1, .slice A0_2 l0_2.length c0_2]) (t := 24) ?hr ?_; (case hd => rfl); (case hg => rfl); (case hr => first | (go_simp; done) | (go_simp; rfl)); intro gb136 hg w25 hbox hb; have n0_ := ad_ (below_step bel_ hb); have n1_ := ad_ (hbox); have n2_ := ad_ ((by rw [hg]; exact (below_size bel_) : w.heap.size ≤ gb136)); have n3_ := ad_ ((by rw [hg]; exact (below_size bel_) : w.heap.size ≤ gb136)); clear HB; have HB := n0_; have BK136 := n1_; have GW136 := n2_; have GE136 := n3_; clear n0_ n1_ n2_ n3_; clear hb hbox hg; have hcz26_ := cells3_ BK136.out) | ((with_reducible refine gate_callee (f := 32) rfl ?_); refine goesL_ (some 6) rfl rfl Try.func32 (by kernel_rfl) rfl #[.slice A0_2 l0_2.length c0_2, .func (.func 33) #[] #[]] rfl arg_ ?_; (with_reducible refine (zone_Onset_32.calls k _ _ l0_2  t137 _ ?side1 ?side2 A2.out).mono ?_); (case side1 => exact cop_ (Kd.C_below HR0_2.out HB.out)); (case side2 => exact HC0_2.out); rintro e w27 ⟨rfl, hb⟩; refine ⟨_, rfl, ?_⟩; have n0_ := ad_ (blk_below (g := gb136) (o := .cells #[.string a0_0, .int .i64 a0_1, .slice A0_2 l0_2.length c0_2] 24 (0, 0)) (blo_ BK136.out) hb); have n1_ := ad_ (below_step belg_ hb); clear BK136; clear HB; have BK136 := n0_; have HB := n1_; clear n0_ n1_; (try clear hb); (try clear hb2); (try clear hk); (try clear hi); have hcz28_ := cells3_ BK136.out) | ((with_reducible refine gate_callee (f := 35) rfl ?_); refine goesL_ (some 9) rfl rfl Try.func35 (by kernel_rfl) rfl #[.string a0_0] rfl arg_ ?_; (with_reducible refine (zone_isName.calls k a0_0 false _ A3.out).mono ?_); rintro e w' ⟨rfl, ⟨nd, rfl⟩⟩; refine ⟨_, rfl, ?_⟩))
  go_ret
  exact ⟨ret_, belg_⟩

/-! ### when_before: function 89 -/
def when_before.f (a0 : Int) : Option (Int) := some (wrap64 ((wrap64 ((wrap64 ((wrap64 ((wrap64 (365 * (wrap64 ((wrap64 (a0 - 1)) - 1969)))) + (wrap64 (Int.tdiv (wrap64 (a0 - 1)) 4)))) - (wrap64 (Int.tdiv (wrap64 (a0 - 1)) 100)))) + (wrap64 (Int.tdiv (wrap64 (a0 - 1)) 400)))) - 477))
set_option maxHeartbeats 8000000 in
set_option maxRecDepth 100000 in
theorem when_before.calls (a0 : Int) (r : Int) (w : World) (h : when_before.f a0 = some r) :
  Calls Try.prog 89 #[.int .i64 a0] w fun e w' => e = .returned (.int .i64 r) ∧ Drawn0 w w' := by
 have H : (some (wrap64 ((wrap64 ((wrap64 ((wrap64 ((wrap64 (365 * (wrap64 ((wrap64 (a0 - 1)) - 1969)))) + (wrap64 (Int.tdiv (wrap64 (a0 - 1)) 4)))) - (wrap64 (Int.tdiv (wrap64 (a0 - 1)) 100)))) + (wrap64 (Int.tdiv (wrap64 (a0 - 1)) 400)))) - 477))) = some r := h
 clear h
 obtain rfl := Option.some.inj H
 go_enter Try.func89, Try.ntmps89
 go_wp2
 go_ret
 exact ⟨val_, by repeat (first | exact Drawn0.refl _ | apply Drawn0.step)⟩

/-! ### when_leap: function 97 -/
def when_leap.f (a0 : Int) : Option (Bool) := if (Int.tmod a0 4) = 0 then (if (Int.tmod a0 100) = 0 then (some ((Int.tmod a0 400) == 0)) else (some true)) else (some ((Int.tmod a0 400) == 0))
set_option maxHeartbeats 8000000 in
set_option maxRecDepth 100000 in
theorem when_leap.calls (a0 : Int) (r : Bool) (w : World) (h : when_leap.f a0 = some r) :
  Calls Try.prog 97 #[.int .i64 a0] w fun e w' => e = .returned (.bool r) ∧ Drawn0 w w' := by
 have H : (if (Int.tmod a0 4) = 0 then (if (Int.tmod a0 100) = 0 then (some ((Int.tmod a0 400) == 0)) else (some true)) else (some ((Int.tmod a0 400) == 0))) = some r := h
 clear h
 by_cases c2 : (Int.tmod a0 4) = 0
 ·rw [if_pos c2] at H
  have c2b0 : ((Int.tmod a0 4) == 0) = true := beq_iff_eq.mpr c2
  have c2b1 : ((Int.tmod a0 4) != 0) = false := bne_eq_false_iff_eq.mpr c2
  clear c2
  by_cases c3 : (Int.tmod a0 100) = 0
  ·rw [if_pos c3] at H
   have c3b0 : ((Int.tmod a0 100) == 0) = true := beq_iff_eq.mpr c3
   have c3b1 : ((Int.tmod a0 100) != 0) = false := bne_eq_false_iff_eq.mpr c3
   clear c3
   obtain rfl := Option.some.inj H
   go_enter Try.func97, Try.ntmps97
   go_wp2
   go_ret
   exact ⟨val_, by repeat (first | exact Drawn0.refl _ | apply Drawn0.step)⟩
  ·rw [if_neg c3] at H
   have c3b0 : ((Int.tmod a0 100) == 0) = false := beq_eq_false_iff_ne.mpr c3
   have c3b1 : ((Int.tmod a0 100) != 0) = true := bne_iff_ne.mpr c3
   obtain rfl := Option.some.inj H
   go_enter Try.func97, Try.ntmps97
   go_wp2
   go_ret
   exact ⟨val_, by repeat (first | exact Drawn0.refl _ | apply Drawn0.step)⟩
 ·rw [if_neg c2] at H
  have c2b0 : ((Int.tmod a0 4) == 0) = false := beq_eq_false_iff_ne.mpr c2
  have c2b1 : ((Int.tmod a0 4) != 0) = true := bne_iff_ne.mpr c2
  obtain rfl := Option.some.inj H
  go_enter Try.func97, Try.ntmps97
  go_wp2
  go_ret
  exact ⟨val_, by repeat (first | exact Drawn0.refl _ | apply Drawn0.step)⟩

/-! ### when_month: function 90 -/
/-- How many days a month has. -/
def when_month.tab (m : Int) : Int := if m = 0 then 0 else if m = 2 then 28 else if m = 4 ∨ m = 6 ∨ m = 9 ∨ m = 11 then 30 else 31
def when_month.f (a0 a1 : Int) : Option Int :=
 if 0 ≤ a1 ∧ a1 < 13 then (if a1 = 2 then (when_leap.f a0).bind fun t => some (if t = true then 29 else 28) else some (when_month.tab a1)) else none
set_option maxHeartbeats 8000000 in
set_option maxRecDepth 100000 in
theorem when_month.calls (a0 a1 : Int) (r : Int) (w : World) (h : when_month.f a0 a1 = some r) :
  Calls Try.prog 90 #[.int .i64 a0, .int .i64 a1] w fun e w' => e = .returned (.int .i64 r) ∧ Below w.heap.size w w' := by
 have HB := ad_ (Below.refl w.heap.size w)
 have H := h
 clear h
 unfold when_month.f at H
 by_cases c : 0 ≤ a1 ∧ a1 < 13
 ·rw [if_pos c] at H
  have hc : a1 = 0 ∨ a1 = 1 ∨ a1 = 2 ∨ a1 = 3 ∨ a1 = 4 ∨ a1 = 5 ∨ a1 = 6 ∨ a1 = 7 ∨ a1 = 8 ∨ a1 = 9 ∨ a1 = 10 ∨ a1 = 11 ∨ a1 = 12 := by omega
  clear c
  rcases hc with rfl | rfl | rfl | rfl | rfl | rfl | rfl | rfl | rfl | rfl | rfl | rfl | rfl
  all_goals first | (rw [if_neg (by decide)] at H; obtain rfl := Option.some.inj H; go_enter Try.func90, Try.ntmps90; go_wp2; go_ret; exact ⟨rfl, HB.out.alloc (Nat.le_refl _) _⟩) | skip
  rw [if_pos rfl] at H
  replace H := Option.bind_eq_some_iff.mp H
  obtain ⟨t, A0, H⟩ := H
  have A1 := Aside0.mk A0
  clear A0
  cases t with
  | true =>
   obtain rfl := Option.some.inj H
   go_enter Try.func90, Try.ntmps90
   go_wp2_with (first | (go_at_call 97; (with_reducible refine (when_leap.calls a0 true _ A1.out).mono ?_); rintro e w' ⟨rfl, ⟨nd, rfl⟩⟩))
   go_ret
   exact ⟨rfl, bel_⟩
  | false =>
   obtain rfl := Option.some.inj H
   go_enter Try.func90, Try.ntmps90
   go_wp2_with (first | (go_at_call 97; (with_reducible refine (when_leap.calls a0 false _ A1.out).mono ?_); rintro e w' ⟨rfl, ⟨nd, rfl⟩⟩))
   go_ret
   exact ⟨rfl, bel_⟩
 ·rw [if_neg c] at H
  cases H

/-! ### when_Civil: function 78 -/
mutual
def when_Civil.j0 : Nat → Int → Bool → Option (Int × Int × Int × Int)
 | 0, _, _ => none
 | k + 1, x0, x14 => if x14 = true then (some (0, 0, 0, 110)) else (when_Civil.l0 k x0 (wrap64 (1970 + (wrap64 (Int.tdiv x0 366)))))
def when_Civil.j2 : Nat → Int → Int → Option (Int × Int × Int × Int)
 | 0, _, _ => none
 | k + 1, x0, x6 => (when_before.f x6).bind fun t141 => (when_Civil.l1 k x6 (wrap64 (x0 - t141)) 1)
def when_Civil.l1 : Nat → Int → Int → Int → Option (Int × Int × Int × Int)
 | 0, _, _, _ => none
 | k + 1, x6, x7, x8 => (when_month.f x6 x8).bind fun t142 => (if x7 ≥ t142 then ((when_month.f x6 x8).bind fun t143 => (when_Civil.l1 k x6 (wrap64 (x7 - t143)) (wrap64 (x8 + 1)))) else (some (x6, x8, wrap64 (x7 + 1), 0)))
def when_Civil.l0 : Nat → Int → Int → Option (Int × Int × Int × Int)
 | 0, _, _ => none
 | k + 1, x0, x6 => if x6 < 9999 then ((when_before.f (wrap64 (x6 + 1))).bind fun t140 => (if t140 ≤ x0 then (when_Civil.l0 k x0 (wrap64 (x6 + 1))) else (when_Civil.j2 k x0 x6))) else (when_Civil.j2 k x0 x6)
end
def when_Civil.f (k : Nat) (a0 : Int) : Option (Int × Int × Int × Int) := if a0 < 0 then (when_Civil.j0 k a0 true) else (when_Civil.j0 k a0 (decide (a0 > 2932896)))
theorem when_Civil.mono_l : ∀ k, (∀ y0 y1, LeO (when_Civil.j0 k y0 y1) (when_Civil.j0 (k + 1) y0 y1)) ∧ (∀ y0 y1, LeO (when_Civil.j2 k y0 y1) (when_Civil.j2 (k + 1) y0 y1)) ∧ (∀ y0 y1 y2, LeO (when_Civil.l1 k y0 y1 y2) (when_Civil.l1 (k + 1) y0 y1 y2)) ∧ (∀ y0 y1, LeO (when_Civil.l0 k y0 y1) (when_Civil.l0 (k + 1) y0 y1))
 | 0 => ⟨fun _ _ r h => by simp [when_Civil.j0] at h, fun _ _ r h => by simp [when_Civil.j2] at h, fun _ _ _ r h => by simp [when_Civil.l1] at h, fun _ _ r h => by simp [when_Civil.l0] at h⟩
 | k + 1 => by
  obtain ⟨ih0, ih1, ih2, ih3⟩ := when_Civil.mono_l k
  refine ⟨?_, ?_, ?_, ?_⟩
  all_goals
   intros
   first | unfold when_Civil.j0 | unfold when_Civil.j2 | unfold when_Civil.l1 | unfold when_Civil.l0
   repeat' first
   | (with_reducible exact ih0 ..)
   | (with_reducible exact ih1 ..)
   | (with_reducible exact ih2 ..)
   | (with_reducible exact ih3 ..)
   | (with_reducible exact LeO.refl ..)
   | (with_reducible exact LeO.none ..)
   | (with_reducible refine LeO.ite ?_ ?_)
   | (with_reducible refine LeO.bind ?_ (fun _ => ?_))
   | exact ih0 ..
   | exact ih1 ..
   | exact ih2 ..
   | exact ih3 ..
   | exact LeO.none ..
   | refine LeO.ite ?_ ?_
   | refine LeO.bind ?_ (fun _ => ?_)
theorem when_Civil.mono : ∀ a0 k, LeO (when_Civil.f k a0) (when_Civil.f (k + 1) a0) := by
 intro a0 k
 obtain ⟨ih0, ih1, ih2, ih3⟩ := when_Civil.mono_l k
 unfold when_Civil.f
 repeat' first
   | (with_reducible exact ih0 ..)
   | (with_reducible exact ih1 ..)
   | (with_reducible exact ih2 ..)
   | (with_reducible exact ih3 ..)
   | (with_reducible exact LeO.refl ..)
   | (with_reducible exact LeO.none ..)
   | (with_reducible refine LeO.ite ?_ ?_)
   | (with_reducible refine LeO.bind ?_ (fun _ => ?_))
   | exact ih0 ..
   | exact ih1 ..
   | exact ih2 ..
   | exact ih3 ..
   | exact LeO.none ..
   | refine LeO.ite ?_ ?_
   | refine LeO.bind ?_ (fun _ => ?_)
set_option maxHeartbeats 8000000 in
set_option maxRecDepth 100000 in
theorem when_Civil.calls (k : Nat) (a0 : Int) (r1 : Int) (r2 : Int) (r3 : Int) (r4 : Int) (w : World) (h : when_Civil.f k a0 = some (r1, r2, r3, r4)) :
  Calls Try.prog 78 #[.int .i64 a0] w fun e w' => e = .returned (.tuple #[.int .i64 r1, .int .i64 r2, .int .i64 r3, .int .i64 r4]) ∧ Below w.heap.size w w' := by
 have HB := ad_ (Below.refl w.heap.size w)
 have H : (if a0 < 0 then (when_Civil.j0 k a0 true) else (when_Civil.j0 k a0 (decide (a0 > 2932896)))) = some (r1, r2, r3, r4) := h
 clear h
 have HC2 := Aside0.mk H
 clear H
 go_enter Try.func78, Try.ntmps78
 go_upto_region 1 with (fail)
 go_cut [14] (fun v14 wc => ∃ (kq : Nat) (x14_1 : Bool), v14 = .bool x14_1 ∧ Aside0 (when_Civil.j0 kq a0 x14_1 = some (r1, r2, r3, r4)) ∧ Aside0 (kq ≤ k) ∧ Aside0 (Below w.heap.size w wc))
 case first =>
  have H := HC2.out
  clear HC2
  by_cases c3 : a0 < 0
  ·rw [if_pos c3] at H
   have c3b0 : decide (a0 < 0) = true := decide_eq_true c3
   clear c3
   (first | rw [c3b0] | (simp only [i64_w, i32_w]; rw [c3b0]) | skip)
   have H' := Aside0.mk H
   clear H
   go_wp2
   go_meet
   case rel => exact ⟨_, (true), val_, H', ⟨by first | omega | exact Nat.le_refl _⟩, ⟨bel_⟩⟩
  ·rw [if_neg c3] at H
   have c3b0 : decide (a0 < 0) = false := decide_eq_false c3
   clear c3
   (first | rw [c3b0] | (simp only [i64_w, i32_w]; rw [c3b0]) | skip)
   have H' := Aside0.mk H
   clear H
   go_wp2
   go_meet
   case rel => exact ⟨_, (decide (a0 > 2932896)), val_, H', ⟨by first | omega | exact Nat.le_refl _⟩, ⟨bel_⟩⟩
 case rest =>
  clear HC2
  try clear p2
  try clear c3
  try clear c3b0
  obtain ⟨kq, x14_1, rfl, HA, HJ1, HB⟩ := hcut
  cases kq with
  | zero => exact absurd HA.out (by simp [when_Civil.j0])
  | succ kj1 =>
   have H := HA.out
   clear HA
   simp only [when_Civil.j0] at H
   by_cases c4 : x14_1 = true
   ·subst c4
    have H1 := ifp_ H
    clear H
    have H := H1
    clear H1
    simp only [Option.some.injEq, Prod.mk.injEq] at H
    obtain ⟨rfl, rfl, rfl, rfl⟩ := H
    go_wp2
    refine bodyPost_ret (results_list (rs := [.tmp 2, .tmp 3, .tmp 4, .tmp 5]) rfl (by simp) (.tmp (.tmp (.tmp (.tmp .nil))))) rfl ?_
    exact ⟨ret_, bel_⟩
   ·replace c4 := Bool.eq_false_iff.mpr c4
    subst c4
    have H1 := ifn_ H
    clear H
    have H := H1
    clear H1
    have HC5 := Aside0.mk H
    clear H
    go_upto_block 0 with (fail)
    go_cut [6] (fun v6 wc => ∃ (kq : Nat) (x6_4 : Int), v6 = .int .i64 x6_4 ∧ Aside0 (when_Civil.j2 kq a0 x6_4 = some (r1, r2, r3, r4)) ∧ Aside0 (kq ≤ kj1) ∧ Aside0 (Below w.heap.size w wc))
    case first =>
     have H := HC5.out
     clear HC5
     have H' := Aside0.mk H
     clear H
     go_wp2
     go_loopg [6] kj1 (fun kq v6 w' => ∃ (x6_2 : Int), v6 = .int .i64 x6_2 ∧ Aside0 (when_Civil.l0 kq a0 x6_2 = some (r1, r2, r3, r4)) ∧ Aside0 (kq ≤ kj1) ∧ Aside0 (Below w.heap.size w w'))
     case atStart => exact ⟨(wrap64 (1970 + (wrap64 (Int.tdiv a0 366)))), val_, H', ⟨Nat.le_refl _⟩, ⟨bel_⟩⟩
     case round =>
      clear H'
      try clear p2
      try clear c3
      try clear c3b0
      try clear c4
      try clear p2
      obtain ⟨x6_2, rfl, HA, HK2, HB⟩ := hrel
      cases gk with
      | zero => exact absurd HA.out (by simp [when_Civil.l0])
      | succ k2 =>
       have H := HA.out
       clear HA
       simp only [when_Civil.l0] at H
       by_cases c6 : x6_2 < 9999
       ·rw [if_pos c6] at H
        have c6b0 : decide (x6_2 < 9999) = true := decide_eq_true c6
        clear c6
        (first | rw [c6b0] | (simp only [i64_w, i32_w]; rw [c6b0]) | skip)
        replace H := Option.bind_eq_some_iff.mp H
        obtain ⟨t140, A70, H⟩ := H
        try dsimp only at H
        have A7 := Aside0.mk A70
        clear A70
        by_cases c8 : t140 ≤ a0
        ·rw [if_pos c8] at H
         have c8b0 : decide (t140 ≤ a0) = true := decide_eq_true c8
         clear c8
         have H' := Aside0.mk H
         clear H
         go_wp2_with (first | (go_at_call 89; (with_reducible refine (when_before.calls (wrap64 (x6_2 + 1)) t140 _ A7.out).mono ?_); rintro e w' ⟨rfl, ⟨nd, rfl⟩⟩))
         go_roundg k2
         case measure => have := HJ1.out; have := HK2.out; omega
         case rel => exact ⟨(wrap64 (x6_2 + 1)), val_, H', ⟨by have := HJ1.out; have := HK2.out; omega⟩, ⟨bel_⟩⟩
        ·rw [if_neg c8] at H
         have c8b0 : decide (t140 ≤ a0) = false := decide_eq_false c8
         clear c8
         have H' := Aside0.mk H
         clear H
         go_wp2_with (first | (go_at_call 89; (with_reducible refine (when_before.calls (wrap64 (x6_2 + 1)) t140 _ A7.out).mono ?_); rintro e w' ⟨rfl, ⟨nd, rfl⟩⟩))
         go_meet
         case rel => exact ⟨_, (x6_2), val_, H', ⟨by have := HJ1.out; have := HK2.out; first | omega | exact Nat.le_refl _⟩, ⟨bel_⟩⟩
       ·rw [if_neg c6] at H
        have c6b0 : decide (x6_2 < 9999) = false := decide_eq_false c6
        clear c6
        (first | rw [c6b0] | (simp only [i64_w, i32_w]; rw [c6b0]) | skip)
        have H' := Aside0.mk H
        clear H
        go_wp2
        go_meet
        case rel => exact ⟨_, (x6_2), val_, H', ⟨by have := HJ1.out; have := HK2.out; first | omega | exact Nat.le_refl _⟩, ⟨bel_⟩⟩
    case rest =>
     clear HC5
     try clear p2
     try clear c3
     try clear c3b0
     try clear c4
     try clear c6
     try clear c6b0
     try clear p6
     try clear c7
     try clear c8
     try clear c8b0
     try clear p2
     obtain ⟨kq, x6_4, rfl, HA, HJ4, HB⟩ := hcut
     cases kq with
     | zero => exact absurd HA.out (by simp [when_Civil.j2])
     | succ kj4 =>
      have H := HA.out
      clear HA
      simp only [when_Civil.j2] at H
      replace H := Option.bind_eq_some_iff.mp H
      obtain ⟨t141, A90, H⟩ := H
      try dsimp only at H
      have A9 := Aside0.mk A90
      clear A90
      have H' := Aside0.mk H
      clear H
      go_wp2_with (first | ((with_reducible refine gate_callee (f := 89) rfl ?_); refine goesL_ (some 31) rfl rfl Try.func89 (by kernel_rfl) rfl #[.int .i64 x6_4] rfl arg_ ?_; (with_reducible refine (when_before.calls x6_4 t141 _ A9.out).mono ?_); rintro e w' ⟨rfl, ⟨nd, rfl⟩⟩; refine ⟨_, rfl, ?_⟩))
      go_loopg [7, 8] kj4 (fun kq v7 v8 w' => ∃ (x7_3 : Int) (x8_3 : Int), v7 = .int .i64 x7_3 ∧ v8 = .int .i64 x8_3 ∧ Aside0 (when_Civil.l1 kq x6_4 x7_3 x8_3 = some (r1, r2, r3, r4)) ∧ Aside0 (kq ≤ kj4) ∧ Aside0 (Below w.heap.size w w'))
      case atStart => exact ⟨(wrap64 (a0 - t141)), (1), val_, val_, H', ⟨Nat.le_refl _⟩, ⟨bel_⟩⟩
      case round =>
       clear H'
       try clear p2
       try clear c3
       try clear c3b0
       try clear c4
       try clear c6
       try clear c6b0
       try clear p6
       try clear c7
       try clear c8
       try clear c8b0
       try clear p2
       try clear p6
       obtain ⟨x7_3, x8_3, rfl, rfl, HA, HK3, HB⟩ := hrel
       cases gk with
       | zero => exact absurd HA.out (by simp [when_Civil.l1])
       | succ k3 =>
        have H := HA.out
        clear HA
        simp only [when_Civil.l1] at H
        replace H := Option.bind_eq_some_iff.mp H
        obtain ⟨t142, A100, H⟩ := H
        try dsimp only at H
        have A10 := Aside0.mk A100
        clear A100
        by_cases c11 : x7_3 ≥ t142
        ·rw [if_pos c11] at H
         have c11b0 : decide (t142 ≤ x7_3) = true := decide_eq_true c11
         clear c11
         replace H := Option.bind_eq_some_iff.mp H
         obtain ⟨t143, A120, H⟩ := H
         try dsimp only at H
         have A12 := Aside0.mk A120
         clear A120
         have H' := Aside0.mk H
         clear H
         go_wp2_with (first | ((with_reducible refine gate_callee (f := 90) rfl ?_); refine goesL_ (some 36) rfl rfl Try.func90 (by kernel_rfl) rfl #[.int .i64 x6_4, .int .i64 x8_3] rfl arg_ ?_; (with_reducible refine (when_month.calls x6_4 x8_3 t142 _ A10.out).mono ?_); rintro e w13 ⟨rfl, hb⟩; refine ⟨_, rfl, ?_⟩; have n0_ := ad_ (below_step bel_ hb); clear HB; have HB := n0_; clear n0_; (try clear hb); (try clear hb2); (try clear hk); (try clear hi)) | ((with_reducible refine gate_callee (f := 90) rfl ?_); refine goesL_ (some 41) rfl rfl Try.func90 (by kernel_rfl) rfl #[.int .i64 x6_4, .int .i64 x8_3] rfl arg_ ?_; (with_reducible refine (when_month.calls x6_4 x8_3 t143 _ A12.out).mono ?_); rintro e w14 ⟨rfl, hb⟩; refine ⟨_, rfl, ?_⟩; have n0_ := ad_ (below_step bel_ hb); clear HB; have HB := n0_; clear n0_; (try clear hb); (try clear hb2); (try clear hk); (try clear hi)))
         go_roundg k3
         case measure => have := HJ1.out; have := HJ4.out; have := HK3.out; omega
         case rel => exact ⟨(wrap64 (x7_3 - t143)), (wrap64 (x8_3 + 1)), val_, val_, H', ⟨by have := HJ1.out; have := HJ4.out; have := HK3.out; omega⟩, ⟨bel_⟩⟩
        ·rw [if_neg c11] at H
         have c11b0 : decide (t142 ≤ x7_3) = false := decide_eq_false c11
         clear c11
         simp only [Option.some.injEq, Prod.mk.injEq] at H
         obtain ⟨rfl, rfl, rfl, rfl⟩ := H
         go_wp2_with (first | ((with_reducible refine gate_callee (f := 90) rfl ?_); refine goesL_ (some 36) rfl rfl Try.func90 (by kernel_rfl) rfl #[.int .i64 x6_4, .int .i64 x8_3] rfl arg_ ?_; (with_reducible refine (when_month.calls x6_4 x8_3 t142 _ A10.out).mono ?_); rintro e w15 ⟨rfl, hb⟩; refine ⟨_, rfl, ?_⟩; have n0_ := ad_ (below_step bel_ hb); clear HB; have HB := n0_; clear n0_; (try clear hb); (try clear hb2); (try clear hk); (try clear hi)))
         refine bodyPost_ret (results_list (rs := [.tmp 2, .tmp 3, .tmp 4, .tmp 5]) rfl (by simp) (.tmp (.tmp (.tmp (.tmp .nil))))) rfl ?_
         exact ⟨ret_, bel_⟩

/-! ### zone_yearOf: function 56 -/
def zone_yearOf.f (k : Nat) (a0 : Int) : Option (Int) := (when_Civil.f k (mn (mx (wrap64 (Int.tdiv a0 86400)) 0) 2932896)).bind fun bt144 => (some bt144.1)
theorem zone_yearOf.mono : ∀ a0 k, LeO (zone_yearOf.f k a0) (zone_yearOf.f (k + 1) a0) := by
 intro a0 k
 unfold zone_yearOf.f
 repeat' first
   | (with_reducible exact when_Civil.mono ..)
   | (with_reducible exact LeO.refl ..)
   | (with_reducible exact LeO.none ..)
   | (with_reducible refine LeO.ite ?_ ?_)
   | (with_reducible refine LeO.bind ?_ (fun _ => ?_))
   | exact when_Civil.mono ..
   | exact LeO.none ..
   | refine LeO.ite ?_ ?_
   | refine LeO.bind ?_ (fun _ => ?_)
set_option maxHeartbeats 8000000 in
set_option maxRecDepth 100000 in
theorem zone_yearOf.calls (k : Nat) (a0 : Int) (r : Int) (w : World) (h : zone_yearOf.f k a0 = some r) :
  Calls Try.prog 56 #[.int .i64 a0] w fun e w' => e = .returned (.int .i64 r) ∧ Below w.heap.size w w' := by
 have HB := ad_ (Below.refl w.heap.size w)
 have H : ((when_Civil.f k (mn (mx (wrap64 (Int.tdiv a0 86400)) 0) 2932896)).bind fun bt144 => (some bt144.1)) = some r := h
 clear h
 obtain ⟨ji2, hji2⟩ : ∃ j_ : Int, (mx (wrap64 (Int.tdiv a0 86400)) 0) = j_ := ⟨_, rfl⟩
 replace H : ((when_Civil.f k (mn (ji2) 2932896)).bind fun bt144 => (some bt144.1)) = some r := by first | (rw [hji2] at H; exact H) | (simp only [hji2] at H ⊢; exact H)
 (try (have hji2l : 0 ≤ ji2 := by (rw [← hji2]; unfold mx; (repeat' split) <;> omega)))
 (try (have hji2m : 0 ≤ ji2 := by omega))
 have hji2_ : (if (wrap64 (Int.tdiv a0 86400)) < 0 then 0 else (wrap64 (Int.tdiv a0 86400))) = ji2 := hji2
 obtain ⟨ji3, hji3⟩ : ∃ j_ : Int, (mn (ji2) 2932896) = j_ := ⟨_, rfl⟩
 replace H : ((when_Civil.f k (ji3)).bind fun bt144 => (some bt144.1)) = some r := by first | (rw [hji3] at H; exact H) | (simp only [hji3] at H ⊢; exact H)
 have hji3_ : (if 2932896 < (ji2) then 2932896 else (ji2)) = ji3 := hji3
 replace H := Option.bind_eq_some_iff.mp H
 obtain ⟨⟨t144, t145, t146, t147⟩, A40, H⟩ := H
 try dsimp only at H
 have A4 := Aside0.mk A40
 clear A40
 obtain rfl := Option.some.inj H
 go_enter Try.func56, Try.ntmps56
 go_wp2_with (first | ((with_reducible refine gate_callee (f := 78) rfl ?_); refine goesL_ (some 12) rfl rfl Try.func78 (by kernel_rfl) rfl #[.int .i64 ji3] rfl (by (try simp only [List.map_toArray, List.map_cons, List.map_nil]); first | done | (simp only [hji3]; rfl) | rfl | (simp only [List.length_drop, List.length_take]; rfl)) ?_; (with_reducible refine (when_Civil.calls k ji3 t144 t145 t146 t147 _ A4.out).mono ?_); rintro e w5 ⟨rfl, hb⟩; refine ⟨_, rfl, ?_⟩; have n0_ := ad_ (below_step bel_ hb); clear HB; have HB := n0_; clear n0_; (try clear hb); (try clear hb2); (try clear hk); (try clear hi)))
 go_ret
 exact ⟨by first | rfl | (simp [errW_none, errW_some] <;> rfl) | (simp only [← hji2, ← hji3]; first | rfl | (simp [errW_none, errW_some] <;> rfl)) | (simp [*, errW_none, errW_some] <;> rfl), bel_⟩

end Go.Proofs.Ytlplmkllmgdifaa.PZ

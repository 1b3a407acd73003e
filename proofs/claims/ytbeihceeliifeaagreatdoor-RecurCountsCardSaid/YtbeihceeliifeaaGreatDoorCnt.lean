/- The statement RecurCounts over lists and numbers: with a greater Count there are the same times, and more; with a later Until likewise. -/
import Derived.Test.YtbeihceeliifeaaGreatDoorSor
import Derived.Test.YtbeihceeliifeaaGreatDoorPRx22
set_option linter.unusedVariables false
namespace Go.Proofs.YtbeihceeliifeaaGreatDoor.Cnt
open Go.RowKit Go.Proofs.YtbeihceeliifeaaGreatDoorW.PrintWords Go.Proofs.YtbeihceeliifeaaGreatDoorW.PrintLast Go.Proofs.YtbeihceeliifeaaGreatDoorW.PrintMore Go.Proofs.YtbeihceeliifeaaGreatDoor.PR Go.Proofs.YtbeihceeliifeaaGreatDoor.Cal Go.Proofs.YtbeihceeliifeaaGreatDoor.Base Go.Proofs.YtbeihceeliifeaaGreatDoor.Agree Go.Proofs.YtbeihceeliifeaaGreatDoor.Rule Go.Proofs.YtbeihceeliifeaaGreatDoor.Mat Go.Proofs.YtbeihceeliifeaaGreatDoor.Exp Go.Proofs.YtbeihceeliifeaaGreatDoor.Times Go.Proofs.YtbeihceeliifeaaGreatDoor.Tol Go.Proofs.YtbeihceeliifeaaGreatDoor.Sor
section
variable (r0 r1 : Int) (l7 l8 : List Int) (l9 : List S53)
/-- All times of a window. -/
noncomputable def every (s0 hi : Int) : List Int := Times.ahead 0 (-1) s0 hi 0 (daysTo r0 r1 0 (-1) l7 l8 l9 s0 hi)
theorem every_up (g : Mat.Good r0 r1 0 (-1) l9) (s0 hi : Int) (hs : 0 ≤ s0) : (every r0 r1 l7 l8 l9 s0 hi).Pairwise (fun x y => Expand.exTime s0 x < Expand.exTime s0 y) :=
  (days_times r0 r1 0 (-1) l7 l8 l9 g s0 hi hs).sublist (ahead_pre 0 (-1) s0 hi _ 0).sublist
theorem every_time (g : Mat.Good r0 r1 0 (-1) l9) (s0 hi : Int) (hs : 0 ≤ s0 ∧ s0 ≤ 253402300799) (d : Int) (h : d ∈ every r0 r1 l7 l8 l9 s0 hi) : s0 ≤ Expand.exTime s0 d ∧ Expand.exTime s0 d ≤ 253402300799 := by
  have := days_mem r0 r1 0 (-1) l7 l8 l9 g s0 hi d ((ahead_pre 0 (-1) s0 hi _ 0).subset h)
  rw [time_eq (by omega) this.2]
  omega
theorem good_same {r2 r3 q2 q3 : Int} (g : Mat.Good r0 r1 r2 r3 l9) (h : Sor.Ends q2 q3) : Mat.Good r0 r1 q2 q3 l9 :=
  ⟨⟨g.fine.freq, g.fine.step, h.1, h.2.imp id (fun h => h.1), g.fine.plain⟩, g.ok, g.few⟩
/-- What is told with an end. -/
theorem told_ends {q2 q3 : Int} (g : Mat.Good r0 r1 0 (-1) l9) (h : Sor.Ends q2 q3) (s0 hi : Int) (hs : 0 ≤ s0 ∧ s0 ≤ 253402300799) (hhi : 0 ≤ hi ∧ hi ≤ 253402300799) (hw : hi - s0 ≤ 631152000) :
    told r0 r1 q2 q3 l7 l8 l9 true s0 s0 hi 1000 = (((Times.ahead q2 q3 s0 hi 0 (daysTo r0 r1 0 (-1) l7 l8 l9 s0 hi)).map (Expand.exTime s0)).take 1000, 0) := by
  rw [told_run r0 r1 q2 q3 l7 l8 l9 (good_same r0 r1 l9 g h) s0 s0 hi hs hs hhi hw, days_same r0 r1 q2 q3 0 (-1) l7 l8 l9 s0 hi]
  rw [List.filter_eq_self.mpr]
  intro d hd
  have := days_mem r0 r1 0 (-1) l7 l8 l9 g s0 hi d ((ahead_pre q2 q3 s0 hi _ 0).subset hd)
  rw [time_eq (by omega) this.2]
  exact decide_eq_true (by omega)
/-- The statement. -/
theorem pure (r2 r3 : Int) (h7 : l7.length ≤ 1000000000000000000) (h8 : l8.length ≤ 1000000000000000000) (s0 hi n : Int) : ∃ k, posthornlaw21_RecurCounts.f k r0 r1 r2 r3 l7 l8 l9 s0 hi n = some true := by
  suffices h : Ev (fun k => posthornlaw21_RecurCounts.f k r0 r1 r2 r3 l7 l8 l9 s0 hi n) true by exact h.rounds
  unfold posthornlaw21_RecurCounts.f
  have alone : Ev (fun k => (posthornlaw21_alive.f k).bind fun t => some t) true := Ev.bind Alive.alive_ev (Ev.now _)
  have jt : Ev (fun k => posthornlaw21_RecurCounts.j0 k s0 hi n true r0 r1 r2 r3 l7 l8 l9) true :=
    Ev.step (f := fun k => (posthornlaw21_alive.f k).bind fun t => some t) (fun k => by simp only [posthornlaw21_RecurCounts.j0, if_true]) alone
  rcases great_cases r0 r1 r2 r3 l7 l8 l9 h7 h8 with hg | ⟨hg, h7, h8, h9⟩
  · simp only [hg, Option.bind_some, if_true]
    exact jt
  · simp only [hg, Option.bind_some, Bool.false_eq_true, if_false]
    obtain ⟨z, hz⟩ := far_some s0 hi
    simp only [hz, Option.bind_some]
    cases z with
    | true => simp only [if_true]; exact jt
    | false =>
      simp only [Bool.false_eq_true, if_false]
      by_cases c1 : n < 1
      · simp only [if_pos c1]; exact jt
      · simp only [if_neg c1]
        by_cases c2 : n > 1000
        · simp only [decide_eq_true c2]; exact jt
        · simp only [decide_eq_false c2]
          obtain ⟨ok, e1, -, hgd⟩ := right_all r0 r1 0 (-1) l7 l8 l9 (by omega) (by omega) (by omega)
          have en : ∀ {q2 q3 : Int}, Sor.Ends q2 q3 → Ev (fun k => recur_Right.f k r0 r1 q2 q3 l7 l8 l9) ok := fun {q2 q3} h => Ev.congr (fun k => right_same r0 r1 q2 q3 l7 l8 l9 h k) e1
          have E := fun {q2 q3 : Int} (h : Sor.Ends q2 q3) => Expand_ev r0 r1 q2 q3 l7 l8 l9 (by omega) (by omega) ok (en h) (fun ho => good_same r0 r1 l9 (hgd ho) h) s0 s0 hi 1000
          have h0 : Sor.Ends 0 (-1) := ⟨by omega, .inl rfl⟩
          have hn : Sor.Ends n (-1) := ⟨by omega, .inl rfl⟩
          refine Ev.step (f := fun k => (recur_Expand.f k r0 r1 0 (-1) l7 l8 l9 s0 s0 hi 1000).bind fun bt418 => ((recur_Expand.f k r0 r1 n (-1) l7 l8 l9 s0 s0 hi 1000).bind fun bt422 => (if bt418.2 = 0 then (posthornlaw21_RecurCounts.j1 k s0 hi n bt418.1 bt418.2 bt422.1 bt422.2 (bt422.2 != 0) r0 r1 n (-1) l7 l8 l9) else (posthornlaw21_RecurCounts.j1 k s0 hi n bt418.1 bt418.2 bt422.1 bt422.2 true r0 r1 n (-1) l7 l8 l9)))) (fun k => by simp only [posthornlaw21_RecurCounts.j0, Bool.false_eq_true, if_false]) ?_
          refine Ev.bind (E h0) (Ev.bind (E hn) ?_)
          by_cases d1 : (told r0 r1 0 (-1) l7 l8 l9 ok s0 s0 hi 1000).2 = 0
          · obtain ⟨rfl, hs, -, hhi, hw⟩ := told_zero r0 r1 0 (-1) l7 l8 l9 ok s0 s0 hi 1000 d1
            have g := hgd rfl
            have A0 := told_ends r0 r1 l7 l8 l9 g h0 s0 hi hs hhi hw
            have An := told_ends r0 r1 l7 l8 l9 g hn s0 hi hs hhi hw
            rw [ahead_count s0 hi n (by omega) _ 0 (by omega)] at An
            have hup := every_up r0 r1 l7 l8 l9 g s0 hi hs.1
            have htm := every_time r0 r1 l7 l8 l9 g s0 hi hs
            have AU := fun {u : Int} (hu : 0 ≤ u ∧ u ≤ 253402300799) => told_ends r0 r1 l7 l8 l9 g (q2 := 0) (q3 := u) ⟨by omega, .inr ⟨hu, rfl⟩⟩ s0 hi hs hhi hw
            have EU := fun {u : Int} (hu : 0 ≤ u ∧ u ≤ 253402300799) => E (q2 := 0) (q3 := u) ⟨by omega, .inr ⟨hu, rfl⟩⟩
            have UT := fun {u : Int} (hu : 0 ≤ u ∧ u ≤ 253402300799) => ahead_until s0 hi u (by omega) (daysTo r0 r1 0 (-1) l7 l8 l9 s0 hi) 0 (days_times r0 r1 0 (-1) l7 l8 l9 g s0 hi hs.1)
            have ex : Times.ahead 0 (-1) s0 hi 0 (daysTo r0 r1 0 (-1) l7 l8 l9 s0 hi) = every r0 r1 l7 l8 l9 s0 hi := rfl
            rw [ex] at A0 An
            rw [ex] at UT
            generalize every r0 r1 l7 l8 l9 s0 hi = X at *
            obtain ⟨m, rfl⟩ : ∃ m : Nat, n = m := ⟨n.toNat, by omega⟩
            rw [show ((m : Int) - ((0 : Nat) : Int)).toNat = m by omega] at An
            simp only [A0, An, if_true, bne_self_eq_false]
            have hall : ((X.map (Expand.exTime s0)).take 1000).length = min 1000 X.length := by rw [List.length_take, List.length_map]
            have hsome : ((X.take m).map (Expand.exTime s0)).take 1000 = (X.map (Expand.exTime s0)).take m := by
              rw [List.map_take, List.take_take, Nat.min_eq_right (by omega)]
            rw [hsome]
            -- how many
            obtain ⟨w, hw0, hw1, hw2, hw3⟩ : ∃ w : Nat, (if (((X.map (Expand.exTime s0)).take 1000).length : Int) < (m : Int) then (((X.map (Expand.exTime s0)).take 1000).length : Int) else (m : Int)) = (w : Int) ∧ w ≤ X.length ∧ w ≤ 1000 ∧ (X.map (Expand.exTime s0)).take m = (X.map (Expand.exTime s0)).take w := by
              by_cases c : min 1000 X.length < m
              · refine ⟨X.length, by rw [hall, if_pos (by omega)]; omega, Nat.le_refl _, by omega, ?_⟩
                rw [List.take_of_length_le (by simp; omega), List.take_of_length_le (by simp)]
              · exact ⟨m, by rw [hall, if_neg (by omega)], by omega, by omega, rfl⟩
            have lw : ((X.map (Expand.exTime s0)).take w).length = w := by rw [List.length_take, List.length_map]; omega
            have tw : ((X.map (Expand.exTime s0)).take 1000).take w = (X.map (Expand.exTime s0)).take w := by rw [List.take_take, Nat.min_eq_left hw2]
            rw [hw3]
            have S := times ((X.map (Expand.exTime s0)).take w) (by omega)
            have J3 : Ev (fun k => posthornlaw21_RecurCounts.j3 k s0 hi ((X.map (Expand.exTime s0)).take 1000) ((X.map (Expand.exTime s0)).take w) (w : Int) false r0 r1 (m : Int) (-1) l7 l8 l9) true := by
              by_cases cw : w = 0
              · subst cw
                refine Ev.step (f := fun k => (posthornlaw21_alive.f k).bind fun t => some t) (fun k => ?_) alone
                simp only [posthornlaw21_RecurCounts.j3, Bool.false_eq_true, if_false]
                rw [if_pos (show ((0 : Nat) : Int) = 0 from rfl)]
              · have wb : wrap64 ((w : Int) - 1) = ((w - 1 : Nat) : Int) := (wrapI (by omega) (by omega)).trans (by omega)
                have hlt : w - 1 < X.length := by omega
                have er : rd ((X.map (Expand.exTime s0)).take 1000) ((w - 1 : Nat) : Int) = Expand.exTime s0 X[w - 1] := by
                  have : w - 1 < 1000 := by omega
                  simp [rd, this, hlt]
                have hu := htm X[w - 1] (List.getElem_mem hlt)
                have hu' : 0 ≤ Expand.exTime s0 X[w - 1] ∧ Expand.exTime s0 X[w - 1] ≤ 253402300799 := by omega
                have U : (told r0 r1 0 (Expand.exTime s0 X[w - 1]) l7 l8 l9 true s0 s0 hi 1000) = ((X.map (Expand.exTime s0)).take w, 0) := by
                  rw [AU hu', UT hu', upto (Expand.exTime s0) X (w - 1) hlt hup, show w - 1 + 1 = w by omega, List.map_take, List.take_take, Nat.min_eq_right hw2]
                refine Ev.step (f := fun k => (recur_Expand.f k r0 r1 0 (Expand.exTime s0 X[w - 1]) l7 l8 l9 s0 s0 hi 1000).bind fun bt434 => ((posthornlaw21_alive.f k).bind fun t438 => (if t438 = true then (if bt434.2 = 0 then ((posthornref21_SameTimes.f k bt434.1 ((X.map (Expand.exTime s0)).take w)).bind fun t439 => (some t439)) else (some false)) else (some false)))) (fun k => ?_) ?_
                · simp only [posthornlaw21_RecurCounts.j3, Bool.false_eq_true, if_false]
                  rw [if_neg (show ¬ (w : Int) = 0 by omega), wb, if_pos (show (0 : Int) ≤ ((w - 1 : Nat) : Int) by omega), if_pos (show ((w - 1 : Nat) : Int) < (((X.map (Expand.exTime s0)).take 1000).length : Int) by rw [hall]; omega), er]
                · refine Ev.bind (EU hu') ?_
                  rw [U]
                  refine Ev.bind Alive.alive_ev ?_
                  simp only [if_true]
                  exact Ev.bind S (Ev.now _)
            have J2 : Ev (fun k => posthornlaw21_RecurCounts.j2 k s0 hi ((X.map (Expand.exTime s0)).take 1000) ((X.map (Expand.exTime s0)).take w) (w : Int) r0 r1 (m : Int) (-1) l7 l8 l9) true := by
              refine Ev.step (f := fun k => (posthornref21_SameTimes.f k ((X.map (Expand.exTime s0)).take w) ((X.map (Expand.exTime s0)).take w)).bind fun t431 => (posthornlaw21_RecurCounts.j3 k s0 hi ((X.map (Expand.exTime s0)).take 1000) ((X.map (Expand.exTime s0)).take w) (w : Int) (!t431) r0 r1 (m : Int) (-1) l7 l8 l9)) (fun k => ?_) (Ev.bind S J3)
              simp only [posthornlaw21_RecurCounts.j2]
              rw [if_pos (by rw [lw]), if_pos (show (0 : Int) ≤ (w : Int) by omega), if_pos (show (w : Int) ≤ (((X.map (Expand.exTime s0)).take 1000).length : Int) by rw [hall]; omega), show ((w : Int)).toNat = w by omega, tw]
            refine Ev.step (f := fun k => posthornlaw21_RecurCounts.j2 k s0 hi ((X.map (Expand.exTime s0)).take 1000) ((X.map (Expand.exTime s0)).take w) (w : Int) r0 r1 (m : Int) (-1) l7 l8 l9) (fun k => ?_) J2
            simp only [posthornlaw21_RecurCounts.j1, Bool.false_eq_true, if_false]
            by_cases c : (((X.map (Expand.exTime s0)).take 1000).length : Int) < (m : Int)
            · rw [if_pos c] at hw0 ⊢
              rw [hw0]
            · rw [if_neg c] at hw0 ⊢
              rw [hw0]
          · have same : (told r0 r1 n (-1) l7 l8 l9 ok s0 s0 hi 1000).2 = (told r0 r1 0 (-1) l7 l8 l9 ok s0 s0 hi 1000).2 := by
              unfold told
              split
              · rfl
              · split
                · rfl
                · split <;> rfl
            simp only [if_neg d1]
            refine Ev.step (f := fun k => (posthornlaw21_alive.f k).bind fun t426 => (if t426 = true then (some ((told r0 r1 0 (-1) l7 l8 l9 ok s0 s0 hi 1000).2 == (told r0 r1 n (-1) l7 l8 l9 ok s0 s0 hi 1000).2)) else (some false))) (fun k => by simp only [posthornlaw21_RecurCounts.j1, if_true]) ?_
            refine Ev.bind Alive.alive_ev ?_
            simp only [if_true, same, beq_self_eq_true]
            exact Ev.now _
end
end Go.Proofs.YtbeihceeliifeaaGreatDoor.Cnt

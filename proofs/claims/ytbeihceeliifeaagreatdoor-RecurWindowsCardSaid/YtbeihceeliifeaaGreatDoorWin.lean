/- The statement RecurWindows over lists and numbers: two windows side by side have the times of both. -/
import Derived.Test.YtbeihceeliifeaaGreatDoorSor
import Derived.Test.YtbeihceeliifeaaGreatDoorPRx21
set_option linter.unusedVariables false
namespace Go.Proofs.YtbeihceeliifeaaGreatDoor.Win
open Go.RowKit Go.Proofs.YtbeihceeliifeaaGreatDoorW.PrintWords Go.Proofs.YtbeihceeliifeaaGreatDoorW.PrintLast Go.Proofs.YtbeihceeliifeaaGreatDoorW.PrintMore Go.Proofs.YtbeihceeliifeaaGreatDoor.PR Go.Proofs.YtbeihceeliifeaaGreatDoor.Cal Go.Proofs.YtbeihceeliifeaaGreatDoor.Base Go.Proofs.YtbeihceeliifeaaGreatDoor.Agree Go.Proofs.YtbeihceeliifeaaGreatDoor.Rule Go.Proofs.YtbeihceeliifeaaGreatDoor.Mat Go.Proofs.YtbeihceeliifeaaGreatDoor.Exp Go.Proofs.YtbeihceeliifeaaGreatDoor.Times Go.Proofs.YtbeihceeliifeaaGreatDoor.Tol Go.Proofs.YtbeihceeliifeaaGreatDoor.Sor
section
variable (r0 r1 r2 r3 : Int) (l7 l8 : List Int) (l9 : List S53)
/-- The times of two windows side by side. -/
theorem both (g : Mat.Good r0 r1 r2 r3 l9) (s0 lo mid hi : Int) (hs : 0 ≤ s0 ∧ s0 ≤ 253402300799) (hlo : 0 ≤ lo ∧ lo ≤ 253402300799) (hm : 0 ≤ mid ∧ mid ≤ 253402300799) (hhi : 0 ≤ hi ∧ hi ≤ 253402300799) (hw : hi - s0 ≤ 631152000) (h1 : lo ≤ mid) (h2 : mid ≤ hi) :
    ((told r0 r1 r2 r3 l7 l8 l9 true s0 lo mid 1000).1 ++ (told r0 r1 r2 r3 l7 l8 l9 true s0 mid hi 1000).1).take 1000 = (told r0 r1 r2 r3 l7 l8 l9 true s0 lo hi 1000).1 := by
  rw [told_run r0 r1 r2 r3 l7 l8 l9 g s0 lo mid hs hlo hm (by omega), told_run r0 r1 r2 r3 l7 l8 l9 g s0 mid hi hs hm hhi hw, told_run r0 r1 r2 r3 l7 l8 l9 g s0 lo hi hs hlo hhi hw]
  simp only
  rw [take_two, ← List.map_append]
  congr 2
  obtain ⟨r, e, hr⟩ := days_split r0 r1 r2 r3 l7 l8 l9 g s0 mid hi hs.1 hm.1 h2
  have hT := days_times r0 r1 r2 r3 l7 l8 l9 g s0 hi hs.1
  have e2 : Times.ahead r2 r3 s0 mid 0 (daysTo r0 r1 r2 r3 l7 l8 l9 s0 mid) = (Times.ahead r2 r3 s0 hi 0 (daysTo r0 r1 r2 r3 l7 l8 l9 s0 hi)).filter fun d => decide (Expand.exTime s0 d < mid) := by
    rw [← ahead_mid r2 r3 s0 mid hi h2 _ 0 hT, e, ahead_more r2 r3 s0 mid _ r 0 hr]
  rw [e2]
  exact (parts (Expand.exTime s0) lo mid h1 _ (hT.sublist (ahead_pre r2 r3 s0 hi _ 0).sublist)).symm
/-- The statement. -/
theorem pure (h7 : l7.length ≤ 1000000000000000000) (h8 : l8.length ≤ 1000000000000000000) (s0 lo mid hi : Int) : ∃ k, posthornlaw21_RecurWindows.f k r0 r1 r2 r3 l7 l8 l9 s0 lo mid hi = some true := by
  suffices h : Ev (fun k => posthornlaw21_RecurWindows.f k r0 r1 r2 r3 l7 l8 l9 s0 lo mid hi) true by exact h.rounds
  unfold posthornlaw21_RecurWindows.f
  have jt : Ev (fun k => posthornlaw21_RecurWindows.j0 k s0 lo mid hi true r0 r1 r2 r3 l7 l8 l9) true :=
    Ev.step (f := fun k => (posthornlaw21_alive.f k).bind fun t => some t) (fun k => by simp only [posthornlaw21_RecurWindows.j0, if_true]) (Ev.bind Alive.alive_ev (Ev.now _))
  have j1t : ∀ a b c, Ev (fun k => posthornlaw21_RecurWindows.j1 k a b c true) true := fun a b c =>
    Ev.step (f := fun k => (posthornlaw21_alive.f k).bind fun t => some t) (fun k => by simp only [posthornlaw21_RecurWindows.j1, if_true]) (Ev.bind Alive.alive_ev (Ev.now _))
  rcases great_cases r0 r1 r2 r3 l7 l8 l9 h7 h8 with hg | ⟨hg, h7, h8, h9⟩
  · simp only [hg, Option.bind_some, if_true]
    exact jt
  · simp only [hg, Option.bind_some, Bool.false_eq_true, if_false]
    obtain ⟨z, hz⟩ := far_some s0 hi
    simp only [hz, Option.bind_some]
    cases z with
    | true => simp only [if_true]; exact jt
    | false =>
      simp only [Bool.false_eq_true, if_false]
      by_cases c1 : mid < lo
      · simp only [if_pos c1]; exact jt
      · simp only [if_neg c1]
        by_cases c2 : mid > hi
        · simp only [decide_eq_true c2]; exact jt
        · simp only [decide_eq_false c2]
          obtain ⟨ok, e1, e2, hgd⟩ := right_all r0 r1 r2 r3 l7 l8 l9 (by omega) (by omega) (by omega)
          have E := fun lo hi => Expand_ev r0 r1 r2 r3 l7 l8 l9 (by omega) (by omega) ok e1 hgd s0 lo hi 1000
          refine Ev.step (f := fun k => (recur_Expand.f k r0 r1 r2 r3 l7 l8 l9 s0 lo hi 1000).bind fun bt388 => ((recur_Expand.f k r0 r1 r2 r3 l7 l8 l9 s0 lo mid 1000).bind fun bt392 => ((recur_Expand.f k r0 r1 r2 r3 l7 l8 l9 s0 mid hi 1000).bind fun bt396 => (if bt388.2 = 0 then (if bt392.2 = 0 then (posthornlaw21_RecurWindows.j1 k bt388.1 bt392.1 bt396.1 (bt396.2 != 0)) else (posthornlaw21_RecurWindows.j1 k bt388.1 bt392.1 bt396.1 true)) else (posthornlaw21_RecurWindows.j1 k bt388.1 bt392.1 bt396.1 true))))) (fun k => by simp only [posthornlaw21_RecurWindows.j0, Bool.false_eq_true, if_false]) ?_
          refine Ev.bind (E lo hi) (Ev.bind (E lo mid) (Ev.bind (E mid hi) ?_))
          by_cases d1 : (told r0 r1 r2 r3 l7 l8 l9 ok s0 lo hi 1000).2 = 0
          · simp only [if_pos d1]
            by_cases d2 : (told r0 r1 r2 r3 l7 l8 l9 ok s0 lo mid 1000).2 = 0
            · simp only [if_pos d2]
              by_cases d3 : (told r0 r1 r2 r3 l7 l8 l9 ok s0 mid hi 1000).2 = 0
              · obtain ⟨rfl, hs, hlo, hhi, hw⟩ := told_zero r0 r1 r2 r3 l7 l8 l9 ok s0 lo hi 1000 d1
                obtain ⟨-, -, -, hm, -⟩ := told_zero r0 r1 r2 r3 l7 l8 l9 true s0 lo mid 1000 d2
                have B := both r0 r1 r2 r3 l7 l8 l9 (hgd rfl) s0 lo mid hi hs hlo hm hhi hw (by omega) (by omega)
                have L1 := told_len r0 r1 r2 r3 l7 l8 l9 true s0 lo mid 1000
                have L2 := told_len r0 r1 r2 r3 l7 l8 l9 true s0 mid hi 1000
                have L3 := told_len r0 r1 r2 r3 l7 l8 l9 true s0 lo hi 1000
                rw [d3, bne_self_eq_false]
                generalize (told r0 r1 r2 r3 l7 l8 l9 true s0 lo mid 1000).1 = a at *
                generalize (told r0 r1 r2 r3 l7 l8 l9 true s0 mid hi 1000).1 = b at *
                generalize (told r0 r1 r2 r3 l7 l8 l9 true s0 lo hi 1000).1 = c at *
                have S := times c (by omega)
                refine Ev.step (f := fun k => (posthornlaw21_alive.f k).bind fun t410 => (if t410 = true then ((posthornref21_SameTimes.f k c c).bind fun t411 => (some t411)) else (some false))) (fun k => ?_) ?_
                · simp only [posthornlaw21_RecurWindows.j1, Bool.false_eq_true, if_false, List.nil_append, List.length_nil, Option.bind_some]
                  rw [if_pos (show 0 + a.length < 17592186044416 by omega), if_pos (show a.length + b.length < 17592186044416 by omega)]
                  by_cases c : ((a ++ b).length : Int) > 1000
                  · rw [if_pos c, if_pos (by omega), show (1000 : Int).toNat = 1000 from rfl, B]
                  · rw [if_neg c]
                    rw [List.take_of_length_le (by omega)] at B
                    rw [B]
                · refine Ev.bind Alive.alive_ev ?_
                  simp only [if_true]
                  exact Ev.bind S (Ev.now _)
              · simp only [bne_iff_ne.mpr d3]
                exact j1t _ _ _
            · simp only [if_neg d2]
              exact j1t _ _ _
          · simp only [if_neg d1]
            exact j1t _ _ _
end
end Go.Proofs.YtbeihceeliifeaaGreatDoor.Win

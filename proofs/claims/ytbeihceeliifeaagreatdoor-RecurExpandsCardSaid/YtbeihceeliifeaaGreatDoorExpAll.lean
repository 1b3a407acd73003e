/- A rule's times, or what is wrong: the program's answer and the document's are one; the statement RecurExpands over lists and numbers. -/
import Derived.Test.YtbeihceeliifeaaGreatDoorTol
import Derived.Test.YtbeihceeliifeaaGreatDoorPRx19
set_option linter.unusedVariables false
namespace Go.Proofs.YtbeihceeliifeaaGreatDoor.ExpAll
open Go.RowKit Go.Proofs.YtbeihceeliifeaaGreatDoorW.PrintWords Go.Proofs.YtbeihceeliifeaaGreatDoorW.PrintLast Go.Proofs.YtbeihceeliifeaaGreatDoorW.PrintMore Go.Proofs.YtbeihceeliifeaaGreatDoor.PR Go.Proofs.YtbeihceeliifeaaGreatDoor.Cal Go.Proofs.YtbeihceeliifeaaGreatDoor.Base Go.Proofs.YtbeihceeliifeaaGreatDoor.Agree Go.Proofs.YtbeihceeliifeaaGreatDoor.Rule Go.Proofs.YtbeihceeliifeaaGreatDoor.Mat Go.Proofs.YtbeihceeliifeaaGreatDoor.Exp Go.Proofs.YtbeihceeliifeaaGreatDoor.Times Go.Proofs.YtbeihceeliifeaaGreatDoor.Tol
theorem times_loop (l : List Int) (hn : l.length ≤ 9223372036854775807) : ∀ (n i : Nat), l.length - i = n → i ≤ l.length → Ev (fun k => posthornref21_SameTimes.l0 k l l (i : Int)) true := by
  intro n
  induction n with
  | zero =>
    intro i h hle
    refine Ev.step (f := fun _ => some true) (fun k => ?_) (Ev.now _)
    simp only [posthornref21_SameTimes.l0]
    rw [if_neg (by omega)]
  | succ n ih =>
    intro i h hle
    have w1 := wrapS (show i < l.length by omega) hn
    refine Ev.step (fun k => by simp only [posthornref21_SameTimes.l0]; rw [if_pos (show (i : Int) < (l.length : Int) by omega), if_pos (show (0 : Int) ≤ (i : Int) by omega), if_pos (show (i : Int) < (l.length : Int) by omega), if_pos trivial, w1]) (ih (i + 1) (by omega) (by omega))
theorem times (l : List Int) (hn : l.length ≤ 9223372036854775807) : Ev (fun k => posthornref21_SameTimes.f k l l) true := by
  unfold posthornref21_SameTimes.f
  simp only [if_true]
  exact times_loop l hn _ 0 rfl (by omega)
theorem equal_loop (l : List Int) (hn : l.length ≤ 9223372036854775807) : ∀ (n i : Nat), l.length - i = n → i ≤ l.length → Ev (fun k => posthornlaw21_equal.l0 k l l (i : Int)) true := by
  intro n
  induction n with
  | zero =>
    intro i h hle
    refine Ev.step (f := fun _ => some true) (fun k => ?_) (Ev.now _)
    simp only [posthornlaw21_equal.l0]
    rw [if_neg (by omega)]
  | succ n ih =>
    intro i h hle
    have w1 := wrapS (show i < l.length by omega) hn
    refine Ev.step (fun k => by simp only [posthornlaw21_equal.l0]; rw [if_pos (show (i : Int) < (l.length : Int) by omega), if_pos (show (0 : Int) ≤ (i : Int) by omega), if_pos (show (i : Int) < (l.length : Int) by omega), if_pos trivial, w1]) (ih (i + 1) (by omega) (by omega))
theorem equal (l : List Int) (hn : l.length ≤ 9223372036854775807) : Ev (fun k => posthornlaw21_equal.f k l l) true := by
  unfold posthornlaw21_equal.f
  simp only [if_true]
  exact equal_loop l hn _ 0 rfl (by omega)
section
variable (r0 r1 r2 r3 : Int) (l7 l8 : List Int) (l9 : List S53)
theorem same_loop (m : List S54) (hn : m.length ≤ 9223372036854775807) : ∀ (n i : Nat), m.length - i = n → i ≤ m.length → Ev (fun k => posthornlaw21_Same.l0 k (i : Int) r0 r1 r2 r3 l7 l8 m r0 r1 r2 r3 l7 l8 m) true := by
  intro n
  induction n with
  | zero =>
    intro i h hle
    refine Ev.step (f := fun _ => some true) (fun k => ?_) (Ev.now _)
    simp only [posthornlaw21_Same.l0]
    rw [if_neg (by omega)]
  | succ n ih =>
    intro i h hle
    have w1 := wrapS (show i < m.length by omega) hn
    refine Ev.step (fun k => by simp only [posthornlaw21_Same.l0, beq_self_eq_true, Bool.not_true, Bool.or_false, Bool.false_eq_true, if_false]; rw [if_pos (show (i : Int) < (m.length : Int) by omega), if_pos (show (0 : Int) ≤ (i : Int) by omega), if_pos (show (i : Int) < (m.length : Int) by omega), w1]) (ih (i + 1) (by omega) (by omega))
/-- A rule is the document's rule that was made of it. -/
theorem same (h7 : l7.length ≤ 100) (h8 : l8.length ≤ 100) (h9 : l9.length ≤ 100) : Ev (fun k => posthornlaw21_Same.f k r0 r1 r2 r3 l7 l8 l9 r0 r1 r2 r3 l7 l8 (l9.map cv)) true := by
  unfold posthornlaw21_Same.f
  refine Ev.bind (as_ev r0 r1 r2 r3 l7 l8 l9 h9) ?_
  simp only [if_true]
  refine Ev.bind (equal l7 (by omega)) ?_
  simp only [if_true]
  refine Ev.bind (equal l8 (by omega)) ?_
  simp only [if_true]
  refine Ev.step (f := fun k => posthornlaw21_Same.l0 k 0 r0 r1 r2 r3 l7 l8 (l9.map cv) r0 r1 r2 r3 l7 l8 (l9.map cv)) (fun k => ?_) (same_loop r0 r1 r2 r3 l7 l8 (l9.map cv) (by simp; omega) _ 0 rfl (by omega))
  simp only [posthornlaw21_Same.j0, bne_self_eq_false, Bool.false_eq_true, if_false]
/-- The document's answer. -/
theorem Expand21_ev (h7 : l7.length ≤ 9223372036854775807) (h8 : l8.length ≤ 9223372036854775807) (ok : Bool) (hr : Ev (fun k => posthornref21_Right.f k r0 r1 r2 r3 l7 l8 (l9.map cv)) ok) (hg : ok = true → Mat.Good r0 r1 r2 r3 l9) (s0 lo hi most : Int) :
    Ev (fun k => posthornref21_Expand.f k r0 r1 r2 r3 l7 l8 (l9.map cv) s0 lo hi most) (told r0 r1 r2 r3 l7 l8 l9 ok s0 lo hi most) := by
  unfold told
  cases ok with
  | false =>
    rw [if_pos rfl]
    unfold posthornref21_Expand.f
    refine Ev.bind hr ?_
    simp only [Bool.false_eq_true, if_false]
    exact Ev.now _
  | true =>
    rw [if_neg (by decide)]
    have bad : Ev (fun k => posthornref21_Expand.j0 k s0 lo hi most true r0 r1 r2 r3 l7 l8 (l9.map cv)) ([], 110) := Ev.step (f := fun _ => some ([], 110)) (fun k => by simp only [posthornref21_Expand.j0, if_true]) (Ev.now _)
    by_cases c1 : (0 ≤ s0 ∧ s0 ≤ 253402300799) ∧ (0 ≤ lo ∧ lo ≤ 253402300799) ∧ (0 ≤ hi ∧ hi ≤ 253402300799)
    · rw [if_neg (fun h => h c1)]
      by_cases c2 : hi - s0 ≤ 631152000 ∧ (1 ≤ most ∧ most ≤ 1000)
      · rw [if_neg (fun h => h c2)]
        exact expand21 r0 r1 r2 r3 l7 l8 l9 s0 lo hi most c2.2 hr (hg rfl).fine h7 h8 (hg rfl).few (hg rfl).ok c1.1 c1.2.1 c1.2.2 c2.1
      · rw [if_pos c2]
        unfold posthornref21_Expand.f
        refine Ev.bind hr ?_
        simp only [if_true, time12, Option.bind_some, decide_eq_true c1.1, decide_eq_true c1.2.1, decide_eq_true c1.2.2, Bool.not_true]
        have j1t : Ev (fun k => posthornref21_Expand.j1 k s0 lo hi most true r0 r1 r2 r3 l7 l8 (l9.map cv)) ([], 1) := Ev.step (f := fun _ => some ([], 1)) (fun k => by simp only [posthornref21_Expand.j1, if_true]) (Ev.now _)
        refine Ev.step (f := fun k => posthornref21_Expand.j1 k s0 lo hi most true r0 r1 r2 r3 l7 l8 (l9.map cv)) (fun k => ?_) j1t
        simp only [posthornref21_Expand.j0, Bool.false_eq_true, if_false]
        by_cases d1 : most < 1
        · rw [if_pos d1]
        · rw [if_neg d1]
          by_cases d2 : most > 1000
          · rw [if_pos d2]
          · rw [if_neg d2, decide_eq_true (show wrap64 (hi - s0) > 631152000 by unfold wrap64; omega)]
    · rw [if_pos c1]
      unfold posthornref21_Expand.f
      refine Ev.bind hr ?_
      simp only [if_true, time12, Option.bind_some]
      by_cases d1 : 0 ≤ s0 ∧ s0 ≤ 253402300799
      · simp only [decide_eq_true d1, if_true]
        by_cases d2 : 0 ≤ lo ∧ lo ≤ 253402300799
        · simp only [decide_eq_true d2, if_true, decide_eq_false (show ¬ (0 ≤ hi ∧ hi ≤ 253402300799) from fun d3 => c1 ⟨d1, d2, d3⟩), Bool.not_false]
          exact bad
        · simp only [decide_eq_false d2, Bool.false_eq_true, if_false]
          exact bad
      · simp only [decide_eq_false d1, Bool.false_eq_true, if_false]
        exact bad
/-- The statement RecurExpands over lists and numbers. -/
theorem pure (h7 : l7.length ≤ 1000000000000000000) (h8 : l8.length ≤ 1000000000000000000) (s0 lo hi most : Int) : ∃ k, posthornlaw21_RecurExpands.f k r0 r1 r2 r3 l7 l8 l9 s0 lo hi most = some true := by
  suffices h : Ev (fun k => posthornlaw21_RecurExpands.f k r0 r1 r2 r3 l7 l8 l9 s0 lo hi most) true by exact h.rounds
  unfold posthornlaw21_RecurExpands.f
  have jt : Ev (fun k => posthornlaw21_RecurExpands.j0 k s0 lo hi most true r0 r1 r2 r3 l7 l8 l9) true :=
    Ev.step (f := fun k => (posthornlaw21_alive.f k).bind fun t => some t) (fun k => by simp only [posthornlaw21_RecurExpands.j0, if_true]) (Ev.bind Alive.alive_ev (Ev.now _))
  rcases great_cases r0 r1 r2 r3 l7 l8 l9 h7 h8 with hg | ⟨hg, h7, h8, h9⟩
  · simp only [hg, Option.bind_some, if_true]
    exact jt
  · simp only [hg, Option.bind_some, Bool.false_eq_true, if_false]
    obtain ⟨z, hz⟩ := far_some s0 hi
    simp only [hz, Option.bind_some]
    cases z with
    | true => exact jt
    | false =>
      obtain ⟨ok, e1, e2, hgd⟩ := right_all r0 r1 r2 r3 l7 l8 l9 (by omega) (by omega) (by omega)
      have hl := told_len r0 r1 r2 r3 l7 l8 l9 ok s0 lo hi most
      refine Ev.step (f := fun k => (posthornlaw21_As.f k r0 r1 r2 r3 l7 l8 l9).bind fun bt334 => ((recur_Expand.f k r0 r1 r2 r3 l7 l8 l9 s0 lo hi most).bind fun bt348 => ((posthornref21_Expand.f k bt334.1 bt334.2.1 bt334.2.2.1 bt334.2.2.2.1 bt334.2.2.2.2.1 bt334.2.2.2.2.2.1 bt334.2.2.2.2.2.2 s0 lo hi most).bind fun bt352 => ((posthornlaw21_alive.f k).bind fun t356 => (if t356 = true then ((posthornref21_SameTimes.f k bt348.1 bt352.1).bind fun t357 => (if t357 = true then (if bt348.2 = bt352.2 then ((posthornlaw21_Same.f k r0 r1 r2 r3 l7 l8 l9 bt334.1 bt334.2.1 bt334.2.2.1 bt334.2.2.2.1 bt334.2.2.2.2.1 bt334.2.2.2.2.2.1 bt334.2.2.2.2.2.2).bind fun t358 => (some t358)) else (some false)) else (some false))) else (some false)))))) (fun k => by simp only [posthornlaw21_RecurExpands.j0, Bool.false_eq_true, if_false]) ?_
      refine Ev.bind (as_ev r0 r1 r2 r3 l7 l8 l9 h9) ?_
      refine Ev.bind (Expand_ev r0 r1 r2 r3 l7 l8 l9 (by omega) (by omega) ok e1 hgd s0 lo hi most) ?_
      refine Ev.bind (Expand21_ev r0 r1 r2 r3 l7 l8 l9 (by omega) (by omega) ok e2 hgd s0 lo hi most) ?_
      refine Ev.bind Alive.alive_ev ?_
      simp only [if_true]
      refine Ev.bind (times _ (by omega)) ?_
      simp only [if_true]
      exact Ev.bind (same r0 r1 r2 r3 l7 l8 l9 h7 h8 h9) (Ev.now _)
end
end Go.Proofs.YtbeihceeliifeaaGreatDoor.ExpAll

/- What recur.Expand tells, and its times: the first most of all those ahead of the day that ends them. -/
import Derived.Test.YtbeihceeliifeaaGreatDoorPlb
import Derived.Test.YtbeihceeliifeaaGreatDoorMatt
set_option linter.unusedVariables false
namespace Go.Proofs.YtbeihceeliifeaaGreatDoor.Tol
open Go.RowKit Go.Proofs.YtbeihceeliifeaaGreatDoorW.PrintWords Go.Proofs.YtbeihceeliifeaaGreatDoorW.PrintLast Go.Proofs.YtbeihceeliifeaaGreatDoorW.PrintMore Go.Proofs.YtbeihceeliifeaaGreatDoor.PR Go.Proofs.YtbeihceeliifeaaGreatDoor.Cal Go.Proofs.YtbeihceeliifeaaGreatDoor.Base Go.Proofs.YtbeihceeliifeaaGreatDoor.Agree Go.Proofs.YtbeihceeliifeaaGreatDoor.Rule Go.Proofs.YtbeihceeliifeaaGreatDoor.Mat Go.Proofs.YtbeihceeliifeaaGreatDoor.Exp Go.Proofs.YtbeihceeliifeaaGreatDoor.Times
section
variable (r0 r1 r2 r3 : Int) (l7 l8 : List Int) (l9 : List S53)
/-- What Expand tells of a rule. -/
noncomputable def told (ok : Bool) (s0 lo hi most : Int) : List Int × Int :=
  if ok = false then ([], 3)
  else if ¬ ((0 ≤ s0 ∧ s0 ≤ 253402300799) ∧ (0 ≤ lo ∧ lo ≤ 253402300799) ∧ (0 ≤ hi ∧ hi ≤ 253402300799)) then ([], 110)
  else if ¬ (hi - s0 ≤ 631152000 ∧ (1 ≤ most ∧ most ≤ 1000)) then ([], 1)
  else (Expand.exRun r2 r3 s0 lo hi most 0 [] (daysTo r0 r1 r2 r3 l7 l8 l9 s0 hi), 0)
theorem told_len (ok : Bool) (s0 lo hi most : Int) : (told r0 r1 r2 r3 l7 l8 l9 ok s0 lo hi most).1.length ≤ 1000 := by
  unfold told
  split
  · simp
  · split
    · simp
    · split
      · simp
      · rename_i c
        have c := Classical.not_not.mp c
        have := run_len r2 r3 s0 lo hi most (daysTo r0 r1 r2 r3 l7 l8 l9 s0 hi) 0 [] (by simp; omega)
        simp only
        omega
/-- The program's answer. -/
theorem Expand_ev (h7 : l7.length ≤ 9223372036854775807) (h8 : l8.length ≤ 9223372036854775807) (ok : Bool) (hr : Ev (fun k => recur_Right.f k r0 r1 r2 r3 l7 l8 l9) ok) (hg : ok = true → Mat.Good r0 r1 r2 r3 l9) (s0 lo hi most : Int) :
    Ev (fun k => recur_Expand.f k r0 r1 r2 r3 l7 l8 l9 s0 lo hi most) (told r0 r1 r2 r3 l7 l8 l9 ok s0 lo hi most) := by
  unfold told
  cases ok with
  | false =>
    rw [if_pos rfl]
    unfold recur_Expand.f
    refine Ev.bind hr ?_
    exact ev_pos rfl (Ev.now _)
  | true =>
    rw [if_neg (by decide)]
    by_cases c1 : (0 ≤ s0 ∧ s0 ≤ 253402300799) ∧ (0 ≤ lo ∧ lo ≤ 253402300799) ∧ (0 ≤ hi ∧ hi ≤ 253402300799)
    · rw [if_neg (fun h => h c1)]
      by_cases c2 : hi - s0 ≤ 631152000 ∧ (1 ≤ most ∧ most ≤ 1000)
      · rw [if_neg (fun h => h c2)]
        exact expand_ev r0 r1 r2 r3 l7 l8 l9 s0 lo hi most c2.2 hr h7 h8 (hg rfl).few c1.1 c1.2.1 c1.2.2 c2.1
      · rw [if_pos c2]
        unfold recur_Expand.f
        exact Ev.bind hr (ev_neg (by decide) (ev_neg (fun h => h c1) (ev_pos c2 (Ev.now _))))
    · rw [if_pos c1]
      unfold recur_Expand.f
      exact Ev.bind hr (ev_neg (by decide) (ev_pos c1 (Ev.now _)))
theorem far_some (a b : Int) : ∃ z, posthornlaw21_Far.f a b = some z := by
  unfold posthornlaw21_Far.f
  split
  · split
    · exact ⟨_, rfl⟩
    · exact ⟨_, rfl⟩
  · exact ⟨_, rfl⟩
end
/-! ### the times -/
section
variable (cnt until_ first from_ till : Int)
theorem run_take (most : Int) : ∀ (ds : List Int) (c : Nat) (out : List Int), c + ds.length < 4611686018427387904 → (out.length : Int) ≤ most →
    Expand.exRun cnt until_ first from_ till most c out ds = out ++ (((Times.ahead cnt until_ first till c ds).filter fun d => decide (Expand.exTime first d ≥ from_)).map (Expand.exTime first)).take (most.toNat - out.length) := by
  intro ds
  induction ds with
  | nil => intro c out _ _; simp [Expand.exRun, Times.ahead]
  | cons d ds ih =>
    intro c out hc hlen
    have ew : wrap64 ((c : Int) + 1) = ((c + 1 : Nat) : Int) := by simp at hc; unfold wrap64; omega
    have es : Expand.exStop cnt until_ first till most c (out.length : Int) d = (Times.stops cnt until_ first till c d || ((out.length : Int) == most)) := by
      unfold Expand.exStop Times.stops
      rw [ew]
      rfl
    simp only [Expand.exRun, es]
    cases h : Times.stops cnt until_ first till c d with
    | true => simp [Times.ahead, h]
    | false =>
      rw [Bool.false_or]
      by_cases e : (out.length : Int) = most
      · rw [if_pos (beq_iff_eq.2 e), show most.toNat - out.length = 0 by omega]
        simp
      · rw [if_neg (by rw [beq_iff_eq]; exact e), ew]
        simp only [Times.ahead, h, Bool.false_eq_true, if_false]
        unfold Expand.exPut
        by_cases cf : Expand.exTime first d ≥ from_
        · rw [if_pos cf, List.filter_cons_of_pos (by simp [cf]), ih (c + 1) _ (by simp at hc; omega) (by simp; omega), List.map_cons,
            show most.toNat - out.length = (most.toNat - (out.length + 1)) + 1 by omega, List.take_succ_cons]
          simp
        · rw [if_neg cf, List.filter_cons_of_neg (by simp [cf]), ih (c + 1) _ (by simp at hc; omega) (by omega)]
end
end Go.Proofs.YtbeihceeliifeaaGreatDoor.Tol

/- What must come of fixed calls; whether a day matches a rule: the program's answer and the document's are one; the statement RecurMatches over lists and numbers. -/
import Derived.Test.YtbeihceeliifeaaGreatDoorPRx9
import Derived.Test.YtbeihceeliifeaaGreatDoorPlb
import Derived.Test.YtbeihceeliifeaaGreatDoorPRx15
/- What must come of fixed calls: reckoned out, whatever the rounds beyond. -/
set_option linter.unusedVariables false
namespace Go.Proofs.YtbeihceeliifeaaGreatDoor.Alive
open Go.RowKit Go.Proofs.YtbeihceeliifeaaGreatDoorW.PrintWords Go.Proofs.YtbeihceeliifeaaGreatDoorW.PrintLast Go.Proofs.YtbeihceeliifeaaGreatDoor.PR
set_option maxRecDepth 1000000 in
theorem alive (k:Nat):(posthornlaw21_alive.f (k + 450))=some true:=by kernel_rfl
theorem alive_ev:Ev (fun k=>posthornlaw21_alive.f k) true:=⟨450,fun k hk=>by
 obtain ⟨m,rfl⟩:=Nat.exists_eq_add_of_le' hk
 exact alive m⟩
end Go.Proofs.YtbeihceeliifeaaGreatDoor.Alive
/- Whether a day matches a rule: the program's answer and the document's are one; a rule as the document's. -/
set_option linter.unusedVariables false
namespace Go.Proofs.YtbeihceeliifeaaGreatDoor.Mat
open Go.RowKit Go.Proofs.YtbeihceeliifeaaGreatDoorW.PrintWords Go.Proofs.YtbeihceeliifeaaGreatDoorW.PrintLast Go.Proofs.YtbeihceeliifeaaGreatDoorW.PrintMore Go.Proofs.YtbeihceeliifeaaGreatDoor.PR Go.Proofs.YtbeihceeliifeaaGreatDoor.Cal Go.Proofs.YtbeihceeliifeaaGreatDoor.Base Go.Proofs.YtbeihceeliifeaaGreatDoor.Match Go.Proofs.YtbeihceeliifeaaGreatDoor.Agree Go.Proofs.YtbeihceeliifeaaGreatDoor.Rule
section
variable (r0 r1 r2 r3 : Int) (l7 l8 : List Int) (l9 : List S53)
theorem match_late (a b : Int) (ha : 0 ≤ a ∧ a ≤ 2932896) (hb : 0 ≤ b ∧ b ≤ 2932896) (h : b < a) : Ev (fun k => recur_match.f k r0 r1 r2 r3 l7 l8 l9 a b) false := by
  obtain ⟨y0, m0, d0, -, hE0⟩ := civil_ev a ha.1 ha.2
  obtain ⟨y, m, d, -, hE⟩ := civil_ev b hb.1 hb.2
  unfold recur_match.f
  refine Ev.bind hE0 ?_
  refine Ev.bind hE ?_
  simp only [weekday_f ha.1 ha.2, weekday_f hb.1 hb.2, Option.bind_some, if_pos h]
  refine Ev.step (f := fun _ => some false) (fun k => ?_) (Ev.now _)
  rw [recur_match.j0.eq_2, if_pos rfl]
/-- What a rule that may be is. -/
structure Good : Prop where
  fine : Fine r0 r1 r2 r3 l9
  ok : ∀ x, x ∈ l9 → okDay x
  few : l9.length ≤ 77
theorem right_all (h7 : l7.length ≤ 9223372036854775807) (h8 : l8.length ≤ 9223372036854775807) (h9 : l9.length ≤ 9223372036854775807) :
    ∃ b, Ev (fun k => recur_Right.f k r0 r1 r2 r3 l7 l8 l9) b ∧ Ev (fun k => posthornref21_Right.f k r0 r1 r2 r3 l7 l8 (l9.map cv)) b ∧ (b = true → Good r0 r1 r2 r3 l9) := by
  obtain ⟨b, e1, e2, hf⟩ := right_both r0 r1 r2 r3 l7 l8 l9 h7 h8 h9
  refine ⟨b, e1, e2, fun hb => ?_⟩
  obtain ⟨c, ec, hc⟩ := rule_fin7 r0 r1 r2 r3 l7 l8 l9 h7 h8 h9
  obtain rfl := ev_one e1 ec
  have := hc hb
  exact ⟨hf hb, this.1.2, this.2⟩
theorem match_all (h7 : l7.length ≤ 9223372036854775807) (h8 : l8.length ≤ 9223372036854775807) (g : Good r0 r1 r2 r3 l9) (a b : Int) (ha : 0 ≤ a ∧ a ≤ 2932896) (hb : 0 ≤ b ∧ b ≤ 2932896) :
    Both (fun k => recur_match.f k r0 r1 r2 r3 l7 l8 l9 a b) (fun k => posthornref21_Matches.f k r0 r1 r2 r3 l7 l8 (l9.map cv) a b) := by
  by_cases h : b < a
  · refine ⟨false, match_late r0 r1 r2 r3 l7 l8 l9 a b ha hb h, ?_⟩
    unfold posthornref21_Matches.f
    simp only [if_pos h]
    exact Ev.now _
  · exact match_both r0 r1 r2 r3 l7 l8 l9 a b h7 h8 g.few g.ok g.fine.plain g.fine.step.1 ha.1 (by omega) hb.2
theorem day_f (n : Int) : recur_isDay.f n = some (decide (0 ≤ n ∧ n ≤ 2932896)) := by
  unfold recur_isDay.f
  by_cases c : n ≥ 0
  · rw [if_pos c]
    congr 1
    rw [decide_eq_decide]
    omega
  · rw [if_neg c, decide_eq_false (by omega)]
theorem Match_both (h7 : l7.length ≤ 9223372036854775807) (h8 : l8.length ≤ 9223372036854775807) (h9 : l9.length ≤ 9223372036854775807) (a b : Int) :
    Both (fun k => recur_Match.f k r0 r1 r2 r3 l7 l8 l9 a b) (fun k => posthornref21_Match.f k r0 r1 r2 r3 l7 l8 (l9.map cv) a b) := by
  obtain ⟨ok, e1, e2, hg⟩ := right_all r0 r1 r2 r3 l7 l8 l9 h7 h8 h9
  unfold recur_Match.f posthornref21_Match.f
  refine both_lb e1 (both_rb e2 ?_)
  cases ok with
  | false => simp only [Bool.false_eq_true, if_false]; exact both_now _
  | true =>
    simp only [if_true, day_f, Option.bind_some]
    by_cases ca : 0 ≤ a ∧ a ≤ 2932896
    · simp only [decide_eq_true ca, if_true, if_neg (show ¬ a < 0 by omega), if_neg (show ¬ a > 2932896 by omega)]
      by_cases cb : 0 ≤ b ∧ b ≤ 2932896
      · simp only [decide_eq_true cb, if_true, if_neg (show ¬ b < 0 by omega), if_neg (show ¬ b > 2932896 by omega)]
        exact both_bind (match_all r0 r1 r2 r3 l7 l8 l9 h7 h8 (hg rfl) a b ca cb) (fun t => both_now _)
      · simp only [decide_eq_false cb, Bool.false_eq_true, if_false]
        by_cases c : b < 0
        · simp only [if_pos c]; exact both_now _
        · simp only [if_neg c, if_pos (show b > 2932896 by omega)]; exact both_now _
    · simp only [decide_eq_false ca, Bool.false_eq_true, if_false]
      by_cases c : a < 0
      · simp only [if_pos c]; exact both_now _
      · simp only [if_neg c, if_pos (show a > 2932896 by omega)]; exact both_now _
theorem as_loop (q0 q1 q2 q3 : Int) (m7 m8 : List Int) (hn : l9.length ≤ 100) : ∀ (suf : List S53) (i : Nat) (acc : List S54), l9.drop i = suf → acc.length = i → acc ++ suf.map cv = l9.map cv → Ev (fun k => posthornlaw21_As.l0 k (i : Int) r0 r1 r2 r3 l7 l8 l9 q0 q1 q2 q3 m7 m8 acc) (q0, q1, q2, q3, m7, m8, l9.map cv) := by
  intro suf
  induction suf with
  | nil =>
    intro i acc hd hi he
    have h := drop_nil hd
    refine Ev.step (f := fun _ => some (q0, q1, q2, q3, m7, m8, l9.map cv)) (fun k => ?_) (Ev.now _)
    simp only [posthornlaw21_As.l0]
    rw [if_neg (by omega), ← he]
    simp
  | cons o suf ih =>
    intro i acc hd hi he
    obtain ⟨h, hg, hd'⟩ := get_drop (d := (⟨0, 0⟩ : S53)) hd
    have hr : rd_T53 l9 (i : Int) = o := hg
    have w1 := wrapS h (by omega)
    refine Ev.step (fun k => by simp only [posthornlaw21_As.l0]; rw [if_pos (show (i : Int) < (l9.length : Int) by omega), if_pos (show (0 : Int) ≤ (i : Int) by omega), if_pos (show acc.length < 8796093022208 by omega), hr, w1]) ?_
    exact ih (i + 1) _ hd' (by simp; omega) (by rw [← he]; simp [cv])
/-- A rule as the document's. -/
theorem as_ev (hn : l9.length ≤ 100) : Ev (fun k => posthornlaw21_As.f k r0 r1 r2 r3 l7 l8 l9) (r0, r1, r2, r3, l7, l8, l9.map cv) := by
  unfold posthornlaw21_As.f
  exact as_loop r0 r1 r2 r3 l7 l8 l9 r0 r1 r2 r3 l7 l8 hn l9 0 [] rfl rfl rfl
/-- A rule is not too much for a statement, or too much. -/
theorem great_cases (h7 : l7.length ≤ 1000000000000000000) (h8 : l8.length ≤ 1000000000000000000) : posthornlaw21_Great.f r0 r1 r2 r3 l7 l8 l9 = some true ∨ (posthornlaw21_Great.f r0 r1 r2 r3 l7 l8 l9 = some false ∧ l7.length ≤ 100 ∧ l8.length ≤ 100 ∧ l9.length ≤ 100) := by
  unfold posthornlaw21_Great.f
  rw [wrapI (by omega) (by omega)]
  by_cases c : (l7.length : Int) + (l8.length : Int) > 100
  · rw [if_pos c]; exact .inl rfl
  · rw [if_neg c]
    by_cases d : (l9.length : Int) > 100
    · rw [decide_eq_true d]; exact .inl rfl
    · rw [decide_eq_false d]; exact .inr ⟨rfl, by omega, by omega, by omega⟩
/-- The statement RecurMatches over lists and numbers. -/
theorem pure (h7 : l7.length ≤ 1000000000000000000) (h8 : l8.length ≤ 1000000000000000000) (a b : Int) : ∃ k, posthornlaw21_RecurMatches.f k r0 r1 r2 r3 l7 l8 l9 a b = some true := by
  suffices h : Ev (fun k => posthornlaw21_RecurMatches.f k r0 r1 r2 r3 l7 l8 l9 a b) true by exact h.rounds
  unfold posthornlaw21_RecurMatches.f
  rcases great_cases r0 r1 r2 r3 l7 l8 l9 h7 h8 with hg | ⟨hg, h7, h8, h9⟩
  · simp only [hg, Option.bind_some, if_true]
    exact Ev.bind Alive.alive_ev (Ev.now _)
  · simp only [hg, Option.bind_some, Bool.false_eq_true, if_false]
    obtain ⟨p, e1, e2⟩ := Match_both r0 r1 r2 r3 l7 l8 l9 (by omega) (by omega) (by omega) a b
    refine Ev.bind e1 (Ev.bind (as_ev r0 r1 r2 r3 l7 l8 l9 h9) (Ev.bind e2 (Ev.bind Alive.alive_ev ?_)))
    simp only [if_true, beq_self_eq_true]
    exact Ev.now _
end
end Go.Proofs.YtbeihceeliifeaaGreatDoor.Mat

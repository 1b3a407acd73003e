/- SeriesWider: its plain law. -/
import Derived.Test.YtkgkblmeafhkfaaCore
import Derived.Test.YtkgkblmeafhkfaaAlive
import Derived.Test.YtkgkblmeafhkfaaPSx17
set_option linter.unusedVariables false
namespace Go.Proofs.Ytkgkblmeafhkfaa.PureWider
open Go.RowKit Go.Proofs.YtkgkblmeafhkfaaW.PrintWords Go.Proofs.YtkgkblmeafhkfaaW.PrintLast Go.Proofs.YtkgkblmeafhkfaaW.PrintMore Go.Proofs.Ytkgkblmeafhkfaa.PS Go.Proofs.Ytkgkblmeafhkfaa.Cal Go.Proofs.Ytkgkblmeafhkfaa.Base Go.Proofs.Ytkgkblmeafhkfaa.Match Go.Proofs.Ytkgkblmeafhkfaa.Times Go.Proofs.Ytkgkblmeafhkfaa.Insts Go.Proofs.Ytkgkblmeafhkfaa.Core

theorem great_some (s0 s1 : Int) (s2 : Bool) (r0 r1 r2 r3 : Int) (l7 l8 : List Int) (l9 : List S78) (l10 l11 : List Int) (l12 : List S39) (t : Int) : ∃ b, posthornlaw23_Great.f s0 s1 s2 r0 r1 r2 r3 l7 l8 l9 l10 l11 l12 t = some b := by
  unfold posthornlaw23_Great.f posthornlaw21_Great.f
  split <;> simp only [Option.bind_some] <;> repeat' (first | exact ⟨_, rfl⟩ | split)
theorem great_late {s0 s1 : Int} {s2 : Bool} {r0 r1 r2 r3 : Int} {l7 l8 : List Int} {l9 : List S78} {l10 l11 : List Int} {l12 : List S39} {t : Int} (h : posthornlaw23_Great.f s0 s1 s2 r0 r1 r2 r3 l7 l8 l9 l10 l11 l12 t = some false) : t ≤ 4294967296 := by
  rcases Int.lt_or_le 4294967296 t with c | c
  · exfalso
    revert h
    unfold posthornlaw23_Great.f posthornlaw21_Great.f
    have e : decide (t > 4294967296) = true := decide_eq_true c
    split <;> simp only [Option.bind_some] <;> repeat' (first | (simp only [e]; done) | (simp [e]; done) | split)
  · exact c
theorem rd37 {l : List S37} {i : Nat} (h : i < l.length) : rd_T37 l (i : Int) = l[i] := by simp [rd_T37, h]
theorem eq37 (x y : S37) (e : x = y) : (x.f0 == y.f0 && (x.f1 == y.f1 && (x.f2 == y.f2 && (x.f3 == y.f3)))) = true := by
  subst e
  simp
section
variable (l m : List S37)
theorem l1_ev (hn : l.length ≤ 2000) (hm : m.length ≤ 2000) {i : Nat} (hi : i < l.length) (nxt : Ev (fun k => posthornlaw23_SeriesWider.l0 k l m ((i + 1 : Nat) : Int)) true) :
    ∀ (suf : List S37) (j : Nat) (b : Bool), m.drop j = suf → (b = true ∨ rd_T37 l (i : Int) ∈ suf) → Ev (fun k => posthornlaw23_SeriesWider.l1 k l m (i : Int) b (j : Int)) true := by
  have hwi := wrapS hi (by omega)
  intro suf
  induction suf with
  | nil =>
    intro j b hd hb
    have := drop_nil hd
    obtain rfl : b = true := hb.resolve_right (by simp)
    refine Ev.step (fun k => by simp only [posthornlaw23_SeriesWider.l1, if_true, hwi]; rw [if_neg (show ¬ ((j : Int) < (m.length : Int)) by omega)]) nxt
  | cons o suf ih =>
    intro j b hd hb
    obtain ⟨hj, ho, hd'⟩ := get_drop (d := z37) hd
    have hw := wrapS hj (by omega)
    have ho' : rd_T37 m (j : Int) = o := ho
    cases b with
    | true =>
      refine Ev.step (fun k => by simp only [posthornlaw23_SeriesWider.l1, if_true, hw]; rw [if_pos (show (j : Int) < (m.length : Int) by omega)]) (ih (j + 1) true hd' (.inl rfl))
    | false =>
      have hb' := hb.resolve_left (by simp)
      refine Ev.step (fun k => by simp only [posthornlaw23_SeriesWider.l1, Bool.false_eq_true, if_false, ho', hw]; rw [if_pos (show (j : Int) < (m.length : Int) by omega), if_pos (show (0 : Int) ≤ (i : Int) by omega), if_pos (show (i : Int) < (l.length : Int) by omega), if_pos (show (0 : Int) ≤ (j : Int) by omega)]) (ih (j + 1) _ hd' ?_)
      rcases List.mem_cons.1 hb' with e | e
      · exact .inl (eq37 _ _ e)
      · exact .inr e
theorem l0_ev (hn : l.length ≤ 2000) (hm : m.length ≤ 2000) (hsub : ∀ x, x ∈ l → x ∈ m) : ∀ (suf : List S37) (i : Nat), l.drop i = suf → Ev (fun k => posthornlaw23_SeriesWider.l0 k l m (i : Int)) true := by
  intro suf
  induction suf with
  | nil =>
    intro i hd
    have := drop_nil hd
    refine Ev.step (fun k => by simp only [posthornlaw23_SeriesWider.l0]; rw [if_neg (show ¬ ((i : Int) < (l.length : Int)) by omega)]) (Ev.bind Alive.alive_ev (Ev.now _))
  | cons o suf ih =>
    intro i hd
    obtain ⟨hi, ho, hd'⟩ := get_drop (d := z37) hd
    refine Ev.step (fun k => by simp only [posthornlaw23_SeriesWider.l0]; rw [if_pos (show (i : Int) < (l.length : Int) by omega)]) ?_
    exact l1_ev l m hn hm hi (ih (i + 1) hd') m 0 false rfl (.inr (hsub _ (by rw [rd37 hi]; exact List.getElem_mem hi)))
end
section
variable (s0 s1 : Int) (s2 : Bool) (r0 r1 r2 r3 : Int) (l7 l8 : List Int) (l9 : List S78) (l10 l11 : List Int) (l12 : List S39) (fr till bf bh : Int)
theorem pure (hs : Short l7 l8 l9 l10 l11 l12) (w1 : -9223372036854775808 ≤ fr) (w2 : -9223372036854775808 ≤ till) : ∃ k, posthornlaw23_SeriesWider.f k s0 s1 s2 r0 r1 r2 r3 l7 l8 l9 l10 l11 l12 fr till bf bh = some true := by
  obtain ⟨g3, hg3⟩ := great_some s0 s1 s2 r0 r1 r2 r3 l7 l8 l9 l10 l11 l12 till
  obtain ⟨g2, hg2⟩ := great_some s0 s1 s2 r0 r1 r2 r3 l7 l8 l9 l10 l11 l12 fr
  have j0t : Ev (fun k => posthornlaw23_SeriesWider.j0 k fr till bf bh true s0 s1 s2 r0 r1 r2 r3 l7 l8 l9 l10 l11 l12) true := by
    refine Ev.step (fun k => by simp only [posthornlaw23_SeriesWider.j0, if_true]; rfl) ?_
    exact Ev.bind Alive.alive_ev (Ev.now _)
  have j1t : ∀ a b, Ev (fun k => posthornlaw23_SeriesWider.j1 k a b true) true := fun a b => by
    refine Ev.step (fun k => by simp only [posthornlaw23_SeriesWider.j1, if_true]; rfl) ?_
    exact Ev.bind Alive.alive_ev (Ev.now _)
  have j0f : 0 ≤ bf → bf ≤ 4194304 → 0 ≤ bh → bh ≤ 4194304 → till ≤ 4294967296 → fr ≤ 4294967296 → bf ≤ fr → Ev (fun k => posthornlaw23_SeriesWider.j0 k fr till bf bh false s0 s1 s2 r0 r1 r2 r3 l7 l8 l9 l10 l11 l12) true := by
    intro h1 h2 h3 h4 h5 h6 h7
    refine Ev.step (fun k => by simp only [posthornlaw23_SeriesWider.j0, Bool.false_eq_true, if_false]; rfl) ?_
    obtain ⟨p, hp, told⟩ := instances_fin s0 s1 s2 r0 r1 r2 r3 l7 l8 l9 l10 l11 l12 hs fr till
    obtain ⟨q, hq, told'⟩ := instances_fin s0 s1 s2 r0 r1 r2 r3 l7 l8 l9 l10 l11 l12 hs (wrap64 (fr - bf)) (wrap64 (till + bh))
    refine Ev.bind hp ?_
    refine Ev.bind hq ?_
    by_cases c : p.2 = 0
    · simp only [if_pos c]
      by_cases c' : q.2 = 0
      · rw [show (q.2 != 0) = false from by simp [c']]
        refine Ev.step (fun k => by simp only [posthornlaw23_SeriesWider.j1, Bool.false_eq_true, if_false]; rfl) ?_
        have e1 : wrap64 (fr - bf) = fr - bf := wrapI (by omega) (by omega)
        have e2 : wrap64 (till + bh) = till + bh := wrapI (by omega) (by omega)
        refine l0_ev p.1 q.1 (told.few c) (told'.few c') (fun x hx => ?_) p.1 0 rfl
        rw [told.eq c] at hx
        rw [told'.eq c', e1, e2]
        have hw := told.win c
        have hw' := told'.win c'
        rw [e1, e2] at hw'
        exact insts_mono s0 s1 s2 r0 r1 r2 r3 l7 l8 l9 l10 l11 l12 (by omega) (by omega) hx
      · rw [show (q.2 != 0) = true from by simp [c']]
        exact j1t _ _
    · simp only [if_neg c]
      exact j1t _ _
  refine Ev.rounds (g := fun k => posthornlaw23_SeriesWider.f k s0 s1 s2 r0 r1 r2 r3 l7 l8 l9 l10 l11 l12 fr till bf bh) ?_
  unfold posthornlaw23_SeriesWider.f
  simp only [hg3, hg2, Option.bind_some]
  cases g3 with
  | true => exact j0t
  | false =>
    simp only [Bool.false_eq_true, if_false]
    cases g2 with
    | true => exact j0t
    | false =>
      simp only [Bool.false_eq_true, if_false]
      have a1 := great_late hg3
      have a2 := great_late hg2
      by_cases d1 : bf < 0
      · simp only [if_pos d1]; exact j0t
      · simp only [if_neg d1]
        by_cases d2 : bf > 4194304
        · simp only [if_pos d2]; exact j0t
        · simp only [if_neg d2]
          by_cases d3 : bh < 0
          · simp only [if_pos d3]; exact j0t
          · simp only [if_neg d3]
            by_cases d4 : bh > 4194304
            · simp only [if_pos d4]; exact j0t
            · simp only [if_neg d4]
              by_cases d5 : fr < bf
              · rw [decide_eq_true d5]; exact j0t
              · rw [decide_eq_false d5]; exact j0f (by omega) (by omega) (by omega) (by omega) (by omega) (by omega) (by omega)
end
end Go.Proofs.Ytkgkblmeafhkfaa.PureWider

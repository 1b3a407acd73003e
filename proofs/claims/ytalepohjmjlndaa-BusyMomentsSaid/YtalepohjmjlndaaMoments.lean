/- BusyMoments, without Go and memory: at each moment, and at and just ahead of each end of a span, what is spread has the greatest kind. -/
import Derived.Test.YtalepohjmjlndaaFacts
import Derived.Test.YtalepohjmjlndaaPBx13
namespace Go.Proofs.Ytalepohjmjlndaa.Moments
open Go.RowKit Go.Proofs.YtalepohjmjlndaaW.PrintWords Go.Proofs.YtalepohjmjlndaaW.PrintLast Go.Proofs.YtalepohjmjlndaaW.PrintMore Go.Proofs.Ytalepohjmjlndaa.PB Go.Proofs.Ytalepohjmjlndaa.Facts

theorem loop (l a : List S44) (hn : l.length ≤ 9223372036854775807) (ha : a.length ≤ 9223372036854775807) (hk : ∀ t, Math.kmax (a.map toSp) t = Math.kmax (l.map toSp) t) :
    ∀ (suf : List S44) (i : Nat), l.drop i = suf → Ev (fun k => posthornlaw24_BusyMoments.l0 k l a (i : Int)) true := by
  have e1 : ∀ t, Ev (fun k => posthornlaw24_at.f k a t) (Math.kmax (l.map toSp) t) := fun t => by rw [← hk]; exact at_ev a t ha
  have e2 : ∀ t, Ev (fun k => posthornlaw24_at.f k l t) (Math.kmax (l.map toSp) t) := fun t => at_ev l t hn
  intro suf
  induction suf with
  | nil =>
    intro i hd
    have := drop_nil hd
    refine Ev.step (f := fun k => (posthornlaw24_alive.f k).bind fun t => some t) (fun k => ?_) (Ev.bind alive_ev (Ev.now _))
    simp only [posthornlaw24_BusyMoments.l0]
    rw [if_neg (by omega)]
  | cons s suf ih =>
    intro i hd
    obtain ⟨hi, hs, hd'⟩ := drop_cons hd
    have hw := wrapS hi hn
    refine Ev.step (f := fun k => (posthornlaw24_at.f k a s.f0).bind fun t385 => (posthornlaw24_at.f k l s.f0).bind fun t387 => if t385 = t387 then (posthornlaw24_at.f k a s.f1).bind fun t389 => (posthornlaw24_at.f k l s.f1).bind fun t391 => if t389 = t391 then (posthornlaw24_at.f k a (wrap64 (s.f1 - 1))).bind fun t393 => (posthornlaw24_at.f k l (wrap64 (s.f1 - 1))).bind fun t395 => if t393 = t395 then posthornlaw24_BusyMoments.l0 k l a ((i + 1 : Nat) : Int) else some false else some false else some false) (fun k => ?_) ?_
    · simp only [posthornlaw24_BusyMoments.l0]
      rw [if_pos (by omega), if_pos (by omega), hs, hw]
    · refine Ev.bind (e1 _) (Ev.bind (e2 _) ?_)
      simp only [if_true]
      refine Ev.bind (e1 _) (Ev.bind (e2 _) ?_)
      simp only [if_true]
      refine Ev.bind (e1 _) (Ev.bind (e2 _) ?_)
      simp only [if_true]
      exact ih (i + 1) hd'

theorem pure (l : List S44) (t : Int) (hn : l.length ≤ 9223372036854775807) : ∃ k, posthornlaw24_BusyMoments.f k l t = some true := by
  refine Ev.rounds (g := fun k => posthornlaw24_BusyMoments.f k l t) ?_
  have alive_ : Ev (fun k => (posthornlaw24_alive.f k).bind fun t => some t) true := Ev.bind alive_ev (Ev.now _)
  unfold posthornlaw24_BusyMoments.f
  rw [many_f]
  simp only [Option.bind_some]
  by_cases hm : 120 < l.length ∧ l.length ≤ 4096 ∨ 4200 < l.length
  · rw [decide_eq_true hm]
    simp only [if_true]
    exact alive_
  · rw [decide_eq_false hm]
    simp only [Bool.false_eq_true, if_false]
    obtain ⟨a, e, hs, _⟩ := spread_some l
    rw [hs]
    simp only [Option.bind_some]
    by_cases he : e = 0
    · subst he
      obtain ⟨h1, h2, h3, h4⟩ := spread_ok hs
      simp only [if_true]
      have hk : ∀ t, Math.kmax (a.map toSp) t = Math.kmax (l.map toSp) t := fun t => by rw [h3]; exact spread_kmax h1 t
      have e1 : ∀ t, Ev (fun k => posthornlaw24_at.f k a t) (Math.kmax (l.map toSp) t) := fun t => by rw [← hk]; exact at_ev a t (by omega)
      refine Ev.bind (e1 _) (Ev.bind (at_ev l _ hn) ?_)
      simp only [if_true]
      exact loop l a hn (by omega) hk l 0 rfl
    · simp only [if_neg he]
      exact alive_

end Go.Proofs.Ytalepohjmjlndaa.Moments

/- ZoneGaps, without Go and memory: where a local time has no moment, the one that is taken has another local time. -/
import Derived.Test.YtlplmkllmgdifaaMomo
import Derived.Test.YtlplmkllmgdifaaPZx19
namespace Go.Proofs.Ytlplmkllmgdifaa.GapsPure
open Go.RowKit Go.Proofs.YtlplmkllmgdifaaW.PrintWords Go.Proofs.YtlplmkllmgdifaaW.PrintLast Go.Proofs.YtlplmkllmgdifaaW.PrintMore Go.Proofs.Ytlplmkllmgdifaa.PZ Go.Proofs.Ytlplmkllmgdifaa.Cal Go.Proofs.Ytlplmkllmgdifaa.Total Go.Proofs.Ytlplmkllmgdifaa.Momo

section
variable (alive_ev : Ev (fun k => posthornlaw22_alive.f k) true)
include alive_ev
theorem alive' : Ev (fun k => (posthornlaw22_alive.f k).bind fun t => some t) true := Ev.bind alive_ev (Ev.now _)
theorem pure (s : ByteArray) (b : Int) (l : List S42) (x : Int) (hs : s.size ≤ 9223372036854775807) (hn : l.length ≤ 9223372036854775807) (hl : ∀ o, o ∈ l → small o) : ∃ k, posthornlaw22_ZoneGaps.f k s b l x = some true := by
  refine Ev.rounds (g := fun k => posthornlaw22_ZoneGaps.f k s b l x) ?_
  obtain ⟨R, sh, Z⟩ := zo s b l hs hn hl
  obtain ⟨r, h1, _, h2, _⟩ := moments_fin Z x
  obtain ⟨q, h4, _⟩ := moment_fin Z x h1 (fun h => (h2 h).1)
  have skip : Ev (fun k => posthornlaw22_ZoneGaps.j0 k x q.1 true s b l) true := by
    refine Ev.step (fun k => ?_) (alive' alive_ev)
    simp only [posthornlaw22_ZoneGaps.j0]
    rfl
  unfold posthornlaw22_ZoneGaps.f
  obtain ⟨g1, h0, _⟩ := great_fin s b l x hn
  refine Ev.bind h0 ?_
  cases g1 with
  | true => exact alive' alive_ev
  | false =>
    simp only [Bool.false_eq_true, if_false]
    refine Ev.bind h1 (Ev.bind h4 ?_)
    by_cases c : r.2 = 0
    · simp only [if_pos c]
      by_cases c1 : (r.1.length : Int) > 0
      · simp only [if_pos c1]
        exact skip
      · simp only [if_neg c1]
        cases q.2 != 0 with
        | true => exact skip
        | false =>
          obtain ⟨hR, hx, mo⟩ := h2 c
          have none : ∀ t, t ∉ r.1 := fun t ht => by have := List.length_pos_of_mem ht; omega
          refine Ev.step (fun k => by simp only [posthornlaw22_ZoneGaps.j0, Bool.false_eq_true, if_false]; rfl) (Ev.bind (local_ev Z q.1) (Ev.bind alive_ev ?_))
          simp only [if_true]
          by_cases d : (loc R sh q.1).2 = 0
          · simp only [if_pos d]
            have ne : (loc R sh q.1).1 ≠ x := by
              intro e
              refine none q.1 ((mo.mem q.1).mpr ?_)
              unfold loc at d e
              rw [if_pos hR] at d e
              split at d
              · rename_i hq
                rw [if_pos hq] at e
                split at d
                · rename_i hy
                  rw [if_pos hy] at e
                  exact ⟨hq.1, hq.2, e⟩
                · exact absurd d (by decide)
              · exact absurd d (by decide)
            rw [bne_iff_ne.mpr ne]
            exact Ev.now _
          · simp only [if_neg d]
            exact Ev.now _
    · simp only [if_neg c]
      exact skip
end
end Go.Proofs.Ytlplmkllmgdifaa.GapsPure

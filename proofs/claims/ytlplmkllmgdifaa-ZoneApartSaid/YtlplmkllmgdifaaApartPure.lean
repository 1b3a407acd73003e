/- ZoneApart, without Go and memory: each shift is one of the zone's; two moments with the same shift lie apart as their local times do. -/
import Derived.Test.YtlplmkllmgdifaaShifts
import Derived.Test.YtlplmkllmgdifaaPZx16
namespace Go.Proofs.Ytlplmkllmgdifaa.ApartPure
open Go.RowKit Go.Proofs.YtlplmkllmgdifaaW.PrintWords Go.Proofs.YtlplmkllmgdifaaW.PrintLast Go.Proofs.YtlplmkllmgdifaaW.PrintMore Go.Proofs.Ytlplmkllmgdifaa.PZ Go.Proofs.Ytlplmkllmgdifaa.Cal Go.Proofs.Ytlplmkllmgdifaa.Total Go.Proofs.Ytlplmkllmgdifaa.Stable Go.Proofs.Ytlplmkllmgdifaa.Shifts

/-- Local, by the shift. -/
def localV (t : Int) (a : Int × Int) : Int × Int := if a.2 = 0 then (if 0 ≤ wrap64 (t + a.1) ∧ wrap64 (t + a.1) ≤ 253402300799 then (wrap64 (t + a.1), 0) else (0, 110)) else (0, a.2)
theorem local_ev {s : ByteArray} {b t : Int} {l : List S42} {a : Int × Int} (h : Ev (fun k => zone_Shift.f k s b l t) a) : Ev (fun k => zone_Local.f k s b l t) (localV t a) := by
  unfold zone_Local.f localV
  refine Ev.bind h ?_
  by_cases c : a.2 = 0
  · simp only [if_pos c, when_f, Option.bind_some]
    by_cases d : 0 ≤ wrap64 (t + a.1) ∧ wrap64 (t + a.1) ≤ 253402300799
    · simp only [if_pos d, decide_eq_true d, if_true]
      exact Ev.now _
    · simp only [if_neg d, decide_eq_false d, Bool.false_eq_true, if_false]
      exact Ev.now _
  · simp only [if_neg c]
    exact Ev.now _

section
variable (alive_ev : Ev (fun k => posthornlaw22_alive.f k) true)
include alive_ev
theorem alive' : Ev (fun k => (posthornlaw22_alive.f k).bind fun t => some t) true := Ev.bind alive_ev (Ev.now _)

theorem loop (s : ByteArray) (b : Int) (l : List S42) (t u : Int) (A B C D : Int × Int) (hn : l.length ≤ 9223372036854775807) (hA : Known b l A.1) (hB : Known b l B.1) (bB : -86399 ≤ B.1 ∧ B.1 ≤ 86399)
    (ht : 0 ≤ t ∧ t ≤ 253402300799) (hu : 0 ≤ u ∧ u ≤ 253402300799) (hA2 : A.2 = 0) (hB2 : B.2 = 0) (hC : C = localV t A) (hD : D = localV u B) :
    ∀ (suf : List S42) (i : Nat) (same known : Bool), l.drop i = suf → (known = true ∨ ∃ o, o ∈ suf ∧ A.1 = o.f2) → (same = true → (∀ o, o ∈ suf → o.f2 = b) → ∀ o, o ∈ l → o.f2 = b) →
    Ev (fun k => posthornlaw22_ZoneApart.l0 k t u A.1 B.1 C.1 C.2 D.1 D.2 same known (i : Int) s b l) true := by
  have fin : Ev (fun k => (posthornlaw22_alive.f k).bind fun t356 => (if t356 = true then (if C.2 = 0 then (if D.2 = 0 then (if A.1 = B.1 then (some ((wrap64 (C.1 - D.1)) == (wrap64 (t - u)))) else (some true)) else (some true)) else (some true)) else (some false))) true := by
    refine Ev.bind alive_ev ?_
    simp only [if_true]
    by_cases c1 : C.2 = 0
    · simp only [if_pos c1]
      by_cases c2 : D.2 = 0
      · simp only [if_pos c2]
        by_cases c3 : A.1 = B.1
        · simp only [if_pos c3]
          have e1 : C.1 = t + A.1 := by
            rw [hC] at c1 ⊢
            unfold localV at c1 ⊢
            rw [if_pos hA2] at c1 ⊢
            split at c1
            · rename_i h
              rw [if_pos h]
              exact wrapI (by omega) (by omega)
            · exact absurd c1 (by decide)
          have e2 : D.1 = u + B.1 := by
            rw [hD] at c2 ⊢
            unfold localV at c2 ⊢
            rw [if_pos hB2] at c2 ⊢
            split at c2
            · rename_i h
              rw [if_pos h]
              exact wrapI (by omega) (by omega)
            · exact absurd c2 (by decide)
          have e3 : C.1 - D.1 = t - u := by omega
          rw [e3, beq_self_eq_true]
          exact Ev.now _
        · simp only [if_neg c3]
          exact Ev.now _
      · simp only [if_neg c2]
        exact Ev.now _
    · simp only [if_neg c1]
      exact Ev.now _
  intro suf
  induction suf with
  | nil =>
    intro i same known hd hk hs
    have hi : l.length ≤ i := drop_nil hd
    have hkn : known = true := by
      rcases hk with h | ⟨o, ho, _⟩
      · exact h
      · cases ho
    subst hkn
    refine Ev.step (fun k => by simp only [posthornlaw22_ZoneApart.l0, if_neg (show ¬ (i : Int) < (l.length : Int) by omega), if_true]; rfl) ?_
    cases same with
    | false =>
      simp only [Bool.false_eq_true, if_false]
      exact fin
    | true =>
      have hall := hs rfl (fun o ho => by cases ho)
      have eA : A.1 = b := by
        rcases hA with h | ⟨o, ho, h⟩
        · exact h
        · rw [h, hall o ho]
      have eB : B.1 = b := by
        rcases hB with h | ⟨o, ho, h⟩
        · exact h
        · rw [h, hall o ho]
      simp only [if_true, if_pos eA, if_pos eB]
      exact fin
  | cons o suf ih =>
    intro i same known hd hk hs
    obtain ⟨hi, ho, hd'⟩ := get_drop (d := z42) hd
    have hw := wrapS hi hn
    have ho' : rd_T42 l (i : Int) = o := ho
    refine Ev.step (fun k => by simp only [posthornlaw22_ZoneApart.l0, ho', hw]; rw [if_pos (show (i : Int) < (l.length : Int) by omega), if_pos (show (0 : Int) ≤ (i : Int) by omega), if_pos (show (0 : Int) ≤ (i : Int) by omega)]) ?_
    have hk' : known = false → ((A.1 == o.f2) = true ∨ ∃ p, p ∈ suf ∧ A.1 = p.f2) := by
      intro hf
      rcases hk with h | ⟨p, hp, h⟩
      · rw [hf] at h; cases h
      · rcases List.mem_cons.mp hp with rfl | hp
        · exact .inl (beq_iff_eq.mpr h)
        · exact .inr ⟨p, hp, h⟩
    have hs' : same = true → ((o.f2 == b) = true) → (∀ p, p ∈ suf → p.f2 = b) → ∀ p, p ∈ l → p.f2 = b := by
      intro h1 h2 h3
      refine hs h1 (fun p hp => ?_)
      rcases List.mem_cons.mp hp with rfl | hp
      · exact beq_iff_eq.mp h2
      · exact h3 p hp
    cases same with
    | true =>
      simp only [if_true]
      cases known with
      | true =>
        simp only [if_true]
        exact ih (i + 1) _ true hd' (.inl rfl) (hs' rfl)
      | false =>
        simp only [Bool.false_eq_true, if_false]
        exact ih (i + 1) _ _ hd' (hk' rfl) (hs' rfl)
    | false =>
      simp only [Bool.false_eq_true, if_false]
      cases known with
      | true =>
        simp only [if_true]
        exact ih (i + 1) false true hd' (.inl rfl) (fun h => by cases h)
      | false =>
        simp only [Bool.false_eq_true, if_false]
        exact ih (i + 1) false _ hd' (hk' rfl) (fun h => by cases h)

theorem pure (s : ByteArray) (b : Int) (l : List S42) (t u : Int) (hs : s.size ≤ 9223372036854775807) (hn : l.length ≤ 9223372036854775807) (hl : ∀ o, o ∈ l → small o) : ∃ k, posthornlaw22_ZoneApart.f k s b l t u = some true := by
  refine Ev.rounds (g := fun k => posthornlaw22_ZoneApart.f k s b l t u) ?_
  have j0 : ∀ z : Bool, Ev (fun k => posthornlaw22_ZoneApart.j0 k t u z s b l) true := by
    intro z
    cases z with
    | true =>
      refine Ev.step (fun k => ?_) (alive' alive_ev)
      simp only [posthornlaw22_ZoneApart.j0]
      rfl
    | false =>
      obtain ⟨A, eA, tA⟩ := Shift_fin s b t l hs hn hl
      obtain ⟨B, eB, tB⟩ := Shift_fin s b u l hs hn hl
      refine Ev.step (fun k => by simp only [posthornlaw22_ZoneApart.j0, Bool.false_eq_true, if_false]; rfl) ?_
      refine Ev.bind eA (Ev.bind eB (Ev.bind (local_ev eA) (Ev.bind (local_ev eB) ?_)))
      have bad : Ev (fun k => posthornlaw22_ZoneApart.j1 k t u A.1 B.1 (localV t A).1 (localV t A).2 (localV u B).1 (localV u B).2 true s b l) true := by
        refine Ev.step (fun k => ?_) (alive' alive_ev)
        simp only [posthornlaw22_ZoneApart.j1]
        rfl
      by_cases c1 : A.2 = 0
      · simp only [if_pos c1]
        by_cases c2 : B.2 = 0
        · rw [show (B.2 != 0) = false from bne_eq_false_iff_eq.mpr c2]
          refine Ev.step (fun k => by simp only [posthornlaw22_ZoneApart.j1, Bool.false_eq_true, if_false]; rfl) ?_
          have hz := tA.zone c1
          refine loop alive_ev s b l t u A B _ _ hn (tA.known c1) (tB.known c2) (known_bound hz (tB.known c2)) (tA.time c1) (tB.time c2) c1 c2 rfl rfl l 0 true _ rfl ?_ (fun _ h => h)
          rcases tA.known c1 with h | h
          · exact .inl (beq_iff_eq.mpr h)
          · exact .inr h
        · rw [show (B.2 != 0) = true from bne_iff_ne.mpr c2]
          exact bad
      · simp only [if_neg c1]
        exact bad
  unfold posthornlaw22_ZoneApart.f
  obtain ⟨g1, h1, _⟩ := great_fin s b l t hn
  obtain ⟨g2, h2, _⟩ := great_fin s b l u hn
  refine Ev.bind h1 ?_
  cases g1 with
  | true => exact j0 true
  | false =>
    simp only [Bool.false_eq_true, if_false]
    exact Ev.bind h2 (j0 _)
end
end Go.Proofs.Ytlplmkllmgdifaa.ApartPure

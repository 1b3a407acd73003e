/- ZoneBoth, without Go and memory: each moment's local time has it among its moments; these rise, and have it as local time; the one that is taken is the first. -/
import Derived.Test.YtlplmkllmgdifaaMomo
import Derived.Test.YtlplmkllmgdifaaPZx18
namespace Go.Proofs.Ytlplmkllmgdifaa.BothPure
open Go.RowKit Go.Proofs.YtlplmkllmgdifaaW.PrintWords Go.Proofs.YtlplmkllmgdifaaW.PrintLast Go.Proofs.YtlplmkllmgdifaaW.PrintMore Go.Proofs.Ytlplmkllmgdifaa.PZ Go.Proofs.Ytlplmkllmgdifaa.Cal Go.Proofs.Ytlplmkllmgdifaa.Total Go.Proofs.Ytlplmkllmgdifaa.Momo

theorem first (s : ByteArray) (b : Int) (l : List S42) (t x : Int) (M : List Int) (hn : M.length ≤ 9) (nxt : Ev (fun k => posthornlaw22_ZoneBoth.j2 k x s b l) true) : ∀ (suf : List Int) (i : Nat) (f : Bool), M.drop i = suf → (f = true ∨ t ∈ suf) →
    Ev (fun k => posthornlaw22_ZoneBoth.l0 k t x M 0 f (i : Int) s b l) true := by
  intro suf
  induction suf with
  | nil =>
    intro i f hd hf
    have hi := drop_nil hd
    have ht : f = true := hf.resolve_right List.not_mem_nil
    subst ht
    refine Ev.step (fun k => ?_) nxt
    simp only [posthornlaw22_ZoneBoth.l0]
    rw [if_neg (by omega)]
    simp only [if_true]
  | cons o suf ih =>
    intro i f hd hf
    obtain ⟨hi, ho, hd'⟩ := get_drop (d := (0 : Int)) hd
    have hw := wrapS hi (by omega)
    have ho' : rd M (i : Int) = o := ho
    refine Ev.step (fun k => by simp only [posthornlaw22_ZoneBoth.l0, ho', hw]; rw [if_pos (show (i : Int) < (M.length : Int) by omega), if_pos (show (0 : Int) ≤ (i : Int) by omega)]) ?_
    cases f with
    | true =>
      simp only [if_true]
      exact ih (i + 1) true hd' (.inl rfl)
    | false =>
      simp only [Bool.false_eq_true, if_false]
      refine ih (i + 1) _ hd' ?_
      rcases hf with h | h
      · cases h
      · rcases List.mem_cons.mp h with h | h
        · exact .inl (beq_iff_eq.mpr h.symm)
        · exact .inr h

section
variable (alive_ev : Ev (fun k => posthornlaw22_alive.f k) true)
include alive_ev
theorem alive' : Ev (fun k => (posthornlaw22_alive.f k).bind fun t => some t) true := Ev.bind alive_ev (Ev.now _)

theorem out (s : ByteArray) (b : Int) (l : List S42) (x : Int) (M : List Int) (me one g : Int) (R : Bool) (sh : Int → Int) (Z : Zo s b l R sh) (hl : M.length ≤ 9) (hr : M.Pairwise (· < ·)) (hM : ∀ t, t ∈ M → loc R sh t = (x, 0))
    (h1 : me = 0 → M ≠ [] → one = rd M 0 ∧ g = 0) : ∀ (suf : List Int) (i : Nat), M.drop i = suf → Ev (fun k => posthornlaw22_ZoneBoth.l1 k x M me one g (i : Int) s b l) true := by
  intro suf
  induction suf with
  | nil =>
    intro i hd
    have hi := drop_nil hd
    refine Ev.step (fun k => by simp only [posthornlaw22_ZoneBoth.l1, if_neg (show ¬ (i : Int) < (M.length : Int) by omega)]; rfl) ?_
    refine Ev.bind alive_ev ?_
    simp only [if_true]
    by_cases c : me = 0
    · simp only [if_pos c]
      by_cases c1 : (M.length : Int) = 0
      · simp only [if_pos c1]
        exact Ev.now _
      · have := h1 c (fun h => c1 (by rw [h]; rfl))
        simp only [if_neg c1, if_pos this.2, if_pos (show 0 < (M.length : Int) by omega), this.1, beq_self_eq_true]
        exact Ev.now _
    · simp only [if_neg c]
      exact Ev.now _
  | cons t suf ih =>
    intro i hd
    obtain ⟨hi, ho, hd'⟩ := get_drop (d := (0 : Int)) hd
    have hw := wrapS hi (by omega)
    have ho' : rd M (i : Int) = t := ho
    have hm : t ∈ M := by
      have : t ∈ M.drop i := by rw [hd]; exact List.mem_cons_self
      exact List.mem_of_mem_drop this
    have nxt := ih (i + 1) hd'
    have hl := local_ev Z t
    rw [hM t hm] at hl
    refine Ev.step (fun k => by simp only [posthornlaw22_ZoneBoth.l1, ho', hw]; rw [if_pos (show (i : Int) < (M.length : Int) by omega), if_pos (show (0 : Int) ≤ (i : Int) by omega)]) ?_
    refine Ev.bind hl ?_
    simp only [if_true]
    by_cases c : (i : Int) > 0
    · have e : wrap64 ((i : Int) - 1) = ((i - 1 : Nat) : Int) := by rw [wrapI (by omega) (by omega)]; omega
      have lt : rd M ((i - 1 : Nat) : Int) < t := by
        have e1 : rd M ((i - 1 : Nat) : Int) = M[i - 1]'(by omega) := by
          show M.getD (((i - 1 : Nat) : Int)).toNat _ = _
          rw [Int.toNat_natCast]
          simp [show i - 1 < M.length by omega]
        have e2 : t = M[i]'hi := by
          rw [← ho]
          rw [Int.toNat_natCast]
          simp [hi]
        rw [e1, e2]
        exact List.pairwise_iff_getElem.mp hr (i - 1) i (by omega) hi (by omega)
      simp only [if_pos c, e, if_pos (show 0 ≤ ((i - 1 : Nat) : Int) by omega), if_pos (show ((i - 1 : Nat) : Int) < (M.length : Int) by omega), if_neg (show ¬ rd M ((i - 1 : Nat) : Int) ≥ t by omega)]
      exact nxt
    · simp only [if_neg c]
      exact nxt

theorem second (s : ByteArray) (b : Int) (l : List S42) (x : Int) (R : Bool) (sh : Int → Int) (Z : Zo s b l R sh) : Ev (fun k => posthornlaw22_ZoneBoth.j2 k x s b l) true := by
  obtain ⟨r, h1, _, h2, h3⟩ := moments_fin Z x
  obtain ⟨q, h4, h5⟩ := moment_fin Z x h1 (fun h => (h2 h).1)
  refine Ev.step (fun k => by simp only [posthornlaw22_ZoneBoth.j2]; rfl) (Ev.bind h1 (Ev.bind h4 ?_))
  by_cases c : r.2 = 0
  · obtain ⟨hR, hx, mo⟩ := h2 c
    refine out alive_ev s b l x r.1 r.2 q.1 q.2 R sh Z mo.len mo.rise (fun t ht => ?_) (fun _ h => ?_) r.1 0 rfl
    · have := (mo.mem t).mp ht
      unfold loc
      rw [if_pos hR, if_pos ⟨this.1, this.2.1⟩, this.2.2, if_pos hx]
    · rw [h5 c h]
      exact ⟨rfl, rfl⟩
  · rw [h3 c]
    exact out alive_ev s b l x [] r.2 q.1 q.2 R sh Z (by simp) List.Pairwise.nil (fun t ht => absurd ht List.not_mem_nil) (fun _ h => absurd rfl h) [] 0 rfl

theorem pure (s : ByteArray) (b : Int) (l : List S42) (t x : Int) (hs : s.size ≤ 9223372036854775807) (hn : l.length ≤ 9223372036854775807) (hl : ∀ o, o ∈ l → small o) : ∃ k, posthornlaw22_ZoneBoth.f k s b l t x = some true := by
  refine Ev.rounds (g := fun k => posthornlaw22_ZoneBoth.f k s b l t x) ?_
  obtain ⟨R, sh, Z⟩ := zo s b l hs hn hl
  have j0 : ∀ z : Bool, Ev (fun k => posthornlaw22_ZoneBoth.j0 k t x z s b l) true := by
    intro z
    cases z with
    | true =>
      refine Ev.step (fun k => ?_) (alive' alive_ev)
      simp only [posthornlaw22_ZoneBoth.j0]
      rfl
    | false =>
      have nxt := second alive_ev s b l x R sh Z
      refine Ev.step (fun k => by simp only [posthornlaw22_ZoneBoth.j0, Bool.false_eq_true, if_false]; rfl) (Ev.bind (local_ev Z t) ?_)
      by_cases c : (loc R sh t).2 = 0
      · simp only [if_pos c]
        have hR : R = true := by
          by_cases h : R = true
          · exact h
          · unfold loc at c
            rw [if_neg h] at c
            exact absurd c (by decide)
        have ht : 0 ≤ t ∧ t ≤ 253402300799 := by
          by_cases h : 0 ≤ t ∧ t ≤ 253402300799
          · exact h
          · unfold loc at c
            rw [if_pos hR, if_neg h] at c
            exact absurd c (by decide)
        have hx : 0 ≤ t + sh t ∧ t + sh t ≤ 253402300799 := by
          by_cases h : 0 ≤ t + sh t ∧ t + sh t ≤ 253402300799
          · exact h
          · unfold loc at c
            rw [if_pos hR, if_pos ht, if_neg h] at c
            exact absurd c (by decide)
        have e : loc R sh t = (t + sh t, 0) := by
          unfold loc
          rw [if_pos hR, if_pos ht, if_pos hx]
        rw [e]
        obtain ⟨r, h1, h0, h2, _⟩ := moments_fin Z (t + sh t)
        have c2 := h0 hR hx
        obtain ⟨_, _, mo⟩ := h2 c2
        refine Ev.bind h1 ?_
        rw [c2]
        exact first s b l t x r.1 mo.len nxt r.1 0 false rfl (.inr ((mo.mem t).mpr ⟨ht.1, ht.2, rfl⟩))
      · simp only [if_neg c]
        exact nxt
  unfold posthornlaw22_ZoneBoth.f
  obtain ⟨g1, h1, _⟩ := great_fin s b l t hn
  obtain ⟨g2, h2, _⟩ := great_fin s b l x hn
  refine Ev.bind h1 ?_
  cases g1 with
  | true => exact j0 true
  | false =>
    simp only [Bool.false_eq_true, if_false]
    exact Ev.bind h2 (j0 _)
end
end Go.Proofs.Ytlplmkllmgdifaa.BothPure

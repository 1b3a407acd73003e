/- SeriesOnce: its plain law. -/
import Derived.Test.YtkgkblmeafhkfaaCore
import Derived.Test.YtkgkblmeafhkfaaAlive
import Derived.Test.YtkgkblmeafhkfaaPSx16
set_option linter.unusedVariables false
namespace Go.Proofs.Ytkgkblmeafhkfaa.PureOnce
open Go.RowKit Go.Proofs.YtkgkblmeafhkfaaW.PrintWords Go.Proofs.YtkgkblmeafhkfaaW.PrintLast Go.Proofs.YtkgkblmeafhkfaaW.PrintMore Go.Proofs.Ytkgkblmeafhkfaa.PS Go.Proofs.Ytkgkblmeafhkfaa.Cal Go.Proofs.Ytkgkblmeafhkfaa.Base Go.Proofs.Ytkgkblmeafhkfaa.Match Go.Proofs.Ytkgkblmeafhkfaa.Times Go.Proofs.Ytkgkblmeafhkfaa.Insts Go.Proofs.Ytkgkblmeafhkfaa.Core

theorem great_some (s0 s1 : Int) (s2 : Bool) (r0 r1 r2 r3 : Int) (l7 l8 : List Int) (l9 : List S78) (l10 l11 : List Int) (l12 : List S39) (t : Int) : ∃ b, posthornlaw23_Great.f s0 s1 s2 r0 r1 r2 r3 l7 l8 l9 l10 l11 l12 t = some b := by
  unfold posthornlaw23_Great.f posthornlaw21_Great.f
  split <;> simp only [Option.bind_some] <;> repeat' (first | exact ⟨_, rfl⟩ | split)
theorem rd37 {l : List S37} {i : Nat} (h : i < l.length) : rd_T37 l (i : Int) = l[i] := by simp [rd_T37, h]
theorem get_apart {l : List S37} (h : (l.map (·.f0)).Pairwise (· ≠ ·)) {i j : Nat} (hij : j < i) (hi : i < l.length) : (rd_T37 l (j : Int)).f0 ≠ (rd_T37 l (i : Int)).f0 := by
  have h' := List.pairwise_map.1 h
  have := List.pairwise_iff_getElem.1 h' j i (by omega) hi hij
  rw [rd37 (show j < l.length by omega), rd37 hi]
  exact this
theorem get_up {l : List S37} (h : l.Pairwise (fun a b => a.f1 ≤ b.f1)) {i j : Nat} (hij : j < i) (hi : i < l.length) : (rd_T37 l (j : Int)).f1 ≤ (rd_T37 l (i : Int)).f1 := by
  have := List.pairwise_iff_getElem.1 h j i (by omega) hi hij
  rw [rd37 (show j < l.length by omega), rd37 hi]
  exact this
section
variable (s0 s1 : Int) (s2 : Bool) (r0 r1 r2 r3 : Int) (l7 l8 : List Int) (l9 : List S78) (l10 l11 : List Int) (l12 : List S39) (fr till : Int) (l : List S37)
theorem l1_ev (hn : l.length ≤ 2000) (ha : (l.map (·.f0)).Pairwise (· ≠ ·)) {i : Nat} (hi : i < l.length)
    (nxt : Ev (fun k => posthornlaw23_SeriesOnce.l2 k fr till l (i : Int) 0 s0 s1 s2 r0 r1 r2 r3 l7 l8 l9 l10 l11 l12) true) : ∀ (n j : Nat), i - j ≤ n → j ≤ i → Ev (fun k => posthornlaw23_SeriesOnce.l1 k fr till l (i : Int) (j : Int) s0 s1 s2 r0 r1 r2 r3 l7 l8 l9 l10 l11 l12) true := by
  intro n
  induction n with
  | zero =>
    intro j h1 h2
    obtain rfl : j = i := by omega
    refine Ev.step (fun k => by simp only [posthornlaw23_SeriesOnce.l1]; rw [if_neg (show ¬ ((j : Int) < (j : Int)) by omega)]) nxt
  | succ n ih =>
    intro j h1 h2
    by_cases c : j = i
    · subst c
      refine Ev.step (fun k => by simp only [posthornlaw23_SeriesOnce.l1]; rw [if_neg (show ¬ ((j : Int) < (j : Int)) by omega)]) nxt
    · have hw := wrapS (i := j) (n := 3000) (by omega) (by omega)
      have hne := get_apart ha (show j < i by omega) hi
      refine Ev.step (fun k => by simp only [posthornlaw23_SeriesOnce.l1]; rw [if_pos (show (j : Int) < (i : Int) by omega), if_pos (show (0 : Int) ≤ (j : Int) by omega), if_pos (show (j : Int) < (l.length : Int) by omega), if_pos (show (0 : Int) ≤ (i : Int) by omega), if_pos (show (i : Int) < (l.length : Int) by omega), if_neg hne, hw]) (ih (j + 1) (by omega) (by omega))
theorem l2_ev (h10 : l10.length ≤ 256) {i : Nat} (hi : i < l.length) (hx : (rd_T37 l (i : Int)).f0 ∉ l10)
    (nxt : Ev (fun k => posthornlaw23_SeriesOnce.l3 k fr till l (i : Int) 0 s0 s1 s2 r0 r1 r2 r3 l7 l8 l9 l10 l11 l12) true) : ∀ (suf : List Int) (j : Nat), l10.drop j = suf → Ev (fun k => posthornlaw23_SeriesOnce.l2 k fr till l (i : Int) (j : Int) s0 s1 s2 r0 r1 r2 r3 l7 l8 l9 l10 l11 l12) true := by
  intro suf
  induction suf with
  | nil =>
    intro j hd
    have := drop_nil hd
    refine Ev.step (fun k => by simp only [posthornlaw23_SeriesOnce.l2]; rw [if_neg (show ¬ ((j : Int) < (l10.length : Int)) by omega)]) nxt
  | cons o suf ih =>
    intro j hd
    obtain ⟨hj, ho, hd'⟩ := get_drop (d := (0 : Int)) hd
    have hw := wrapS hj (by omega)
    have ho' : rd l10 (j : Int) = o := ho
    have hne : ¬ o = (rd_T37 l (i : Int)).f0 := fun e => hx (by
      rw [← e]
      exact List.mem_of_mem_drop (hd ▸ List.mem_cons_self))
    refine Ev.step (fun k => by simp only [posthornlaw23_SeriesOnce.l2]; rw [if_pos (show (j : Int) < (l10.length : Int) by omega), if_pos (show (0 : Int) ≤ (j : Int) by omega), if_pos (show (0 : Int) ≤ (i : Int) by omega), if_pos (show (i : Int) < (l.length : Int) by omega), ho', if_neg hne, hw]) (ih (j + 1) hd')
theorem j5_ev (hn : l.length ≤ 2000) (hu : l.Pairwise (fun a b => a.f1 ≤ b.f1)) {i : Nat} (hi : i < l.length)
    (nxt : Ev (fun k => posthornlaw23_SeriesOnce.l0 k fr till l ((i + 1 : Nat) : Int) s0 s1 s2 r0 r1 r2 r3 l7 l8 l9 l10 l11 l12) true) : Ev (fun k => posthornlaw23_SeriesOnce.j5 k fr till l (i : Int) false s0 s1 s2 r0 r1 r2 r3 l7 l8 l9 l10 l11 l12) true := by
  have hw := wrapS hi (by omega)
  by_cases c : (i : Int) > 0
  · have ew : wrap64 ((i : Int) - 1) = ((i - 1 : Nat) : Int) := by unfold wrap64; omega
    have hle := get_up hu (show i - 1 < i by omega) hi
    refine Ev.step (fun k => by simp only [posthornlaw23_SeriesOnce.j5, Bool.false_eq_true, if_false]; rw [if_pos c, ew, if_pos (show (0 : Int) ≤ ((i - 1 : Nat) : Int) by omega), if_pos (show ((i - 1 : Nat) : Int) < (l.length : Int) by omega), if_pos (show (0 : Int) ≤ (i : Int) by omega), if_pos (show (i : Int) < (l.length : Int) by omega), if_neg (by omega), hw]) nxt
  · refine Ev.step (fun k => by simp only [posthornlaw23_SeriesOnce.j5, Bool.false_eq_true, if_false]; rw [if_neg c, hw]) nxt
theorem l3_ev (hn : l.length ≤ 2000) (h12 : l12.length ≤ 256) (hs1 : 0 ≤ s1 ∧ s1 ≤ 604800) (hu : l.Pairwise (fun a b => a.f1 ≤ b.f1)) {i : Nat} (hi : i < l.length)
    (hc : ∀ c, c ∈ l12 → c.f0 = (rd_T37 l (i : Int)).f0 → c.f3 = false ∧ (rd_T37 l (i : Int)).f3 = true ∧ (rd_T37 l (i : Int)).f1 = c.f1)
    (hz : (rd_T37 l (i : Int)).f3 = false → (rd_T37 l (i : Int)).f1 = (rd_T37 l (i : Int)).f0 ∧ (rd_T37 l (i : Int)).f2 = wrap64 ((rd_T37 l (i : Int)).f1 + s1))
    (ht : (rd_T37 l (i : Int)).f1 < till) (hf : (rd_T37 l (i : Int)).f2 > fr ∨ ((rd_T37 l (i : Int)).f1 = (rd_T37 l (i : Int)).f2 ∧ (rd_T37 l (i : Int)).f1 ≥ fr))
    (nxt : Ev (fun k => posthornlaw23_SeriesOnce.l0 k fr till l ((i + 1 : Nat) : Int) s0 s1 s2 r0 r1 r2 r3 l7 l8 l9 l10 l11 l12) true) : ∀ (suf : List S39) (j : Nat), l12.drop j = suf → Ev (fun k => posthornlaw23_SeriesOnce.l3 k fr till l (i : Int) (j : Int) s0 s1 s2 r0 r1 r2 r3 l7 l8 l9 l10 l11 l12) true := by
  have hj5 := j5_ev s0 s1 s2 r0 r1 r2 r3 l7 l8 l9 l10 l11 l12 fr till l hn hu hi nxt
  intro suf
  induction suf with
  | nil =>
    intro j hd
    have := drop_nil hd
    have hd0 : decide ((rd_T37 l (i : Int)).f2 < fr) = false := decide_eq_false (by omega)
    cases h3 : (rd_T37 l (i : Int)).f3 with
    | true =>
      refine Ev.step (fun k => by simp only [posthornlaw23_SeriesOnce.l3, h3, if_true]; rw [if_neg (show ¬ ((j : Int) < (l12.length : Int)) by omega), if_pos (show (0 : Int) ≤ (i : Int) by omega), if_pos (show (i : Int) < (l.length : Int) by omega), if_neg (by omega), hd0]) hj5
    | false =>
      obtain ⟨z1, z2⟩ := hz h3
      have ew : wrap64 ((rd_T37 l (i : Int)).f2 - (rd_T37 l (i : Int)).f1) = s1 := by rw [z2]; unfold wrap64; omega
      refine Ev.step (fun k => by simp only [posthornlaw23_SeriesOnce.l3, h3, Bool.false_eq_true, if_false, ew, if_pos z1, if_true]; rw [if_neg (show ¬ ((j : Int) < (l12.length : Int)) by omega), if_pos (show (0 : Int) ≤ (i : Int) by omega), if_pos (show (i : Int) < (l.length : Int) by omega), if_neg (by omega), hd0]) hj5
  | cons o suf ih =>
    intro j hd
    obtain ⟨hj, ho, hd'⟩ := get_drop (d := z39) hd
    have hw := wrapS hj (by omega)
    have ho' : rd_T39 l12 (j : Int) = o := ho
    have hm : o ∈ l12 := List.mem_of_mem_drop (hd ▸ List.mem_cons_self)
    have nx := ih (j + 1) hd'
    by_cases c : o.f0 = (rd_T37 l (i : Int)).f0
    · obtain ⟨q1, q2, q3⟩ := hc o hm c
      refine Ev.step (fun k => by simp only [posthornlaw23_SeriesOnce.l3, ho', q1, q2, if_pos c, if_pos q3, Bool.false_eq_true, if_false, if_true, hw]; rw [if_pos (show (j : Int) < (l12.length : Int) by omega), if_pos (show (0 : Int) ≤ (j : Int) by omega), if_pos (show (0 : Int) ≤ (i : Int) by omega), if_pos (show (i : Int) < (l.length : Int) by omega)]) nx
    · refine Ev.step (fun k => by simp only [posthornlaw23_SeriesOnce.l3, ho', if_neg c, hw]; rw [if_pos (show (j : Int) < (l12.length : Int) by omega), if_pos (show (0 : Int) ≤ (j : Int) by omega), if_pos (show (0 : Int) ≤ (i : Int) by omega), if_pos (show (i : Int) < (l.length : Int) by omega)]) nx
theorem l0_ev (ok : okSeries s0 s1 s2 r0 r1 r2 r3 l7 l8 l9 l10 l11 l12) (hn : l.length ≤ 2000) (hl : l = instsOf s0 s1 s2 r0 r1 r2 r3 l7 l8 l9 l10 l11 l12 fr till) : ∀ (suf : List S37) (i : Nat), l.drop i = suf → Ev (fun k => posthornlaw23_SeriesOnce.l0 k fr till l (i : Int) s0 s1 s2 r0 r1 r2 r3 l7 l8 l9 l10 l11 l12) true := by
  have ha : (l.map (·.f0)).Pairwise (· ≠ ·) := by rw [hl]; exact insts_apart s0 s1 s2 r0 r1 r2 r3 l7 l8 l9 l10 l11 l12 fr till
  have hu : l.Pairwise (fun a b => a.f1 ≤ b.f1) := by rw [hl]; exact insts_up s0 s1 s2 r0 r1 r2 r3 l7 l8 l9 l10 l11 l12 fr till
  have h1 : ∀ x, x ∈ l → _ := fun x hx => insts_one s0 s1 s2 r0 r1 r2 r3 l7 l8 l9 l10 l11 l12 (fr := fr) (till := till) (x := x) ok.origs.up (by rw [← hl]; exact hx)
  have h12 : l12.length ≤ 256 := by have := ok.origs.few; rwa [List.length_map] at this
  clear hl
  intro suf
  induction suf with
  | nil =>
    intro i hd
    have := drop_nil hd
    refine Ev.step (fun k => by simp only [posthornlaw23_SeriesOnce.l0]; rw [if_neg (show ¬ ((i : Int) < (l.length : Int)) by omega)]) (Ev.bind Alive.alive_ev (Ev.now _))
  | cons o suf ih =>
    intro i hd
    obtain ⟨hi, ho, hd'⟩ := get_drop (d := z37) hd
    have hx : rd_T37 l (i : Int) ∈ l := by rw [rd37 hi]; exact List.getElem_mem hi
    obtain ⟨q1, q2, q3, q4, q5⟩ := h1 _ hx
    refine Ev.step (fun k => by simp only [posthornlaw23_SeriesOnce.l0]; rw [if_pos (show (i : Int) < (l.length : Int) by omega)]) ?_
    refine l1_ev s0 s1 s2 r0 r1 r2 r3 l7 l8 l9 l10 l11 l12 fr till l hn ha hi ?_ i 0 (by omega) (by omega)
    refine l2_ev s0 s1 s2 r0 r1 r2 r3 l7 l8 l9 l10 l11 l12 fr till l ok.left.few hi q1 ?_ l10 0 rfl
    exact l3_ev s0 s1 s2 r0 r1 r2 r3 l7 l8 l9 l10 l11 l12 fr till l hn h12 ok.long hu hi q2 q3 q4 q5 (ih (i + 1) hd') l12 0 rfl
theorem pure (hs : Short l7 l8 l9 l10 l11 l12) : ∃ k, posthornlaw23_SeriesOnce.f k s0 s1 s2 r0 r1 r2 r3 l7 l8 l9 l10 l11 l12 fr till = some true := by
  obtain ⟨g3, hg3⟩ := great_some s0 s1 s2 r0 r1 r2 r3 l7 l8 l9 l10 l11 l12 till
  obtain ⟨g2, hg2⟩ := great_some s0 s1 s2 r0 r1 r2 r3 l7 l8 l9 l10 l11 l12 fr
  have j0 : ∀ g, Ev (fun k => posthornlaw23_SeriesOnce.j0 k fr till g s0 s1 s2 r0 r1 r2 r3 l7 l8 l9 l10 l11 l12) true := by
    intro g
    cases g with
    | true =>
      refine Ev.step (fun k => by simp only [posthornlaw23_SeriesOnce.j0, if_true]; rfl) ?_
      exact Ev.bind Alive.alive_ev (Ev.now _)
    | false =>
      refine Ev.step (fun k => by simp only [posthornlaw23_SeriesOnce.j0, Bool.false_eq_true, if_false]; rfl) ?_
      obtain ⟨p, hp, told⟩ := instances_fin s0 s1 s2 r0 r1 r2 r3 l7 l8 l9 l10 l11 l12 hs fr till
      refine Ev.bind hp ?_
      by_cases c : p.2 = 0
      · simp only [if_pos c]
        exact l0_ev s0 s1 s2 r0 r1 r2 r3 l7 l8 l9 l10 l11 l12 fr till p.1 (told.ok c) (told.few c) (told.eq c) p.1 0 rfl
      · simp only [if_neg c, told.bad c]
        exact Ev.bind Alive.alive_ev (Ev.now _)
  refine Ev.rounds (g := fun k => posthornlaw23_SeriesOnce.f k s0 s1 s2 r0 r1 r2 r3 l7 l8 l9 l10 l11 l12 fr till) ?_
  unfold posthornlaw23_SeriesOnce.f
  simp only [hg3, hg2, Option.bind_some]
  cases g3
  · exact j0 _
  · exact j0 _
end
end Go.Proofs.Ytkgkblmeafhkfaa.PureOnce

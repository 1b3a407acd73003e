/- SeriesMoves: its plain law. -/
import Derived.Test.YtkgkblmeafhkfaaInsts
import Derived.Test.YtkgkblmeafhkfaaAlive
import Derived.Test.YtkgkblmeafhkfaaPSx18
set_option linter.unusedVariables false
namespace Go.Proofs.Ytkgkblmeafhkfaa.Pure
open Go.RowKit Go.Proofs.YtkgkblmeafhkfaaW.PrintWords Go.Proofs.YtkgkblmeafhkfaaW.PrintLast Go.Proofs.YtkgkblmeafhkfaaW.PrintMore Go.Proofs.Ytkgkblmeafhkfaa.PS Go.Proofs.Ytkgkblmeafhkfaa.Cal Go.Proofs.Ytkgkblmeafhkfaa.Base Go.Proofs.Ytkgkblmeafhkfaa.Match Go.Proofs.Ytkgkblmeafhkfaa.Times Go.Proofs.Ytkgkblmeafhkfaa.Insts

theorem up_one {l : List Int} {a : Int} (h : l.Pairwise (· < ·)) (ha : ∀ x, x ∈ l ↔ x = a) : l = [a] := by
  match l, h, ha with
  | [], _, ha => exact absurd ((ha a).2 rfl) (by simp)
  | [x], _, ha => rw [(ha x).1 (by simp)]
  | x :: y :: l, h, ha =>
    have h1 := (ha x).1 (by simp)
    have h2 := (ha y).1 (by simp)
    have := (List.pairwise_cons.1 h).1 y (by simp)
    omega
theorem up_none {l : List Int} (ha : ∀ x, x ∉ l) : l = [] := by
  cases l with
  | nil => rfl
  | cons x l => exact absurd (List.mem_cons_self) (ha x)
/-- The instances of a series that does not repeat. -/
theorem one_insts {st len fr till : Int} {l10 : List Int} (ok : okSeries st len false 0 0 0 0 [] [] [] l10 [] []) (hf : 0 ≤ fr ∧ fr ≤ 253402300799) (ht : 0 ≤ till ∧ till ≤ 253402300799) :
    instsOf st len false 0 0 0 0 [] [] [] l10 [] [] fr till = if st ∉ l10 ∧ st < till ∧ (st + len > fr ∨ (len = 0 ∧ st ≥ fr)) then [⟨st, st, wrap64 (st + len), false⟩] else [] := by
  have hs := ok.start
  have hl := ok.long
  have ew : wrap64 (st + len) = st + len := wrapI (by omega) (by omega)
  have e1 : wrap64 (fr - 2592000) = fr - 2592000 := wrapI (by omega) (by omega)
  have e2 : wrap64 (till + 2592000) = till + 2592000 := wrapI (by omega) (by omega)
  obtain ⟨h1, h2⟩ := origs_spec st false 0 0 0 0 [] [] [] l10 [] (mx (wrap64 (fr - 2592000)) 0) (mn (wrap64 (till + 2592000)) 253402300799)
  unfold instsOf
  generalize horg : origs st false 0 0 0 0 [] [] [] l10 [] (mx (wrap64 (fr - 2592000)) 0) (mn (wrap64 (till + 2592000)) 253402300799) = os at h1 h2 ⊢
  have hmem : ∀ x, x ∈ os ↔ x = st ∧ st ∉ l10 ∧ (mx (wrap64 (fr - 2592000)) 0 ≤ st ∧ st < mn (wrap64 (till + 2592000)) 253402300799) := by
    intro x
    rw [h2 x]
    unfold allTimes ruleTimes
    simp only [Bool.false_eq_true, if_false, List.nil_append, List.mem_filter, List.mem_cons, List.not_mem_nil, or_false, win, Bool.and_eq_true, decide_eq_true_eq]
    constructor
    · rintro ⟨⟨rfl, h⟩, h'⟩
      exact ⟨rfl, h', h⟩
    · rintro ⟨rfl, h', h⟩
      exact ⟨⟨rfl, h⟩, h'⟩
  have hlo : mx (wrap64 (fr - 2592000)) 0 ≤ st ↔ fr - 2592000 ≤ st := by
    rw [e1]; unfold mx; split <;> omega
  have hhi : st < mn (wrap64 (till + 2592000)) 253402300799 ↔ st < till + 2592000 ∧ st < 253402300799 := by
    rw [e2]; unfold mn; split <;> omega
  have hk : keep len [] fr till st = if st < till ∧ (st + len > fr ∨ (len = 0 ∧ st ≥ fr)) then some ⟨st, st, wrap64 (st + len), false⟩ else none := by
    unfold keep
    have hi : instOf len [] st = (st, st, wrap64 (st + len), false, true) := rfl
    rw [hi]
    have hw : inWin fr till (st, st, wrap64 (st + len), false, true) = decide (st < till ∧ (st + len > fr ∨ (len = 0 ∧ st ≥ fr))) := by
      unfold inWin
      simp only [ew]
      rw [Bool.eq_iff_iff]
      simp only [Bool.true_and, Bool.and_eq_true, Bool.or_eq_true, decide_eq_true_eq, beq_iff_eq]
      omega
    rw [hw]
    by_cases c : st < till ∧ (st + len > fr ∨ (len = 0 ∧ st ≥ fr))
    · rw [decide_eq_true c, if_pos rfl, if_pos c]
    · rw [decide_eq_false c, if_neg c]; rfl
  by_cases c : st ∉ l10 ∧ st < till ∧ (st + len > fr ∨ (len = 0 ∧ st ≥ fr))
  · have hos : os = [st] := up_one h1 (fun x => (hmem x).trans ⟨fun h => h.1, fun h => ⟨h, c.1, hlo.2 (by omega), hhi.2 (by omega)⟩⟩)
    rw [hos, if_pos c, List.filterMap_cons, hk, if_pos c.2]
    rfl
  · rw [if_neg c]
    by_cases ch : st ∉ l10 ∧ (mx (wrap64 (fr - 2592000)) 0 ≤ st ∧ st < mn (wrap64 (till + 2592000)) 253402300799)
    · have hos : os = [st] := up_one h1 (fun x => (hmem x).trans ⟨fun h => h.1, fun h => ⟨h, ch⟩⟩)
      rw [hos, List.filterMap_cons, hk, if_neg (fun h => c ⟨ch.1, h⟩)]
      rfl
    · have hos : os = [] := up_none (fun x hx => ch ((hmem x).1 hx).2)
      rw [hos]
      rfl
theorem great_some (s0 s1 : Int) (s2 : Bool) (r0 r1 r2 r3 : Int) (l7 l8 : List Int) (l9 : List S78) (l10 l11 : List Int) (l12 : List S39) (t : Int) : ∃ b, posthornlaw23_Great.f s0 s1 s2 r0 r1 r2 r3 l7 l8 l9 l10 l11 l12 t = some b := by
  unfold posthornlaw23_Great.f posthornlaw21_Great.f
  split <;> simp only [Option.bind_some] <;> repeat' (first | exact ⟨_, rfl⟩ | split)
theorem SeriesMoves : posthornlaw23_SeriesMoves.Pure := by
  intro a0 a1 a2 a3 a4 w0 w1 w2 w3
  have key : ∀ l10 : List Int, (l10 = if a4 = true then [a0] else []) → Ev (fun k => posthornlaw23_SeriesMoves.j0 k a0 a1 a2 a3 a4 a0 a1 false 0 0 0 0 l10) true := by
    intro l10 hl10
    obtain ⟨g3, hg3⟩ := great_some a0 a1 false 0 0 0 0 [] [] [] l10 [] [] a3
    obtain ⟨g2, hg2⟩ := great_some a0 a1 false 0 0 0 0 [] [] [] l10 [] [] a2
    have j1 : ∀ g, Ev (fun k => posthornlaw23_SeriesMoves.j1 k a0 a1 a2 a3 a4 g a0 a1 false 0 0 0 0 l10) true := by
      intro g
      cases g with
      | true =>
        refine Ev.step (fun k => by simp only [posthornlaw23_SeriesMoves.j1, if_true]; rfl) ?_
        exact Ev.bind Alive.alive_ev (Ev.now _)
      | false =>
        refine Ev.step (fun k => by simp only [posthornlaw23_SeriesMoves.j1, Bool.false_eq_true, if_false]; rfl) ?_
        have hsh : Short [] [] [] l10 [] [] := ⟨by simp, by simp, by simp, by rw [hl10]; split <;> simp, by simp, by simp⟩
        obtain ⟨p, hp, told⟩ := instances_fin a0 a1 false 0 0 0 0 [] [] [] l10 [] [] hsh a2 a3
        refine Ev.bind hp ?_
        obtain ⟨l, e⟩ := p
        have al : ∀ (f : Bool → Option Bool), f true = some true → Ev (fun k => (posthornlaw23_alive.f k).bind f) true := fun f h => by
          have := Ev.bind (f := fun _ b => f b) Alive.alive_ev (r := true) (by simp only [h]; exact Ev.now _)
          exact this
        by_cases c : e = 0
        · subst c
          have ok := told.ok rfl
          have hw := told.win rfl
          have heq := told.eq rfl
          rw [one_insts ok hw.1 hw.2] at heq
          simp only at heq
          have hs := ok.start
          have hl := ok.long
          have ew : wrap64 (a0 + a1) = a0 + a1 := wrapI (by omega) (by omega)
          simp only [if_true]
          have lone : (a0 ∉ l10 ∧ a0 < a3 ∧ (a0 + a1 > a2 ∨ (a1 = 0 ∧ a0 ≥ a2))) → l = [⟨a0, a0, wrap64 (a0 + a1), false⟩] := fun h => by rw [heq, if_pos h]
          have lnil : ¬ (a0 ∉ l10 ∧ a0 < a3 ∧ (a0 + a1 > a2 ∨ (a1 = 0 ∧ a0 ≥ a2))) → l = [] := fun h => by rw [heq, if_neg h]
          cases a4 with
          | true =>
            simp only [if_true]
            rw [lnil (fun h => h.1 (by rw [hl10]; simp))]
            exact al _ rfl
          | false =>
            have hnot : a0 ∉ l10 := by rw [hl10]; simp
            simp only [Bool.false_eq_true, if_false, ew]
            by_cases c1 : a0 < a3
            · simp only [if_pos c1]
              by_cases c2 : a0 + a1 > a2
              · simp only [if_pos c2]
                rw [lone ⟨hnot, c1, .inl c2⟩, ew]
                exact al _ (by simp [rd_T37])
              · simp only [if_neg c2]
                by_cases c3 : a1 = 0
                · simp only [if_pos c3]
                  by_cases c4 : a0 ≥ a2
                  · simp only [if_pos c4]
                    rw [lone ⟨hnot, c1, .inr ⟨c3, c4⟩⟩, ew]
                    exact al _ (by simp [rd_T37])
                  · simp only [if_neg c4]
                    rw [lnil (by omega)]
                    exact al _ rfl
                · simp only [if_neg c3]
                  rw [lnil (by omega)]
                  exact al _ rfl
            · simp only [if_neg c1]
              rw [lnil (by omega)]
              exact al _ rfl
        · have hnil : l = [] := told.bad c
          subst hnil
          simp only [if_neg c]
          exact al _ rfl
    refine Ev.step (fun k => by simp only [posthornlaw23_SeriesMoves.j0]; rw [hg3, Option.bind_some, hg2, Option.bind_some]) ?_
    cases g3
    · exact j1 _
    · exact j1 _
  unfold posthornlaw23_SeriesMoves.f
  cases a4 with
  | true => exact (key [a0] rfl).rounds
  | false => exact (key [] rfl).rounds
end Go.Proofs.Ytkgkblmeafhkfaa.Pure

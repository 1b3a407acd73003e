/- What the printed functions of the program's side come to, as plain lists: the greatest kind at a moment, whether spans are a row. -/
import Derived.Test.YtalepohjmjlndaaPBx7
import Derived.Test.YtalepohjmjlndaaPBx12
namespace Go.Proofs.Ytalepohjmjlndaa.Facts
open Go.RowKit Go.Proofs.YtalepohjmjlndaaW.PrintWords Go.Proofs.YtalepohjmjlndaaW.PrintLast Go.Proofs.YtalepohjmjlndaaW.PrintMore Go.Proofs.Ytalepohjmjlndaa.PB

theorem alive_ev : Ev (fun k => posthornlaw24_alive.f k) true := Ev.of posthornlaw24_alive.mono (k := 12) (by decide +kernel)

theorem wrapS {i n : Nat} (h : i < n) (hn : n ≤ 9223372036854775807) : wrap64 ((i : Int) + 1) = ((i + 1 : Nat) : Int) := by unfold wrap64; omega

theorem many_f (l : List S44) : posthornlaw24_many.f l = some (decide (120 < l.length ∧ l.length ≤ 4096 ∨ 4200 < l.length)) := by
  unfold posthornlaw24_many.f
  by_cases h1 : (l.length : Int) > 120
  · rw [if_pos h1]
    by_cases h2 : (l.length : Int) ≤ 4096
    · rw [if_pos h2, decide_eq_true (by omega)]
    · rw [if_neg h2]
      congr 1
      rw [decide_eq_decide]
      omega
  · rw [if_neg h1]
    congr 1
    rw [decide_eq_decide]
    omega

theorem drop_cons {l : List S44} {i : Nat} {s : S44} {suf : List S44} (h : l.drop i = s :: suf) : i < l.length ∧ rd_T44 l (i : Int) = s ∧ l.drop (i + 1) = suf := by
  have hi : i < l.length := by
    rcases Nat.lt_or_ge i l.length with h1 | h1
    · exact h1
    · rw [List.drop_eq_nil_of_le h1] at h; cases h
  rw [List.drop_eq_getElem_cons hi] at h
  injection h with h1 h2
  exact ⟨hi, by rw [rd44_get hi]; exact h1, h2⟩
theorem drop_nil {l : List S44} {i : Nat} (h : l.drop i = []) : l.length ≤ i := List.drop_eq_nil_iff.mp h

def up (acc m : Int) : Int := if acc < m then m else acc

theorem up_cons (acc t : Int) (s : Math.Sp) (l : List Math.Sp) : up acc (Math.kmax (s :: l) t) = if s.a ≤ t ∧ t < s.b ∧ acc < s.k then up s.k (Math.kmax l t) else up acc (Math.kmax l t) := by
  have := Math.kmax_nonneg l t
  unfold up
  conv => lhs; unfold Math.kmax
  by_cases c : s.a ≤ t ∧ t < s.b ∧ Math.kmax l t < s.k
  · rw [if_pos c]
    by_cases d : s.a ≤ t ∧ t < s.b ∧ acc < s.k
    · rw [if_pos d, if_pos d.2.2, if_neg (by omega)]
    · rw [if_neg d, if_neg (by omega), if_neg (by omega)]
  · rw [if_neg c]
    by_cases d : s.a ≤ t ∧ t < s.b ∧ acc < s.k
    · rw [if_pos d, if_pos (by omega)]
      split <;> omega
    · rw [if_neg d]

theorem at_loop (l : List S44) (t : Int) (hn : l.length ≤ 9223372036854775807) : ∀ (suf : List S44) (i : Nat) (acc : Int), l.drop i = suf → 0 ≤ acc →
    Ev (fun k => posthornlaw24_at.l0 k l t acc (i : Int)) (up acc (Math.kmax (suf.map toSp) t)) := by
  intro suf
  induction suf with
  | nil =>
    intro i acc hd h0
    have := drop_nil hd
    have e : up acc (Math.kmax (([] : List S44).map toSp) t) = acc := by unfold up; exact if_neg (by show ¬ acc < 0; omega)
    rw [e]
    exact Ev.step (f := fun _ => some acc) (fun k => by simp only [posthornlaw24_at.l0]; rw [if_neg (by omega)]) (Ev.now _)
  | cons s suf ih =>
    intro i acc hd h0
    obtain ⟨hi, hs, hd'⟩ := drop_cons hd
    rw [List.map_cons, up_cons acc t _ _]
    have hw := wrapS hi hn
    by_cases c : s.f0 ≤ t ∧ t < s.f1 ∧ acc < s.f2
    · rw [if_pos (show (toSp s).a ≤ t ∧ t < (toSp s).b ∧ acc < (toSp s).k from c)]
      refine Ev.step (fun k => ?_) (ih (i + 1) s.f2 hd' (by omega))
      simp only [posthornlaw24_at.l0]
      rw [if_pos (by omega), if_pos (by omega), hs, if_pos c.1, if_pos c.2.1, if_pos c.2.2, hw]
    · rw [if_neg (show ¬ ((toSp s).a ≤ t ∧ t < (toSp s).b ∧ acc < (toSp s).k) from c)]
      refine Ev.step (fun k => ?_) (ih (i + 1) acc hd' h0)
      simp only [posthornlaw24_at.l0]
      rw [if_pos (by omega), if_pos (by omega), hs, hw]
      by_cases c1 : s.f0 ≤ t
      · rw [if_pos c1]
        by_cases c2 : t < s.f1
        · rw [if_pos c2, if_neg (by omega)]
        · rw [if_neg c2]
      · rw [if_neg c1]
theorem at_ev (l : List S44) (t : Int) (hn : l.length ≤ 9223372036854775807) : Ev (fun k => posthornlaw24_at.f k l t) (Math.kmax (l.map toSp) t) := by
  have h := at_loop l t hn l 0 0 rfl (Int.le_refl _)
  have e : up 0 (Math.kmax (l.map toSp) t) = Math.kmax (l.map toSp) t := by
    have := Math.kmax_nonneg (l.map toSp) t
    unfold up
    split <;> omega
  rwa [e] at h

/-- Spread, where it tells spans. -/
theorem spread_ok {l a : List S44} (h : busy_Spread.f l = some (a, 0)) : l.all okB = true ∧ l.length ≤ 4096 ∧ a = (Math.spread (l.map toSp)).map ofSp ∧ a.length ≤ 1024 := by
  unfold busy_Spread.f at h
  by_cases h1 : 4096 < l.length
  · rw [if_pos h1] at h; simp at h
  · rw [if_neg h1] at h
    by_cases h2 : l.all okB = true
    · rw [if_pos h2] at h
      by_cases h3 : 1024 < ((Math.spread (l.map toSp)).map ofSp).length
      · rw [if_pos h3] at h; simp at h
      · rw [if_neg h3] at h
        simp only [Option.some.injEq, Prod.mk.injEq, and_true] at h
        subst h
        exact ⟨h2, by omega, rfl, by omega⟩
    · rw [if_neg h2] at h; simp at h
theorem spread_some (l : List S44) : ∃ a e, busy_Spread.f l = some (a, e) ∧ (e ≠ 0 → a = []) := by
  unfold busy_Spread.f
  by_cases h1 : 4096 < l.length
  · rw [if_pos h1]; exact ⟨_, _, rfl, fun _ => rfl⟩
  · rw [if_neg h1]
    by_cases h2 : l.all okB = true
    · rw [if_pos h2]
      by_cases h3 : 1024 < ((Math.spread (l.map toSp)).map ofSp).length
      · rw [if_pos h3]; exact ⟨_, _, rfl, fun _ => rfl⟩
      · rw [if_neg h3]; exact ⟨_, _, rfl, fun h => absurd rfl h⟩
    · rw [if_neg h2]; exact ⟨_, _, rfl, fun _ => rfl⟩
theorem map_to_of (l : List Math.Sp) : (l.map ofSp).map toSp = l := by rw [List.map_map, show (toSp ∘ ofSp) = id from rfl, List.map_id]
theorem map_of_to (l : List S44) : (l.map toSp).map ofSp = l := by rw [List.map_map, show (ofSp ∘ toSp) = id from rfl, List.map_id]
theorem spread_kmax {l : List S44} (h : l.all okB = true) (t : Int) : Math.kmax (((Math.spread (l.map toSp)).map ofSp).map toSp) t = Math.kmax (l.map toSp) t := by
  rw [map_to_of]
  obtain ⟨h1, h2⟩ := ok_of_all h
  exact (Math.spread_row _ h1 (-1) h2).2 t

end Go.Proofs.Ytalepohjmjlndaa.Facts

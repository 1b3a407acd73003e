/- Small facts: alive, many, lists that are read, Spread. -/
import Derived.Test.YtalepohjmjlndaaPBx7
namespace Go.Proofs.Ytalepohjmjlndaa.Base
open Go.RowKit Go.Proofs.YtalepohjmjlndaaW.PrintWords Go.Proofs.YtalepohjmjlndaaW.PrintLast Go.Proofs.YtalepohjmjlndaaW.PrintMore Go.Proofs.Ytalepohjmjlndaa.PB

theorem alive_ev : Ev (fun k => posthornlaw24_alive.f k) true := Ev.of posthornlaw24_alive.mono (k := 12) (by decide +kernel)

theorem wrapS {i n : Nat} (h : i < n) (hn : n ≤ 9223372036854775807) : wrap64 ((i : Int) + 1) = ((i + 1 : Nat) : Int) := by unfold wrap64; omega

theorem many_f (l : List S44) : posthornlaw24_many.f l = some (decide (120 < l.length ∧ l.length ≤ 4096 ∨ 4200 < l.length)) := by
  unfold posthornlaw24_many.f
  by_cases h1 : (l.length : Int) > 120
  · rw [if_pos h1]
    by_cases h2 : (l.length : Int) ≤ 4096
    · rw [if_pos h2, decide_eq_true (by omega)]
    · rw [if_neg h2]
      congr 1
      rw [decide_eq_decide]
      omega
  · rw [if_neg h1]
    congr 1
    rw [decide_eq_decide]
    omega

theorem drop_cons {l : List S44} {i : Nat} {s : S44} {suf : List S44} (h : l.drop i = s :: suf) : i < l.length ∧ rd_T44 l (i : Int) = s ∧ l.drop (i + 1) = suf := by
  have hi : i < l.length := by
    rcases Nat.lt_or_ge i l.length with h1 | h1
    · exact h1
    · rw [List.drop_eq_nil_of_le h1] at h; cases h
  rw [List.drop_eq_getElem_cons hi] at h
  injection h with h1 h2
  exact ⟨hi, by rw [rd44_get hi]; exact h1, h2⟩
theorem drop_nil {l : List S44} {i : Nat} (h : l.drop i = []) : l.length ≤ i := List.drop_eq_nil_iff.mp h

/-- Spread, where it tells spans. -/
theorem spread_ok {l a : List S44} (h : busy_Spread.f l = some (a, 0)) : l.all okB = true ∧ l.length ≤ 4096 ∧ a = (Math.spread (l.map toSp)).map ofSp ∧ a.length ≤ 1024 := by
  unfold busy_Spread.f at h
  by_cases h1 : 4096 < l.length
  · rw [if_pos h1] at h; simp at h
  · rw [if_neg h1] at h
    by_cases h2 : l.all okB = true
    · rw [if_pos h2] at h
      by_cases h3 : 1024 < ((Math.spread (l.map toSp)).map ofSp).length
      · rw [if_pos h3] at h; simp at h
      · rw [if_neg h3] at h
        simp only [Option.some.injEq, Prod.mk.injEq, and_true] at h
        subst h
        exact ⟨h2, by omega, rfl, by omega⟩
    · rw [if_neg h2] at h; simp at h
theorem spread_some (l : List S44) : ∃ a e, busy_Spread.f l = some (a, e) ∧ (e ≠ 0 → a = []) := by
  unfold busy_Spread.f
  by_cases h1 : 4096 < l.length
  · rw [if_pos h1]; exact ⟨_, _, rfl, fun _ => rfl⟩
  · rw [if_neg h1]
    by_cases h2 : l.all okB = true
    · rw [if_pos h2]
      by_cases h3 : 1024 < ((Math.spread (l.map toSp)).map ofSp).length
      · rw [if_pos h3]; exact ⟨_, _, rfl, fun _ => rfl⟩
      · rw [if_neg h3]; exact ⟨_, _, rfl, fun h => absurd rfl h⟩
    · rw [if_neg h2]; exact ⟨_, _, rfl, fun _ => rfl⟩
theorem map_to_of (l : List Math.Sp) : (l.map ofSp).map toSp = l := by rw [List.map_map, show (toSp ∘ ofSp) = id from rfl, List.map_id]
theorem map_of_to (l : List S44) : (l.map toSp).map ofSp = l := by rw [List.map_map, show (ofSp ∘ toSp) = id from rfl, List.map_id]
theorem spread_kmax {l : List S44} (h : l.all okB = true) (t : Int) : Math.kmax (((Math.spread (l.map toSp)).map ofSp).map toSp) t = Math.kmax (l.map toSp) t := by
  rw [map_to_of]
  obtain ⟨h1, h2⟩ := ok_of_all h
  exact (Math.spread_row _ h1 (-1) h2).2 t

end Go.Proofs.Ytalepohjmjlndaa.Base

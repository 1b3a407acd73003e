/- A list of spans that came in as data: as a row that is read. -/
import Derived.Test.YtalepohjmjlndaaPBx0
import Derived.Test.YtalepohjmjlndaaRows
import Derived.Deep.Strs
import Derived.ChangeArms
import Derived.SizedLaws
namespace Go.Proofs.Ytalepohjmjlndaa.Open
open Go.RowKit Go.Deep Go.Proofs.YtalepohjmjlndaaW.PrintWords Go.Proofs.YtalepohjmjlndaaW.PrintLast Go.Proofs.YtalepohjmjlndaaW.PrintMore Go.Proofs.Ytalepohjmjlndaa.PB

theorem add_add (a : Addr) (m n : Nat) : (a.add m).add n = a.add (m + n) := by
  unfold Addr.add
  by_cases hm : m = 0
  · subst hm
    rw [if_pos rfl, Nat.zero_add]
  · rw [if_neg hm, if_neg (by omega : ¬ m + n = 0)]
    by_cases hn : n = 0
    · subst hn
      rw [if_pos rfl, Nat.add_zero]
    · rw [if_neg hn, Nat.add_assoc]
theorem cells44 : Try.prog.cellsOf 44 = 3 := by kernel_rfl
theorem cells2 : Try.prog.cellsOf 2 = 1 := by kernel_rfl
theorem cells3 : Try.prog.cellsOf 3 = 1 := by kernel_rfl

theorem span_of {H : Type} {enc : TypeId × Value → H} {w : World} {base : Nat} {spare : Nat → Bool} {held : Bool} {fuel : Nat} {cs : List Value} {x : DataW H × List MemPlace}
    (h : DataW.trod enc Try.prog w base spare held fuel 44 cs = some x) : ∃ s : S44, cs = [.int .i64 s.f0, .int .i64 s.f1, .int .i64 s.f2] := by
  obtain ⟨y0, y1, y2, n, _, hl, h0, h1, h2⟩ := trod_struct3 Try.underlying44 h
  rw [cells44] at hl
  match cs, hl with
  | [c0, c1, c2], _ =>
    simp only [cells2, cells3] at h0 h1 h2
    obtain ⟨a, ea, _, _⟩ := DataW.trod_int Try.underlying2 h0
    obtain ⟨b, eb, _, _⟩ := DataW.trod_int Try.underlying2 h1
    obtain ⟨c, ec, _, _⟩ := DataW.trod_int Try.underlying3 h2
    simp at ea eb ec
    exact ⟨⟨a, b, c⟩, by rw [ea, eb, ec]⟩

theorem spans_of {H : Type} {enc : TypeId × Value → H} {w : World} {base : Nat} {spare : Nat → Bool} {held : Bool} {fuel : Nat} {cs : List Value} {x : DataW H × List MemPlace}
    (h : DataW.trod enc Try.prog w base spare held fuel 22 cs = some x) :
    ∃ (A : Option Addr) (l : List S44) (c : Nat), cs = [.slice A l.length c] ∧ Kd.C k44 w A l.length l ∧ l.length ≤ c ∧ l.length ≤ 9223372036854775807 := by
  rcases DataW.trod_slice Try.underlying22 h with ⟨h0, _⟩ | ⟨a, len, cap, elems, rest, n, _, hcs, _, hb, hl, hm, hlen, hel, hs1, hs2⟩
  · exact ⟨none, [], 0, h0, ⟨rfl, by decide, fun h => absurd h (Nat.lt_irrefl _)⟩, Nat.le_refl _, by decide⟩
  · have each : ∀ i, i < len → ∃ s : S44, w.cells? base (a.add (i * 3)) 3 = some [.int .i64 s.f0, .int .i64 s.f1, .int .i64 s.f2] := by
      intro i hi
      have h1 := hel i hi
      rw [cells44, List.getElem?_eq_getElem (by omega), Option.bind_eq_some_iff] at h1
      obtain ⟨cs', h2, h3⟩ := h1
      obtain ⟨s, rfl⟩ := span_of h3
      exact ⟨s, h2⟩
    obtain ⟨l, hll, hl2⟩ : ∃ l : List S44, l.length = len ∧ ∀ i s, l[i]? = some s → w.cells? base (a.add (i * 3)) 3 = some [.int .i64 s.f0, .int .i64 s.f1, .int .i64 s.f2] := by
      clear hel hlen hl hm hcs hs1 hs2 hb h
      revert each
      induction len with
      | zero => intro _; exact ⟨[], rfl, fun i s hs => by simp at hs⟩
      | succ n ih =>
        intro each
        obtain ⟨l, h1, h2⟩ := ih (fun i hi => each i (by omega))
        obtain ⟨s, hs⟩ := each n (by omega)
        refine ⟨l ++ [s], by simp [h1], fun i t ht => ?_⟩
        rcases Nat.lt_or_ge i l.length with hi | hi
        · rw [List.getElem?_append_left hi] at ht
          exact h2 i t ht
        · rw [List.getElem?_append_right hi] at ht
          have : i - l.length = 0 := by
            rcases Nat.eq_zero_or_pos (i - l.length) with h | h
            · exact h
            · rw [List.getElem?_eq_none (by simp; omega)] at ht; cases ht
          rw [this] at ht
          simp at ht
          subst ht
          have : i = n := by omega
          subst this
          exact hs
    have hmm : len ≤ 9223372036854775807 := by unfold maxLen at hm; omega
    refine ⟨some a, l, cap, by rw [hcs, hll], ⟨rfl, by omega, fun _ => ⟨a, rfl, fun j p hp => ?_⟩⟩, by omega, by omega⟩
    obtain ⟨_, _, hc⟩ := World.cells?_some (hl2 j p hp)
    refine ⟨[.int .i64 p.f0, .int .i64 p.f1, .int .i64 p.f2], rfl, k44_mk _ _, fun i u hu => ?_⟩
    have hi : i < 3 := by
      rcases Nat.lt_or_ge i 3 with h | h
      · exact h
      · rw [List.getElem?_eq_none (by simpa using h)] at hu; cases hu
    have := hc i hi
    rw [hu] at this
    rw [← this, show k44.sz = 3 from rfl]
    rw [add_add]

end Go.Proofs.Ytalepohjmjlndaa.Open

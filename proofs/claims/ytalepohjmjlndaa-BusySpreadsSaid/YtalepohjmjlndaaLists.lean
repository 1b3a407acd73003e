/- Rows, clips and what is asked of them: what the functions of both sides come to, on plain lists. -/
import Derived.Test.YtalepohjmjlndaaBase
import Derived.Test.YtalepohjmjlndaaPBx10
namespace Go.Proofs.Ytalepohjmjlndaa.Lists
open Go.RowKit Go.Proofs.YtalepohjmjlndaaW.PrintWords Go.Proofs.YtalepohjmjlndaaW.PrintLast Go.Proofs.YtalepohjmjlndaaW.PrintMore Go.Proofs.Ytalepohjmjlndaa.PB Go.Proofs.Ytalepohjmjlndaa.Base

def as8 (s : S44) : S48 := ⟨s.f0, s.f1, s.f2⟩
theorem rd48_map (l : List S44) (i : Int) : rd_T48 (l.map as8) i = as8 (rd_T44 l i) := by
  unfold rd_T48 rd_T44
  rw [show z48 = as8 z44 from rfl]
  simp only [List.getD_eq_getElem?_getD, List.getElem?_map]
  cases l[i.toNat]? <;> rfl

def spanB (x y : Int) : Bool := decide (0 ≤ x ∧ x ≤ 253402300799 ∧ 0 ≤ y ∧ y ≤ 253402300799 ∧ x < y)
theorem isSpan_f (x y : Int) : busy_isSpan.f x y = some (spanB x y) := by
  unfold busy_isSpan.f when_Right.f spanB
  by_cases h1 : x ≥ 0 <;> by_cases h2 : x ≤ 253402300799 <;> by_cases h3 : y ≥ 0 <;> by_cases h4 : y ≤ 253402300799 <;> by_cases h5 : x < y <;>
    simp [h1, h2, h3, h4, h5] <;> omega
theorem times_f (x y : Int) : posthornref24_Times.f x y = some (spanB x y) := by
  unfold posthornref24_Times.f posthornref12_Time.f spanB
  by_cases h1 : x ≥ 0 <;> by_cases h2 : x < 253402300800 <;> by_cases h3 : y ≥ 0 <;> by_cases h4 : y < 253402300800 <;> by_cases h5 : y > x <;>
    simp [h1, h2, h3, h4, h5] <;> omega
theorem okB_eq (s : S44) : okB s = (spanB s.f0 s.f1 && decide (1 ≤ s.f2 ∧ s.f2 ≤ 3)) := by
  unfold okB spanB
  rw [← Bool.decide_and, decide_eq_decide]
  omega
theorem one_f (s : S44) : posthornref24_one.f s.f0 s.f1 s.f2 = some (okB s) := by
  unfold posthornref24_one.f
  rw [times_f, okB_eq]
  simp only [Option.bind_some]
  cases spanB s.f0 s.f1 with
  | false => simp
  | true => by_cases h : s.f2 ≥ 1 <;> simp [h]

/-! ### Right -/
def chain : Int → Int → List S44 → Bool
  | _, _, [] => true
  | e, k, s :: l => okB s && (decide (e ≤ s.f0 ∧ (e = s.f0 → k ≠ s.f2)) && chain s.f1 s.f2 l)
def rightB (l : List S44) : Bool := chain (-1) 0 l && decide (l.length ≤ 1024)

theorem okB_ge {s : S44} (h : okB s = true) : 0 ≤ s.f0 ∧ s.f0 ≤ 253402300799 ∧ 0 ≤ s.f1 ∧ s.f1 ≤ 253402300799 ∧ s.f0 < s.f1 ∧ 1 ≤ s.f2 ∧ s.f2 ≤ 3 := of_decide_eq_true h

theorem right_loop (l : List S44) (hn : l.length ≤ 9223372036854775807) : ∀ (suf : List S44) (i : Nat) (e kd : Int), l.drop i = suf → (i = 0 → e = -1) →
    (0 < i → (rd_T44 l ((i : Int) - 1)).f1 = e ∧ (rd_T44 l ((i : Int) - 1)).f2 = kd) → Ev (fun k => busy_Right.l0 k l l (l.length : Int) (i : Int)) (chain e kd suf && decide (l.length ≤ 1024)) := by
  intro suf
  induction suf with
  | nil =>
    intro i e kd hd _ _
    have := drop_nil hd
    have e' : (chain e kd [] && decide (l.length ≤ 1024)) = decide ((l.length : Int) ≤ 1024) := by
      show (true && _) = _
      rw [Bool.true_and, decide_eq_decide]
      omega
    rw [e']
    refine Ev.step (f := fun _ => some (decide ((l.length : Int) ≤ 1024))) (fun k => ?_) (Ev.now _)
    simp only [busy_Right.l0]
    rw [if_neg (by omega)]
  | cons s suf ih =>
    intro i e kd hd h0 h1
    obtain ⟨hi, hs, hd'⟩ := drop_cons hd
    have hw := wrapS hi hn
    have nxt := ih (i + 1) s.f1 s.f2 hd' (by omega) (fun _ => by
      have : (((i + 1 : Nat) : Int) - 1) = (i : Int) := by omega
      rw [this, hs]
      exact ⟨rfl, rfl⟩)
    cases hb : okB s with
    | false =>
      have ev : (chain e kd (s :: suf) && decide (l.length ≤ 1024)) = false := by simp [chain, hb]
      rw [ev]
      refine Ev.step (f := fun _ => some false) (fun k => ?_) (Ev.now _)
      simp only [busy_Right.l0]
      rw [if_pos (by omega), if_pos (by omega), if_pos (by omega), hs, right_f, hb]
      rfl
    | true =>
      have hg := okB_ge hb
      by_cases i0 : i = 0
      · have he := h0 i0
        have ev : chain e kd (s :: suf) = chain s.f1 s.f2 suf := by
          show (okB s && (decide (e ≤ s.f0 ∧ (e = s.f0 → kd ≠ s.f2)) && chain s.f1 s.f2 suf)) = _
          rw [hb, decide_eq_true (by omega)]
          rfl
        rw [ev]
        refine Ev.step (fun k => ?_) nxt
        simp only [busy_Right.l0]
        rw [if_pos (by omega), if_pos (by omega), if_pos (by omega), hs, right_f, hb]
        simp only [Option.bind_some, if_true]
        rw [if_neg (by omega), hw]
      · obtain ⟨p1, p2⟩ := h1 (by omega)
        have hw1 : wrap64 ((i : Int) - 1) = (i : Int) - 1 := by unfold wrap64; omega
        by_cases c : e ≤ s.f0 ∧ (e = s.f0 → kd ≠ s.f2)
        · have ev : chain e kd (s :: suf) = chain s.f1 s.f2 suf := by
            show (okB s && (decide (e ≤ s.f0 ∧ (e = s.f0 → kd ≠ s.f2)) && chain s.f1 s.f2 suf)) = _
            rw [hb, decide_eq_true c]
            rfl
          rw [ev]
          refine Ev.step (fun k => ?_) nxt
          simp only [busy_Right.l0]
          rw [if_pos (by omega), if_pos (by omega), if_pos (by omega), hs, right_f, hb]
          simp only [Option.bind_some, if_true]
          rw [if_pos (by omega), hw1, if_pos (by omega), if_pos (by omega), p1, p2, if_neg (by omega), hw]
          by_cases c2 : e = s.f0
          · rw [if_pos c2, if_neg (c.2 c2)]
          · rw [if_neg c2]
        · have ev : (chain e kd (s :: suf) && decide (l.length ≤ 1024)) = false := by
            show ((okB s && (decide (e ≤ s.f0 ∧ (e = s.f0 → kd ≠ s.f2)) && chain s.f1 s.f2 suf)) && _) = _
            rw [decide_eq_false c]
            simp
          rw [ev]
          refine Ev.step (f := fun _ => some false) (fun k => ?_) (Ev.now _)
          simp only [busy_Right.l0]
          rw [if_pos (by omega), if_pos (by omega), if_pos (by omega), hs, right_f, hb]
          simp only [Option.bind_some, if_true]
          rw [if_pos (by omega), hw1, if_pos (by omega), if_pos (by omega), p1, p2]
          by_cases c1 : e > s.f0
          · rw [if_pos c1]
          · have ce : e = s.f0 := by
              rcases Int.lt_trichotomy e s.f0 with h | h | h
              · exact absurd ⟨by omega, fun h' => by omega⟩ c
              · exact h
              · exact absurd h c1
            rw [if_neg c1, if_pos ce, if_pos]
            rcases Classical.em (kd = s.f2) with h | h
            · exact h
            · exact absurd ⟨by omega, fun _ => h⟩ c
theorem right_ev (l : List S44) (hn : l.length ≤ 9223372036854775807) : Ev (fun k => busy_Right.f k l) (rightB l) :=
  right_loop l hn l 0 (-1) 0 rfl (fun _ => rfl) (fun h => absurd h (by omega))

theorem rright_loop (l : List S44) (hn : l.length ≤ 9223372036854775807) : ∀ (suf : List S44) (i : Nat) (e kd : Int), l.drop i = suf → (i = 0 → e = -1) →
    (0 < i → (rd_T44 l ((i : Int) - 1)).f1 = e ∧ (rd_T44 l ((i : Int) - 1)).f2 = kd) → Ev (fun k => posthornref24_Right.l0 k (l.map as8) (i : Int)) (chain e kd suf && decide (l.length ≤ 1024)) := by
  have hl : (l.map as8).length = l.length := List.length_map ..
  intro suf
  induction suf with
  | nil =>
    intro i e kd hd _ _
    have := drop_nil hd
    have e' : (chain e kd [] && decide (l.length ≤ 1024)) = decide ((l.length : Int) ≤ 1024) := by
      show (true && _) = _
      rw [Bool.true_and, decide_eq_decide]
      omega
    rw [e']
    refine Ev.step (f := fun _ => some (decide ((l.length : Int) ≤ 1024))) (fun k => ?_) (Ev.now _)
    simp only [posthornref24_Right.l0, hl]
    rw [if_neg (by omega)]
  | cons s suf ih =>
    intro i e kd hd h0 h1
    obtain ⟨hi, hs, hd'⟩ := drop_cons hd
    have hw := wrapS hi hn
    have nxt := ih (i + 1) s.f1 s.f2 hd' (by omega) (fun _ => by
      have : (((i + 1 : Nat) : Int) - 1) = (i : Int) := by omega
      rw [this, hs]
      exact ⟨rfl, rfl⟩)
    have one' : posthornref24_one.f (as8 s).f0 (as8 s).f1 (as8 s).f2 = some (okB s) := one_f s
    have a0 : (as8 s).f0 = s.f0 := rfl
    have a1 : ∀ u : S44, (as8 u).f1 = u.f1 := fun _ => rfl
    have a2 : ∀ u : S44, (as8 u).f2 = u.f2 := fun _ => rfl
    cases hb : okB s with
    | false =>
      have ev : (chain e kd (s :: suf) && decide (l.length ≤ 1024)) = false := by simp [chain, hb]
      rw [ev]
      refine Ev.step (f := fun _ => some false) (fun k => ?_) (Ev.now _)
      simp only [posthornref24_Right.l0, hl, rd48_map]
      rw [if_pos (by omega), if_pos (by omega), hs, one', hb]
      rfl
    | true =>
      have hg := okB_ge hb
      by_cases i0 : i = 0
      · have he := h0 i0
        have ev : chain e kd (s :: suf) = chain s.f1 s.f2 suf := by
          show (okB s && (decide (e ≤ s.f0 ∧ (e = s.f0 → kd ≠ s.f2)) && chain s.f1 s.f2 suf)) = _
          rw [hb, decide_eq_true (by omega)]
          rfl
        rw [ev]
        refine Ev.step (fun k => ?_) nxt
        simp only [posthornref24_Right.l0, hl, rd48_map]
        rw [if_pos (by omega), if_pos (by omega), hs, one', hb]
        simp only [Option.bind_some, if_true]
        rw [if_neg (by omega), hw]
      · obtain ⟨p1, p2⟩ := h1 (by omega)
        have hw1 : wrap64 ((i : Int) - 1) = (i : Int) - 1 := by unfold wrap64; omega
        by_cases c : e ≤ s.f0 ∧ (e = s.f0 → kd ≠ s.f2)
        · have ev : chain e kd (s :: suf) = chain s.f1 s.f2 suf := by
            show (okB s && (decide (e ≤ s.f0 ∧ (e = s.f0 → kd ≠ s.f2)) && chain s.f1 s.f2 suf)) = _
            rw [hb, decide_eq_true c]
            rfl
          rw [ev]
          refine Ev.step (fun k => ?_) nxt
          simp only [posthornref24_Right.l0, hl, rd48_map]
          rw [if_pos (by omega), if_pos (by omega), hs, one', hb]
          simp only [Option.bind_some, if_true]
          rw [if_pos (by omega), hw1, if_pos (by omega), if_pos (by omega), a1, a2, a0, a2, p1, p2, if_neg (by omega), hw]
          by_cases c2 : s.f0 = e
          · rw [if_pos c2, if_neg (fun h => c.2 c2.symm h.symm)]
          · rw [if_neg c2]
        · have ev : (chain e kd (s :: suf) && decide (l.length ≤ 1024)) = false := by
            show ((okB s && (decide (e ≤ s.f0 ∧ (e = s.f0 → kd ≠ s.f2)) && chain s.f1 s.f2 suf)) && _) = _
            rw [decide_eq_false c]
            simp
          rw [ev]
          refine Ev.step (f := fun _ => some false) (fun k => ?_) (Ev.now _)
          simp only [posthornref24_Right.l0, hl, rd48_map]
          rw [if_pos (by omega), if_pos (by omega), hs, one', hb]
          simp only [Option.bind_some, if_true]
          rw [if_pos (by omega), hw1, if_pos (by omega), if_pos (by omega), a1, a2, a0, a2, p1, p2]
          by_cases c1 : s.f0 < e
          · rw [if_pos c1]
          · have ce : s.f0 = e := by
              rcases Int.lt_trichotomy e s.f0 with h | h | h
              · exact absurd ⟨by omega, fun h' => by omega⟩ c
              · exact h.symm
              · exact absurd h c1
            rw [if_neg c1, if_pos ce, if_pos]
            rcases Classical.em (s.f2 = kd) with h | h
            · exact h
            · exact absurd ⟨by omega, fun _ h' => h h'.symm⟩ c
theorem rright_ev (l : List S44) (hn : l.length ≤ 9223372036854775807) : Ev (fun k => posthornref24_Right.f k (l.map as8)) (rightB l) :=
  rright_loop l hn l 0 (-1) 0 rfl (fun _ => rfl) (fun h => absurd h (by omega))

/-! ### fits, May -/
def fitsV (l : List S44) (x y : Int) : Int := if rightB l = true then (if spanB x y = true then 0 else 1) else 3
theorem fits_ev (l : List S44) (x y : Int) (hn : l.length ≤ 9223372036854775807) : Ev (fun k => busy_fits.f k l x y) (fitsV l x y) := by
  unfold busy_fits.f fitsV
  refine Ev.bind (right_ev l hn) ?_
  cases rightB l with
  | false => exact Ev.now _
  | true =>
    simp only [if_true, isSpan_f, Option.bind_some]
    cases spanB x y <;> exact Ev.now _
theorem may_ev (l : List S44) (x y : Int) (hn : l.length ≤ 9223372036854775807) : Ev (fun k => posthornref24_May.f k (l.map as8) x y) (fitsV l x y) := by
  unfold posthornref24_May.f fitsV
  refine Ev.bind (rright_ev l hn) ?_
  cases rightB l with
  | false => exact Ev.now _
  | true =>
    simp only [if_true, times_f, Option.bind_some]
    cases spanB x y <;> exact Ev.now _

/-! ### clip, between -/
def clipL (x y : Int) : List S44 → List S44
  | [] => []
  | s :: l => if mx s.f0 x < mn s.f1 y then ⟨mx s.f0 x, mn s.f1 y, s.f2⟩ :: clipL x y l else clipL x y l
theorem clip_pos {x y : Int} {s : S44} {l : List S44} (c : mx s.f0 x < mn s.f1 y) : clipL x y (s :: l) = ⟨mx s.f0 x, mn s.f1 y, s.f2⟩ :: clipL x y l := if_pos c
theorem clip_neg {x y : Int} {s : S44} {l : List S44} (c : ¬ mx s.f0 x < mn s.f1 y) : clipL x y (s :: l) = clipL x y l := if_neg c
theorem clip_loop (l : List S44) (x y : Int) (hn : l.length ≤ 1000000) : ∀ (suf acc : List S44) (i : Nat), l.drop i = suf → acc.length ≤ i →
    Ev (fun k => busy_clip.l0 k x y acc l (l.length : Int) (i : Int)) (acc ++ clipL x y suf) := by
  intro suf
  induction suf with
  | nil =>
    intro acc i hd _
    have := drop_nil hd
    refine Ev.step (f := fun _ => some (acc ++ clipL x y [])) (fun k => ?_) (Ev.now _)
    simp only [busy_clip.l0, clipL, List.append_nil]
    rw [if_neg (by omega)]
  | cons s suf ih =>
    intro acc i hd ha
    obtain ⟨hi, hs, hd'⟩ := drop_cons hd
    have hw := wrapS hi (by omega)
    by_cases c : mx s.f0 x < mn s.f1 y
    · have e : acc ++ clipL x y (s :: suf) = (acc ++ [⟨mx s.f0 x, mn s.f1 y, s.f2⟩]) ++ clipL x y suf := by
        rw [clip_pos c, List.append_assoc]
        rfl
      rw [e]
      refine Ev.step (fun k => ?_) (ih _ (i + 1) hd' (by simp; omega))
      simp only [busy_clip.l0]
      rw [if_pos (by omega), if_pos (by omega), if_pos (by omega), hs, if_pos c, if_pos (by omega), hw]
    · rw [clip_neg c]
      refine Ev.step (fun k => ?_) (ih _ (i + 1) hd' (by omega))
      simp only [busy_clip.l0]
      rw [if_pos (by omega), if_pos (by omega), if_pos (by omega), hs, if_neg c, hw]
theorem clip_ev (l : List S44) (x y : Int) (hn : l.length ≤ 1000000) : Ev (fun k => busy_clip.f k l x y) (clipL x y l) :=
  clip_loop l x y hn l [] 0 rfl (Nat.le_refl _)
theorem between_loop (l : List S44) (x y : Int) (hn : l.length ≤ 1000000) : ∀ (suf acc : List S44) (i : Nat), l.drop i = suf → acc.length ≤ i →
    Ev (fun k => posthornref24_between.l0 k (l.map as8) x y (acc.map as8) (i : Int)) ((acc ++ clipL x y suf).map as8) := by
  have hl : (l.map as8).length = l.length := List.length_map ..
  have a0 : ∀ u : S44, (as8 u).f0 = u.f0 := fun _ => rfl
  have a1 : ∀ u : S44, (as8 u).f1 = u.f1 := fun _ => rfl
  have a2 : ∀ u : S44, (as8 u).f2 = u.f2 := fun _ => rfl
  intro suf
  induction suf with
  | nil =>
    intro acc i hd _
    have := drop_nil hd
    refine Ev.step (f := fun _ => some ((acc ++ clipL x y []).map as8)) (fun k => ?_) (Ev.now _)
    simp only [posthornref24_between.l0, clipL, List.append_nil, hl]
    rw [if_neg (by omega)]
  | cons s suf ih =>
    intro acc i hd ha
    obtain ⟨hi, hs, hd'⟩ := drop_cons hd
    have hw := wrapS hi (by omega)
    have hal : (acc.map as8).length = acc.length := List.length_map ..
    have key : Ev (fun k => posthornref24_between.j1 k (l.map as8) x y (acc.map as8) (i : Int) (mx s.f0 x) s.f1 s.f2) ((acc ++ clipL x y (s :: suf)).map as8) := by
      by_cases c : mx s.f0 x < mn s.f1 y
      · have e : acc ++ clipL x y (s :: suf) = (acc ++ [⟨mx s.f0 x, mn s.f1 y, s.f2⟩]) ++ clipL x y suf := by
          rw [clip_pos c, List.append_assoc]
          rfl
        rw [e]
        refine Ev.step (fun k => ?_) (ih (acc ++ [⟨mx s.f0 x, mn s.f1 y, s.f2⟩]) (i + 1) hd' (by simp; omega))
        simp only [posthornref24_between.j1, hal, List.map_append, List.map_cons, List.map_nil, as8]
        by_cases d : s.f1 > y
        · have em : mn s.f1 y = y := if_pos d
          rw [if_pos d, if_pos (by omega), if_pos (by omega), hw, em]
        · have em : mn s.f1 y = s.f1 := if_neg d
          rw [if_neg d, if_pos (by omega), if_pos (by omega), hw, em]
      · rw [clip_neg c]
        refine Ev.step (fun k => ?_) (ih _ (i + 1) hd' (by omega))
        simp only [posthornref24_between.j1]
        by_cases d : s.f1 > y
        · have em : mn s.f1 y = y := if_pos d
          rw [if_pos d, if_neg (by omega), hw]
        · have em : mn s.f1 y = s.f1 := if_neg d
          rw [if_neg d, if_neg (by omega), hw]
    refine Ev.step (fun k => ?_) key
    simp only [posthornref24_between.l0, hl, rd48_map, a0, a1, a2]
    rw [if_pos (by omega), if_pos (by omega), hs]
    by_cases d : s.f0 < x
    · have em : mx s.f0 x = x := if_pos d
      rw [if_pos d, em]
    · have em : mx s.f0 x = s.f0 := if_neg d
      rw [if_neg d, em]
theorem between_ev (l : List S44) (x y : Int) (hn : l.length ≤ 1000000) : Ev (fun k => posthornref24_between.f k (l.map as8) x y) ((clipL x y l).map as8) :=
  between_loop l x y hn l [] 0 rfl (Nat.le_refl _)
theorem clipL_length (x y : Int) : ∀ l : List S44, (clipL x y l).length ≤ l.length
  | [] => Nat.le_refl _
  | s :: l => by
    have := clipL_length x y l
    by_cases c : mx s.f0 x < mn s.f1 y
    · rw [clip_pos c]; simp; omega
    · rw [clip_neg c]; simp; omega

/-! ### Clip -/
theorem Clip_ev (l : List S44) (x y : Int) (hn : l.length ≤ 1000000) : Ev (fun k => busy_Clip.f k l x y) (if fitsV l x y = 0 then (clipL x y l, 0) else ([], fitsV l x y)) := by
  unfold busy_Clip.f
  refine Ev.bind (fits_ev l x y (by omega)) ?_
  by_cases h : fitsV l x y = 0
  · simp only [if_pos h]
    exact Ev.bind (clip_ev l x y hn) (Ev.now _)
  · simp only [if_neg h]
    exact Ev.now _
theorem rClip_ev (l : List S44) (x y : Int) (hn : l.length ≤ 1000000) : Ev (fun k => posthornref24_Clip.f k (l.map as8) x y) (if fitsV l x y = 0 then ((clipL x y l).map as8, 0) else ([], fitsV l x y)) := by
  unfold posthornref24_Clip.f
  refine Ev.bind (may_ev l x y (by omega)) ?_
  by_cases h : fitsV l x y = 0
  · simp only [if_pos h]
    refine Ev.bind (between_ev l x y hn) ?_
    simp only [h]
    exact Ev.now _
  · simp only [if_neg h]
    exact Ev.now _

/-! ### As, Same -/
theorem as_loop (l : List S44) (hn : l.length ≤ 1000000) : ∀ (suf acc : List S44) (i : Nat), l.drop i = suf → acc.length ≤ i →
    Ev (fun k => posthornlaw24_As.l0 k l (acc.map as8) (i : Int)) ((acc ++ suf).map as8) := by
  intro suf
  induction suf with
  | nil =>
    intro acc i hd _
    have := drop_nil hd
    refine Ev.step (f := fun _ => some ((acc ++ []).map as8)) (fun k => ?_) (Ev.now _)
    simp only [posthornlaw24_As.l0, List.append_nil]
    rw [if_neg (by omega)]
  | cons s suf ih =>
    intro acc i hd ha
    obtain ⟨hi, hs, hd'⟩ := drop_cons hd
    have hw := wrapS hi (by omega)
    have hal : (acc.map as8).length = acc.length := List.length_map ..
    have e : acc ++ s :: suf = (acc ++ [s]) ++ suf := by simp
    rw [e]
    refine Ev.step (fun k => ?_) (ih (acc ++ [s]) (i + 1) hd' (by simp; omega))
    simp only [posthornlaw24_As.l0, hal, List.map_append, List.map_cons, List.map_nil, as8]
    rw [if_pos (by omega), if_pos (by omega), if_pos (by omega), hs, hw]
theorem as_ev (l : List S44) (hn : l.length ≤ 1000000) : Ev (fun k => posthornlaw24_As.f k l) (l.map as8) :=
  as_loop l hn l [] 0 rfl (Nat.le_refl _)
theorem same_loop (l : List S48) (hn : l.length ≤ 1000000) : ∀ (n i : Nat), i + n = l.length → Ev (fun k => posthornref24_Same.l0 k l l (i : Int)) true := by
  intro n
  induction n with
  | zero =>
    intro i hi
    refine Ev.step (f := fun _ => some true) (fun k => ?_) (Ev.now _)
    simp only [posthornref24_Same.l0]
    rw [if_neg (by omega)]
  | succ n ih =>
    intro i hi
    have hw : wrap64 ((i : Int) + 1) = ((i + 1 : Nat) : Int) := wrapS (n := l.length) (by omega) (by omega)
    refine Ev.step (fun k => ?_) (ih (i + 1) (by omega))
    simp only [posthornref24_Same.l0]
    rw [if_pos (by omega), if_pos (by omega), if_pos (by omega), if_neg (by simp), hw]
theorem same_ev (l : List S48) (hn : l.length ≤ 1000000) : Ev (fun k => posthornref24_Same.f k l l) true := by
  unfold posthornref24_Same.f
  simp only [if_true]
  exact same_loop l hn l.length 0 (by omega)

/-! ### Clash -/
def anyB (l : List S44) : Bool := l.any fun s => decide (2 ≤ s.f2)
theorem index_loop (l : List S44) (hn : l.length ≤ 1000000) : ∀ (suf : List S44) (i : Nat), l.drop i = suf → Ev (fun k => (busy_Span_42.l0 k l (l.length : Int) (i : Int)).bind fun t => some (decide (t ≥ 0))) (anyB suf) := by
  intro suf
  induction suf with
  | nil =>
    intro i hd
    have := drop_nil hd
    refine Ev.step (f := fun _ => some (anyB [])) (fun k => ?_) (Ev.now _)
    simp only [busy_Span_42.l0]
    rw [if_neg (by omega)]
    rfl
  | cons s suf ih =>
    intro i hd
    obtain ⟨hi, hs, hd'⟩ := drop_cons hd
    have hw := wrapS hi (by omega)
    by_cases c : 2 ≤ s.f2
    · have e : anyB (s :: suf) = true := by simp [anyB, c]
      rw [e]
      refine Ev.step (f := fun _ => some true) (fun k => ?_) (Ev.now _)
      simp only [busy_Span_42.l0, busy_Clash_1.f]
      rw [if_pos (by omega), if_pos (by omega), if_pos (by omega), hs]
      simp only [Option.bind_some]
      rw [if_pos (decide_eq_true c)]
      simp
    · have e : anyB (s :: suf) = anyB suf := by simp [anyB, c]
      rw [e]
      refine Ev.step (fun k => ?_) (ih (i + 1) hd')
      simp only [busy_Span_42.l0, busy_Clash_1.f]
      rw [if_pos (by omega), if_pos (by omega), if_pos (by omega), hs]
      simp only [Option.bind_some]
      rw [if_neg (by simp; omega), hw]
theorem any_ev (l : List S44) (hn : l.length ≤ 1000000) : Ev (fun k => busy_Span_35.f k l) (anyB l) := index_loop l hn l 0 rfl
theorem Clash_ev (l : List S44) (x y : Int) (hn : l.length ≤ 1000000) : Ev (fun k => busy_Clash.f k l x y) (if fitsV l x y = 0 then (anyB (clipL x y l), 0) else (false, fitsV l x y)) := by
  unfold busy_Clash.f
  refine Ev.bind (fits_ev l x y (by omega)) ?_
  by_cases h : fitsV l x y = 0
  · simp only [if_pos h]
    have := clipL_length x y l
    exact Ev.bind (clip_ev l x y hn) (Ev.bind (any_ev _ (by omega)) (Ev.now _))
  · simp only [if_neg h]
    exact Ev.now _

/-! ### rows -/
theorem chain_iff : ∀ (l : List S44) (e k : Int), chain e k l = true ↔ (∀ s, s ∈ l → okB s = true) ∧ Math.Row e k (l.map toSp)
  | [], _, _ => by simp [chain, Math.Row]
  | s :: l, e, k => by
    have ih := chain_iff l s.f1 s.f2
    show (okB s && (decide (e ≤ s.f0 ∧ (e = s.f0 → k ≠ s.f2)) && chain s.f1 s.f2 l)) = true ↔ _
    rw [Bool.and_eq_true, Bool.and_eq_true, ih, decide_eq_true_iff]
    constructor
    · rintro ⟨h1, h2, h3, h4⟩
      have hg := okB_ge h1
      exact ⟨fun x hx => by rcases List.mem_cons.mp hx with rfl | hx; exact h1; exact h3 x hx, h2.1, h2.2, hg.2.2.2.2.1, by show 0 < s.f2; omega, h4⟩
    · rintro ⟨h1, h2, h3, _, _, h4⟩
      exact ⟨h1 s List.mem_cons_self, ⟨h2, h3⟩, fun x hx => h1 x (List.mem_cons_of_mem _ hx), h4⟩
end Go.Proofs.Ytalepohjmjlndaa.Lists

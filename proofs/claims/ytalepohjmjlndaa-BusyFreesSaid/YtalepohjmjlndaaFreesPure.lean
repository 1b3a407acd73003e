/- BusyFrees, without Go and memory: both sides tell the same gaps, and the same of clashes. -/
import Derived.Test.YtalepohjmjlndaaLists
import Derived.Test.YtalepohjmjlndaaPBx15
namespace Go.Proofs.Ytalepohjmjlndaa.FreesPure
open Go.RowKit Go.Proofs.YtalepohjmjlndaaW.PrintWords Go.Proofs.YtalepohjmjlndaaW.PrintLast Go.Proofs.YtalepohjmjlndaaW.PrintMore Go.Proofs.Ytalepohjmjlndaa.PB Go.Proofs.Ytalepohjmjlndaa.Base Go.Proofs.Ytalepohjmjlndaa.Lists

theorem freeL_length (least y : Int) : ∀ (l : List S44) (at_ : Int), (freeL least y l at_).length ≤ l.length + 1
  | [], at_ => by unfold freeL; split <;> simp
  | s :: l, at_ => by
    have h1 := freeL_length least y l s.f1
    have h2 := freeL_length least y l at_
    unfold freeL
    split
    · split
      · simp; omega
      · simp; omega
    · simp; omega

/-- The document's way: with a span at the end. -/
def freeR (least : Int) : List S44 → Int → List S44
  | [], _ => []
  | s :: l, at_ => if s.f2 = 1 then freeR least l at_ else if wrap64 (s.f0 - at_) ≥ least then ⟨at_, s.f0, 0⟩ :: freeR least l s.f1 else freeR least l s.f1
theorem freeR_eq (least y : Int) : ∀ (l : List S44) (at_ : Int), (∀ s, s ∈ l → 1 ≤ s.f2) → freeR least (l ++ [⟨y, y, 3⟩]) at_ = freeL least y l at_
  | [], at_, _ => by
    show (if (3 : Int) = 1 then _ else if wrap64 (y - at_) ≥ least then _ else _) = (if least ≤ wrap64 (y - at_) then _ else _)
    rw [if_neg (by decide)]
    rfl
  | s :: l, at_, h => by
    have ih := fun a => freeR_eq least y l a (fun x hx => h x (List.mem_cons_of_mem _ hx))
    have h1 := h s List.mem_cons_self
    show (if s.f2 = 1 then freeR least (l ++ [⟨y, y, 3⟩]) at_ else if wrap64 (s.f0 - at_) ≥ least then ⟨at_, s.f0, 0⟩ :: freeR least (l ++ [⟨y, y, 3⟩]) s.f1 else freeR least (l ++ [⟨y, y, 3⟩]) s.f1) = _
    rw [ih, ih]
    by_cases c : 2 ≤ s.f2
    · rw [if_neg (by omega)]
      exact (if_pos c).symm
    · rw [if_pos (by omega)]
      exact (if_neg c).symm

theorem free_loop (least e : Int) (l : List S44) (hn : l.length ≤ 1000000) : ∀ (suf acc : List S44) (i : Nat) (at_ : Int), l.drop i = suf → acc.length ≤ i →
    Ev (fun k => posthornref24_Free.l0 k least e (acc.map as8) at_ (l.map as8) (i : Int)) ((acc ++ freeR least suf at_).map as8, e) := by
  have hl : (l.map as8).length = l.length := List.length_map ..
  have a0 : ∀ u : S44, (as8 u).f0 = u.f0 := fun _ => rfl
  have a1 : ∀ u : S44, (as8 u).f1 = u.f1 := fun _ => rfl
  have a2 : ∀ u : S44, (as8 u).f2 = u.f2 := fun _ => rfl
  intro suf
  induction suf with
  | nil =>
    intro acc i at_ hd _
    have := drop_nil hd
    refine Ev.step (f := fun _ => some ((acc ++ freeR least [] at_).map as8, e)) (fun k => ?_) (Ev.now _)
    simp only [posthornref24_Free.l0, freeR, List.append_nil, hl]
    rw [if_neg (by omega)]
  | cons s suf ih =>
    intro acc i at_ hd ha
    obtain ⟨hi, hs, hd'⟩ := drop_cons hd
    have hw := wrapS hi (by omega)
    have hal : (acc.map as8).length = acc.length := List.length_map ..
    by_cases c1 : s.f2 = 1
    · have ev : freeR least (s :: suf) at_ = freeR least suf at_ := if_pos c1
      rw [ev]
      refine Ev.step (fun k => ?_) (ih acc (i + 1) at_ hd' (by omega))
      simp only [posthornref24_Free.l0, hl, rd48_map, a0, a1, a2]
      rw [if_pos (by omega), if_pos (by omega), hs, if_pos c1, hw]
    · by_cases c2 : wrap64 (s.f0 - at_) ≥ least
      · have ev : acc ++ freeR least (s :: suf) at_ = (acc ++ [⟨at_, s.f0, 0⟩]) ++ freeR least suf s.f1 := by
          show acc ++ (if s.f2 = 1 then _ else if wrap64 (s.f0 - at_) ≥ least then _ else _) = _
          rw [if_neg c1, if_pos c2, List.append_assoc]
          rfl
        rw [ev]
        refine Ev.step (fun k => ?_) (ih (acc ++ [⟨at_, s.f0, 0⟩]) (i + 1) s.f1 hd' (by simp; omega))
        simp only [posthornref24_Free.l0, hl, rd48_map, hal, List.map_append, List.map_cons, List.map_nil, as8]
        rw [if_pos (by omega), if_pos (by omega), hs, if_neg c1, if_pos c2, if_pos (by omega), hw]
      · have ev : freeR least (s :: suf) at_ = freeR least suf s.f1 := by
          show (if s.f2 = 1 then _ else if wrap64 (s.f0 - at_) ≥ least then _ else _) = _
          rw [if_neg c1, if_neg c2]
        rw [ev]
        refine Ev.step (fun k => ?_) (ih acc (i + 1) s.f1 hd' (by omega))
        simp only [posthornref24_Free.l0, hl, rd48_map, a0, a1, a2]
        rw [if_pos (by omega), if_pos (by omega), hs, if_neg c1, if_neg c2, hw]

theorem clip_kinds (x y : Int) : ∀ (l : List S44), (∀ s, s ∈ l → okB s = true) → ∀ s, s ∈ clipL x y l → 1 ≤ s.f2
  | u :: l, h, s, hs => by
    have ih := clip_kinds x y l (fun x hx => h x (List.mem_cons_of_mem _ hx)) s
    have hu := okB_ge (h u List.mem_cons_self)
    by_cases c : mx u.f0 x < mn u.f1 y
    · rw [clip_pos c] at hs
      rcases List.mem_cons.mp hs with rfl | hs
      · show 1 ≤ u.f2; omega
      · exact ih hs
    · rw [clip_neg c] at hs
      exact ih hs
theorem fits_right {l : List S44} {x y : Int} (h : fitsV l x y = 0) : rightB l = true ∧ spanB x y = true := by
  unfold fitsV at h
  cases hr : rightB l with
  | false => rw [hr] at h; simp at h
  | true =>
    rw [hr] at h
    cases hs : spanB x y with
    | false => rw [hs] at h; simp at h
    | true => exact ⟨rfl, rfl⟩
theorem right_all {l : List S44} (h : rightB l = true) : (∀ s, s ∈ l → okB s = true) ∧ Math.Row (-1) 0 (l.map toSp) ∧ l.length ≤ 1024 := by
  unfold rightB at h
  rw [Bool.and_eq_true, decide_eq_true_iff] at h
  obtain ⟨h1, h2⟩ := h
  obtain ⟨h3, h4⟩ := (chain_iff _ _ _).mp h1
  exact ⟨h3, h4, h2⟩

def freeV (l : List S44) (x y least : Int) : List S44 × Int := if fitsV l x y = 0 then (if least < 1 then ([], 1) else (freeL least y (clipL x y l) x, 0)) else ([], fitsV l x y)
theorem Free_ev (l : List S44) (x y least : Int) (hn : l.length ≤ 10000) : Ev (fun k => busy_Free.f k l x y least) (freeV l x y least) := by
  unfold busy_Free.f freeV
  refine Ev.bind (fits_ev l x y (by omega)) ?_
  by_cases h : fitsV l x y = 0
  · simp only [if_pos h]
    by_cases c : least < 1
    · simp only [if_pos c]
      exact Ev.now _
    · simp only [if_neg c]
      have := clipL_length x y l
      refine Ev.bind (clip_ev l x y (by omega)) ?_
      rw [if_pos (by omega)]
      exact Ev.now _
  · simp only [if_neg h]
    exact Ev.now _
theorem rFree_ev (l : List S44) (x y least : Int) (hn : l.length ≤ 10000) : Ev (fun k => posthornref24_Free.f k (l.map as8) x y least) ((freeV l x y least).1.map as8, (freeV l x y least).2) := by
  unfold posthornref24_Free.f freeV
  refine Ev.bind (may_ev l x y (by omega)) ?_
  by_cases h : fitsV l x y = 0
  · simp only [if_pos h]
    by_cases c : least < 1
    · simp only [if_pos c]
      exact Ev.now _
    · simp only [if_neg c]
      have hc := clipL_length x y l
      refine Ev.bind (between_ev l x y (by omega)) ?_
      have hl : ((clipL x y l).map as8).length = (clipL x y l).length := List.length_map ..
      simp only [if_pos (show ((clipL x y l).map as8).length < 5864062014805 by omega)]
      have e : (clipL x y l).map as8 ++ [(⟨y, y, 3⟩ : S48)] = (clipL x y l ++ [(⟨y, y, 3⟩ : S44)]).map as8 := by simp [as8]
      rw [e, h]
      have hk := clip_kinds x y l (right_all (fits_right h).1).1
      have := free_loop least 0 (clipL x y l ++ [⟨y, y, 3⟩]) (by simp; omega) _ [] 0 x rfl (Nat.le_refl _)
      rw [List.drop_zero, freeR_eq least y _ x hk] at this
      exact this
  · simp only [if_neg h]
    exact Ev.now _

theorem rclash_loop (l : List S44) (e : Int) (hn : l.length ≤ 1000000) : ∀ (suf : List S44) (i : Nat), l.drop i = suf → Ev (fun k => posthornref24_Clash.l0 k (l.map as8) e (i : Int)) (Lists.anyB suf, e) := by
  have hl : (l.map as8).length = l.length := List.length_map ..
  have a2 : ∀ u : S44, (as8 u).f2 = u.f2 := fun _ => rfl
  intro suf
  induction suf with
  | nil =>
    intro i hd
    have := drop_nil hd
    refine Ev.step (f := fun _ => some (false, e)) (fun k => ?_) (Ev.now _)
    simp only [posthornref24_Clash.l0, hl]
    rw [if_neg (by omega)]
  | cons s suf ih =>
    intro i hd
    obtain ⟨hi, hs, hd'⟩ := drop_cons hd
    have hw := wrapS hi (by omega)
    by_cases c : 2 ≤ s.f2
    · have ev : Lists.anyB (s :: suf) = true := by simp [Lists.anyB, c]
      rw [ev]
      refine Ev.step (f := fun _ => some (true, e)) (fun k => ?_) (Ev.now _)
      simp only [posthornref24_Clash.l0, hl, rd48_map, a2]
      rw [if_pos (by omega), if_pos (by omega), hs, if_pos (by omega)]
    · have ev : Lists.anyB (s :: suf) = Lists.anyB suf := by simp [Lists.anyB, c]
      rw [ev]
      refine Ev.step (fun k => ?_) (ih (i + 1) hd')
      simp only [posthornref24_Clash.l0, hl, rd48_map, a2]
      rw [if_pos (by omega), if_pos (by omega), hs, if_neg (by omega), hw]
theorem rClash_ev (l : List S44) (x y : Int) (hn : l.length ≤ 10000) : Ev (fun k => posthornref24_Clash.f k (l.map as8) x y) (if fitsV l x y = 0 then (Lists.anyB (clipL x y l), 0) else (false, fitsV l x y)) := by
  unfold posthornref24_Clash.f
  refine Ev.bind (rClip_ev l x y (by omega)) ?_
  have := clipL_length x y l
  by_cases h : fitsV l x y = 0
  · simp only [if_pos h]
    exact rclash_loop _ 0 (by omega) _ 0 rfl
  · simp only [if_neg h]
    exact rclash_loop [] _ (by decide) _ 0 rfl

theorem pure (l : List S44) (x y least : Int) : ∃ k, posthornlaw24_BusyFrees.f k l x y least = some true := by
  refine Ev.rounds (g := fun k => posthornlaw24_BusyFrees.f k l x y least) ?_
  unfold posthornlaw24_BusyFrees.f
  rw [many_f]
  simp only [Option.bind_some]
  by_cases hm : 120 < l.length ∧ l.length ≤ 4096 ∨ 4200 < l.length
  · rw [decide_eq_true hm]
    simp only [if_true]
    exact Ev.bind alive_ev (Ev.now _)
  · rw [decide_eq_false hm]
    simp only [Bool.false_eq_true, if_false]
    have hn : l.length ≤ 4200 := by omega
    have hf : (freeV l x y least).1.length ≤ 10000 := by
      have := clipL_length x y l
      have := freeL_length least y (clipL x y l) x
      unfold freeV
      split
      · split
        · simp
        · show (freeL least y (clipL x y l) x).length ≤ _; omega
      · simp
    refine Ev.bind (Free_ev l x y least (by omega)) (Ev.bind (as_ev l (by omega)) (Ev.bind (rFree_ev l x y least (by omega)) (Ev.bind (Clash_ev l x y (by omega)) (Ev.bind (as_ev l (by omega)) (Ev.bind (rClash_ev l x y (by omega)) (Ev.bind alive_ev ?_))))))
    simp only [if_true]
    refine Ev.bind (as_ev _ (by omega)) (Ev.bind (same_ev _ (by simp; omega)) ?_)
    simp only [if_true, beq_self_eq_true]
    exact Ev.now _
end Go.Proofs.Ytalepohjmjlndaa.FreesPure

/- What asks whether a zone may be comes to an end, whatever the zone; and what a zone that may be is made of. -/
import Derived.Test.YtlplmkllmgdifaaCal
namespace Go.Proofs.Ytlplmkllmgdifaa.Total
open Go.RowKit Go.Proofs.YtlplmkllmgdifaaW.PrintWords Go.Proofs.YtlplmkllmgdifaaW.PrintLast Go.Proofs.YtlplmkllmgdifaaW.PrintMore Go.Proofs.Ytlplmkllmgdifaa.PZ Go.Proofs.Ytlplmkllmgdifaa.Cal

/-- It comes to some value that is so. -/
def Fin {α : Type} (g : Nat → Option α) (p : α → Prop) : Prop := ∃ r, Ev g r ∧ p r
theorem fin_now {α : Type} {p : α → Prop} {r : α} (h : p r) : Fin (fun _ => some r) p := ⟨r, Ev.now r, h⟩
theorem fin_ev {α : Type} {g : Nat → Option α} {p : α → Prop} {r : α} (h : Ev g r) (hp : p r) : Fin g p := ⟨r, h, hp⟩
theorem fin_bind {α β : Type} {g : Nat → Option α} {f : Nat → α → Option β} {p : α → Prop} {q : β → Prop} (h : Fin g p) (k : ∀ a, p a → Fin (fun n => f n a) q) : Fin (fun n => (g n).bind (f n)) q := by
  obtain ⟨a, h1, h2⟩ := h
  obtain ⟨b, h3, h4⟩ := k a h2
  exact ⟨b, Ev.bind h1 h3, h4⟩
theorem fin_some {α β : Type} {a : α} {f : Nat → α → Option β} {q : β → Prop} (k : Fin (fun n => f n a) q) : Fin (fun n => (some a).bind (f n)) q := k
theorem fin_ite {α : Type} {c : Prop} [Decidable c] {f g : Nat → Option α} {q : α → Prop} (h1 : c → Fin f q) (h2 : ¬ c → Fin g q) : Fin (fun n => if c then f n else g n) q := by
  by_cases c0 : c
  · simp only [if_pos c0]
    exact h1 c0
  · simp only [if_neg c0]
    exact h2 c0
theorem fin_step {α : Type} {g f : Nat → Option α} {q : α → Prop} (h : ∀ k, g (k + 1) = f k) (k : Fin f q) : Fin g q := by
  obtain ⟨r, h1, h2⟩ := k
  exact ⟨r, Ev.step h h1, h2⟩
theorem fin_mono {α : Type} {g : Nat → Option α} {p q : α → Prop} (h : Fin g p) (hq : ∀ r, p r → q r) : Fin g q := by
  obtain ⟨r, h1, h2⟩ := h
  exact ⟨r, h1, hq r h2⟩

theorem get_drop {α : Type} {l : List α} {d s : α} {i : Nat} {suf : List α} (h : l.drop i = s :: suf) : i < l.length ∧ l.getD ((i : Nat) : Int).toNat d = s ∧ l.drop (i + 1) = suf := by
  have hi : i < l.length := by
    rcases Nat.lt_or_ge i l.length with h1 | h1
    · exact h1
    · rw [List.drop_eq_nil_of_le h1] at h; cases h
  rw [List.drop_eq_getElem_cons hi] at h
  injection h with h1 h2
  exact ⟨hi, by simp [hi, h1], h2⟩
theorem drop_nil {α : Type} {l : List α} {i : Nat} (h : l.drop i = []) : l.length ≤ i := List.drop_eq_nil_iff.mp h
theorem wrapS {i n : Nat} (h : i < n) (hn : n ≤ 9223372036854775807) : wrap64 ((i : Int) + 1) = ((i + 1 : Nat) : Int) := by unfold wrap64; omega

/-! ### Great -/
theorem great_loop (s : ByteArray) (b : Int) (l : List S42) (hn : l.length ≤ 9223372036854775807) : ∀ (suf : List S42) (i : Nat), l.drop i = suf → Fin (fun k => posthornlaw22_Great.l0 k (i : Int) s b l) (fun _ => True) := by
  intro suf
  induction suf with
  | nil =>
    intro i hd
    have := drop_nil hd
    refine fin_step (f := fun _ => some false) (fun k => ?_) (fin_now trivial)
    simp only [posthornlaw22_Great.l0]
    rw [if_neg (by omega)]
  | cons o suf ih =>
    intro i hd
    obtain ⟨hi, ho, hd'⟩ := get_drop (d := z42) hd
    have hw := wrapS hi hn
    have nxt := ih (i + 1) hd'
    obtain ⟨t, ht⟩ : ∃ t, posthornlaw21_Great.f o.f4.f0 o.f4.f1 o.f4.f2 o.f4.f3 o.f4.f4 o.f4.f5 o.f4.f6 = some t := by
      unfold posthornlaw21_Great.f
      split <;> exact ⟨_, rfl⟩
    refine fin_step (f := fun k => if t = true then some true else posthornlaw22_Great.l0 k ((i + 1 : Nat) : Int) s b l) (fun k => ?_) (fin_ite (fun _ => fin_now trivial) (fun _ => nxt))
    simp only [posthornlaw22_Great.l0]
    rw [if_pos (by omega), if_pos (by omega), show rd_T42 l (i : Int) = o from ho, ht, hw]
    rfl
theorem great_fin (s : ByteArray) (b : Int) (l : List S42) (t : Int) (hn : l.length ≤ 9223372036854775807) : Fin (fun k => posthornlaw22_Great.f k s b l t) (fun _ => True) := by
  have j : ∀ x, Fin (fun k => posthornlaw22_Great.j0 k x s b l) (fun _ => True) := fun x =>
    fin_step (fun k => by simp only [posthornlaw22_Great.j0]; rfl) (fin_ite (fun _ => fin_now trivial) (fun _ => great_loop s b l hn l 0 rfl))
  unfold posthornlaw22_Great.f
  exact fin_ite (fun _ => j _) (fun _ => fin_ite (fun _ => j _) (fun _ => j _))

/-! ### rises, Right of a rule -/
theorem rises_loop (l : List Int) (lo hi_ : Int) (hn : l.length ≤ 9223372036854775807) : ∀ (suf : List Int) (i : Nat), l.drop i = suf → Fin (fun k => recur_rises.l0 k l lo hi_ l (l.length : Int) (i : Int)) (fun r => r = true → ∀ x, x ∈ suf → lo ≤ x ∧ x ≤ hi_) := by
  intro suf
  induction suf with
  | nil =>
    intro i hd
    have := drop_nil hd
    refine fin_step (f := fun _ => some true) (fun k => ?_) (fin_now (fun _ x hx => by cases hx))
    simp only [recur_rises.l0]
    rw [if_neg (by omega)]
  | cons o suf ih =>
    intro i hd
    obtain ⟨hi, ho, hd'⟩ := get_drop (d := (0 : Int)) hd
    have hw := wrapS hi hn
    have nxt := ih (i + 1) hd'
    have ho' : rd l (i : Int) = o := ho
    refine fin_step (f := fun k => if o < lo then some false else if o > hi_ then some false else if o = 0 then some false else if (i : Int) > 0 then (if rd l (wrap64 ((i : Int) - 1)) ≥ o then some false else recur_rises.l0 k l lo hi_ l (l.length : Int) ((i + 1 : Nat) : Int)) else recur_rises.l0 k l lo hi_ l (l.length : Int) ((i + 1 : Nat) : Int)) (fun k => ?_) ?_
    · simp only [recur_rises.l0]
      rw [if_pos (by omega), if_pos (by omega), if_pos (by omega), ho', hw]
      by_cases c : (i : Int) > 0
      · have e : wrap64 ((i : Int) - 1) = (i : Int) - 1 := by unfold wrap64; omega
        rw [if_pos c, if_pos c, e, if_pos (show 0 ≤ (i : Int) - 1 by omega), if_pos (show (i : Int) - 1 < (l.length : Int) by omega)]
      · rw [if_neg c, if_neg c]
    · have no : Fin (fun _ => some false) (fun r => r = true → ∀ x, x ∈ o :: suf → lo ≤ x ∧ x ≤ hi_) := fin_now (fun h => by cases h)
      refine fin_ite (fun _ => no) (fun c1 => fin_ite (fun _ => no) (fun c2 => fin_ite (fun _ => no) (fun _ => ?_)))
      have go : Fin (fun k => recur_rises.l0 k l lo hi_ l (l.length : Int) ((i + 1 : Nat) : Int)) (fun r => r = true → ∀ x, x ∈ o :: suf → lo ≤ x ∧ x ≤ hi_) :=
        fin_mono nxt (fun r h hr x hx => by
          rcases List.mem_cons.mp hx with rfl | hx
          · omega
          · exact h hr x hx)
      exact fin_ite (fun _ => fin_ite (fun _ => no) (fun _ => go)) (fun _ => go)
theorem rises_fin (l : List Int) (lo hi_ : Int) (hn : l.length ≤ 9223372036854775807) : Fin (fun k => recur_rises.f k l lo hi_) (fun r => r = true → ∀ x, x ∈ l → lo ≤ x ∧ x ≤ hi_) := rises_loop l lo hi_ hn l 0 rfl

def okDay (x : S79) : Prop := 0 ≤ x.f0 ∧ x.f0 ≤ 6 ∧ -5 ≤ x.f1 ∧ x.f1 ≤ 5
section
variable (x3 : Bool) (r0 r1 r2 r3 : Int) (r4 r5 : List Int) (r6 : List S79)
theorem week_loop (hn : r6.length ≤ 9223372036854775807) : ∀ (suf : List S79) (i : Nat), r6.drop i = suf → Fin (fun k => recur_Right.l0 k x3 r6 (r6.length : Int) (i : Int) r0 r1 r2 r3 r4 r5 r6) (fun r => r = true → ∀ x, x ∈ suf → okDay x) := by
  intro suf
  induction suf with
  | nil =>
    intro i hd
    have := drop_nil hd
    refine fin_step (f := fun _ => some true) (fun k => ?_) (fin_now (fun _ x hx => by cases hx))
    simp only [recur_Right.l0]
    rw [if_neg (by omega)]
  | cons o suf ih =>
    intro i hd
    obtain ⟨hi, ho, hd'⟩ := get_drop (d := z79) hd
    have hw := wrapS hi hn
    have nxt := ih (i + 1) hd'
    have ho' : rd_T79 r6 (i : Int) = o := ho
    have no : Fin (fun _ => some false) (fun r => r = true → ∀ x, x ∈ o :: suf → okDay x) := fin_now (fun h => by cases h)
    have j4 : ∀ z : Bool, (z = false → okDay o) → Fin (fun k => recur_Right.j4 k x3 (i : Int) r6 (r6.length : Int) (i : Int) z r0 r1 r2 r3 r4 r5 r6 o.f0 o.f1) (fun r => r = true → ∀ x, x ∈ o :: suf → okDay x) := by
      intro z hz
      cases z with
      | true =>
        refine fin_step (f := fun _ => some false) (fun k => ?_) no
        simp only [recur_Right.j4]
        rfl
      | false =>
        have go : Fin (fun k => recur_Right.l0 k x3 r6 (r6.length : Int) ((i + 1 : Nat) : Int) r0 r1 r2 r3 r4 r5 r6) (fun r => r = true → ∀ x, x ∈ o :: suf → okDay x) :=
          fin_mono nxt (fun r h hr x hx => by
            rcases List.mem_cons.mp hx with rfl | hx
            · exact hz rfl
            · exact h hr x hx)
        obtain ⟨t, ht⟩ : ∃ t, recur_order.f (rd_T79 r6 (wrap64 ((i : Int) - 1))).f0 (rd_T79 r6 (wrap64 ((i : Int) - 1))).f1 o.f0 o.f1 = some t := by
          unfold recur_order.f
          split <;> exact ⟨_, rfl⟩
        refine fin_step (f := fun k => if (i : Int) > 0 then (if t ≥ 0 then some false else recur_Right.l0 k x3 r6 (r6.length : Int) ((i + 1 : Nat) : Int) r0 r1 r2 r3 r4 r5 r6) else recur_Right.l0 k x3 r6 (r6.length : Int) ((i + 1 : Nat) : Int) r0 r1 r2 r3 r4 r5 r6) (fun k => ?_) (fin_ite (fun _ => fin_ite (fun _ => no) (fun _ => go)) (fun _ => go))
        simp only [recur_Right.j4, ht, Option.bind_some, hw, Bool.false_eq_true, if_false]
        by_cases c : (i : Int) > 0
        · have e : wrap64 ((i : Int) - 1) = (i : Int) - 1 := by unfold wrap64; omega
          rw [if_pos c, if_pos c, e, if_pos (by omega), if_pos (by omega)]
        · rw [if_neg c, if_neg c]
    refine fin_step (fun k => by simp only [recur_Right.l0]; rw [if_pos (show (i : Int) < (r6.length : Int) by omega), if_pos (show (0 : Int) ≤ (i : Int) by omega), if_pos (show (i : Int) < (r6.length : Int) by omega), ho']) ?_
    refine fin_ite (fun _ => j4 true (fun h => by cases h)) (fun c1 => fin_ite (fun _ => j4 true (fun h => by cases h)) (fun c2 => fin_ite (fun _ => j4 true (fun h => by cases h)) (fun c3 => fin_ite (fun _ => j4 true (fun h => by cases h)) (fun c4 => ?_))))
    have good : okDay o := by unfold okDay; omega
    exact fin_ite (fun _ => j4 false (fun _ => good)) (fun _ => j4 _ (fun _ => good))
theorem right_j2 (hn : r6.length ≤ 9223372036854775807) (z : Bool) : Fin (fun k => recur_Right.j2 k x3 z r0 r1 r2 r3 r4 r5 r6) (fun r => r = true → z = false ∧ ∀ x, x ∈ r6 → okDay x) := by
  cases z with
  | true =>
    refine fin_step (f := fun _ => some false) (fun k => ?_) (fin_now (fun h => by cases h))
    simp only [recur_Right.j2]
    rfl
  | false =>
    refine fin_step (fun k => ?_) (fin_mono (week_loop x3 r0 r1 r2 r3 r4 r5 r6 hn r6 0 rfl) (fun r h hr => ⟨rfl, h hr⟩))
    simp only [recur_Right.j2]
    rfl
def okRule : Prop := (∀ x, x ∈ r4 → 1 ≤ x ∧ x ≤ 12) ∧ ∀ x, x ∈ r6 → okDay x
theorem right_j1 (h4 : r4.length ≤ 9223372036854775807) (h5 : r5.length ≤ 9223372036854775807) (hn : r6.length ≤ 9223372036854775807) (z : Bool) : Fin (fun k => recur_Right.j1 k x3 z r0 r1 r2 r3 r4 r5 r6) (fun r => r = true → okRule r4 r6) := by
  have bad : Fin (fun k => recur_Right.j2 k x3 true r0 r1 r2 r3 r4 r5 r6) (fun r => r = true → okRule r4 r6) := fin_mono (right_j2 x3 r0 r1 r2 r3 r4 r5 r6 hn true) (fun r h hr => by have := (h hr).1; cases this)
  have good : ∀ z', (∀ x, x ∈ r4 → 1 ≤ x ∧ x ≤ 12) → Fin (fun k => recur_Right.j2 k x3 z' r0 r1 r2 r3 r4 r5 r6) (fun r => r = true → okRule r4 r6) := fun z' h1 => fin_mono (right_j2 x3 r0 r1 r2 r3 r4 r5 r6 hn z') (fun r h hr => ⟨h1, (h hr).2⟩)
  have rest : Fin (fun k => (recur_rises.f k r4 1 12).bind fun t110 => (if t110 = true then ((recur_rises.f k r5 (-31) 31).bind fun t111 => (if t111 = true then (if x3 = true then (recur_Right.j2 k x3 false r0 r1 r2 r3 r4 r5 r6) else (recur_Right.j2 k x3 (decide ((r5.length : Int) > 0)) r0 r1 r2 r3 r4 r5 r6)) else (recur_Right.j2 k x3 true r0 r1 r2 r3 r4 r5 r6))) else (recur_Right.j2 k x3 true r0 r1 r2 r3 r4 r5 r6))) (fun r => r = true → okRule r4 r6) :=
    fin_bind (rises_fin r4 1 12 h4) (fun t ht => fin_ite (fun e => fin_bind (rises_fin r5 (-31) 31 h5) (fun u _ => fin_ite (fun _ => fin_ite (fun _ => good _ (ht e)) (fun _ => good _ (ht e))) (fun _ => bad))) (fun _ => bad))
  refine fin_step (fun k => by simp only [recur_Right.j1]; rfl) ?_
  refine fin_ite (fun _ => fin_now (fun h => by cases h)) (fun _ => fin_ite (fun _ => rest) (fun _ => ?_))
  have hw : ∃ t, when_Right.f r3 = some t := by
    unfold when_Right.f
    split <;> exact ⟨_, rfl⟩
  obtain ⟨t, ht⟩ := hw
  simp only [ht, Option.bind_some]
  exact fin_ite (fun _ => fin_ite (fun _ => rest) (fun _ => bad)) (fun _ => bad)
theorem rule_fin (h4 : r4.length ≤ 9223372036854775807) (h5 : r5.length ≤ 9223372036854775807) (hn : r6.length ≤ 9223372036854775807) : Fin (fun k => recur_Right.f k r0 r1 r2 r3 r4 r5 r6) (fun r => r = true → okRule r4 r6) := by
  have j0 : ∀ y, Fin (fun k => recur_Right.j0 k y r0 r1 r2 r3 r4 r5 r6) (fun r => r = true → okRule r4 r6) := by
    intro y
    have j1 := fun z => right_j1 y r0 r1 r2 r3 r4 r5 r6 h4 h5 hn z
    refine fin_step (fun k => by simp only [recur_Right.j0]; rfl) ?_
    exact fin_ite (fun _ => j1 _) (fun _ => fin_ite (fun _ => j1 _) (fun _ => fin_ite (fun _ => j1 _) (fun _ => fin_ite (fun _ => j1 _) (fun _ => fin_ite (fun _ => j1 _) (fun _ => j1 _)))))
  unfold recur_Right.f
  exact fin_ite (fun _ => j0 _) (fun _ => j0 _)
end

/-! ### an onset, a zone -/
/-- What an onset that may be is made of. -/
structure okOn (o : S42) : Prop where
  s0 : 0 ≤ o.f0
  s1 : o.f0 ≤ 253402300799
  f0 : -86399 ≤ o.f1
  f1 : o.f1 ≤ 86399
  t0 : -86399 ≤ o.f2
  t1 : o.f2 ≤ 86399
  rep : o.f3 = true → ∃ m d, o.f4.f4 = [m] ∧ o.f4.f6 = [d] ∧ 1 ≤ m ∧ m ≤ 12 ∧ okDay d ∧ d.f1 ≠ 0
theorem repeats_fin (r0 r1 r2 r3 : Int) (r4 r5 : List Int) (r6 : List S79) (h4 : r4.length ≤ 9223372036854775807) (h5 : r5.length ≤ 9223372036854775807) (h6 : r6.length ≤ 9223372036854775807) :
    Fin (fun k => zone_repeats.f k r0 r1 r2 r3 r4 r5 r6) (fun r => r = true → ∃ m d, r4 = [m] ∧ r6 = [d] ∧ 1 ≤ m ∧ m ≤ 12 ∧ okDay d ∧ d.f1 ≠ 0) := by
  have no : Fin (fun _ => some false) (fun r => r = true → ∃ m d, r4 = [m] ∧ r6 = [d] ∧ 1 ≤ m ∧ m ≤ 12 ∧ okDay d ∧ d.f1 ≠ 0) := fin_now (fun h => by cases h)
  unfold zone_repeats.f
  refine fin_bind (rule_fin r0 r1 r2 r3 r4 r5 r6 h4 h5 h6) (fun t ht => fin_ite (fun e => ?_) (fun _ => no))
  obtain ⟨g4, g6⟩ := ht e
  refine fin_ite (fun _ => fin_ite (fun _ => fin_ite (fun _ => fin_ite (fun e4 => fin_ite (fun _ => fin_ite (fun e6 => ?_) (fun _ => no)) (fun _ => no)) (fun _ => no)) (fun _ => no)) (fun _ => no)) (fun _ => no)
  simp only [if_pos (show 0 < (r6.length : Int) by omega)]
  refine fin_ite (fun _ => no) (fun c => fin_ite (fun _ => fin_now (fun _ => ?_)) (fun _ => no))
  match r4, r6, e4, e6 with
  | [m], [d], _, _ =>
    have := g4 m List.mem_cons_self
    exact ⟨m, d, rfl, rfl, this.1, this.2, g6 d List.mem_cons_self, c⟩
theorem zero_some (r0 r1 r2 r3 : Int) (r4 r5 : List Int) (r6 : List S79) : ∃ t, zone_zero.f r0 r1 r2 r3 r4 r5 r6 = some t := by
  unfold zone_zero.f
  split
  · split
    · split
      · split <;> exact ⟨_, rfl⟩
      · exact ⟨_, rfl⟩
    · exact ⟨_, rfl⟩
  · exact ⟨_, rfl⟩
theorem when_f (t : Int) : when_Right.f t = some (decide (0 ≤ t ∧ t ≤ 253402300799)) := by
  unfold when_Right.f
  by_cases c : t ≥ 0
  · rw [if_pos c]
    congr 1
    rw [decide_eq_decide]
    omega
  · rw [if_neg c, decide_eq_false (by omega)]
theorem shift_f (t : Int) : zone_isShift.f t = some (decide (-86399 ≤ t ∧ t ≤ 86399)) := by
  unfold zone_isShift.f
  by_cases c : t ≥ (-86399)
  · rw [if_pos c]
    congr 1
    rw [decide_eq_decide]
    omega
  · rw [if_neg c, decide_eq_false (by omega)]
def small (o : S42) : Prop := o.f4.f4.length ≤ 9223372036854775807 ∧ o.f4.f5.length ≤ 9223372036854775807 ∧ o.f4.f6.length ≤ 9223372036854775807
theorem onset_fin (o : S42) (hs : small o) : Fin (fun k => zone_Onset_right.f k o.f0 o.f1 o.f2 o.f3 o.f4.f0 o.f4.f1 o.f4.f2 o.f4.f3 o.f4.f4 o.f4.f5 o.f4.f6) (fun r => r = true → okOn o) := by
  have j0 : ∀ z : Bool, (z = false → 0 ≤ o.f0 ∧ o.f0 ≤ 253402300799 ∧ -86399 ≤ o.f1 ∧ o.f1 ≤ 86399 ∧ -86399 ≤ o.f2 ∧ o.f2 ≤ 86399) → Fin (fun k => zone_Onset_right.j0 k z o.f0 o.f1 o.f2 o.f3 o.f4.f0 o.f4.f1 o.f4.f2 o.f4.f3 o.f4.f4 o.f4.f5 o.f4.f6) (fun r => r = true → okOn o) := by
    intro z hz
    cases z with
    | true =>
      refine fin_step (f := fun _ => some false) (fun k => ?_) (fin_now (fun h => by cases h))
      simp only [zone_Onset_right.j0]
      rfl
    | false =>
      obtain ⟨a, b, c, d, e, f⟩ := hz rfl
      refine fin_step (f := fun k => if o.f3 = true then ((zone_repeats.f k o.f4.f0 o.f4.f1 o.f4.f2 o.f4.f3 o.f4.f4 o.f4.f5 o.f4.f6).bind fun t129 => (some t129)) else ((zone_zero.f o.f4.f0 o.f4.f1 o.f4.f2 o.f4.f3 o.f4.f4 o.f4.f5 o.f4.f6).bind fun t130 => (some t130))) (fun k => by simp only [zone_Onset_right.j0]; rfl) ?_
      refine fin_ite (fun e3 => fin_bind (repeats_fin _ _ _ _ _ _ _ hs.1 hs.2.1 hs.2.2) (fun t ht => fin_now (fun h => ⟨a, b, c, d, e, f, fun _ => ht h⟩))) (fun e3 => ?_)
      obtain ⟨t, ht⟩ := zero_some o.f4.f0 o.f4.f1 o.f4.f2 o.f4.f3 o.f4.f4 o.f4.f5 o.f4.f6
      simp only [ht, Option.bind_some]
      exact fin_now (fun _ => ⟨a, b, c, d, e, f, fun h => absurd h e3⟩)
  unfold zone_Onset_right.f
  simp only [when_f, shift_f, Option.bind_some]
  refine fin_ite (fun c1 => fin_ite (fun c2 => j0 _ (fun c3 => ?_)) (fun _ => j0 true (fun h => by cases h))) (fun _ => j0 true (fun h => by cases h))
  have h1 := of_decide_eq_true c1
  have h2 := of_decide_eq_true c2
  have h3 : -86399 ≤ o.f2 ∧ o.f2 ≤ 86399 := by simpa using c3
  omega
theorem bad_loop (l : List S42) (hn : l.length ≤ 9223372036854775807) (hs : ∀ o, o ∈ l → small o) : ∀ (suf : List S42) (i : Nat), l.drop i = suf → Fin (fun k => zone_Onset_49.l0 k l (l.length : Int) (i : Int)) (fun r => ¬ r ≥ 0 → ∀ o, o ∈ suf → okOn o) := by
  intro suf
  induction suf with
  | nil =>
    intro i hd
    have := drop_nil hd
    refine fin_step (f := fun _ => some (-1)) (fun k => ?_) (fin_now (fun _ x hx => by cases hx))
    simp only [zone_Onset_49.l0]
    rw [if_neg (by omega)]
  | cons o suf ih =>
    intro i hd
    obtain ⟨hi, ho, hd'⟩ := get_drop (d := z42) hd
    have hw := wrapS hi hn
    have nxt := ih (i + 1) hd'
    have ho' : rd_T42 l (i : Int) = o := ho
    have hmem : o ∈ l := by
      have : o ∈ l.drop i := by rw [hd]; exact List.mem_cons_self
      exact List.mem_of_mem_drop this
    refine fin_step (f := fun k => ((zone_Onset_right.f k o.f0 o.f1 o.f2 o.f3 o.f4.f0 o.f4.f1 o.f4.f2 o.f4.f3 o.f4.f4 o.f4.f5 o.f4.f6).bind fun t132 => (some (!t132))).bind fun t134 => (if t134 = true then (some (i : Int)) else (zone_Onset_49.l0 k l (l.length : Int) ((i + 1 : Nat) : Int)))) (fun k => ?_) ?_
    · simp only [zone_Onset_49.l0, zone_Right_1.f]
      rw [if_pos (by omega), if_pos (by omega), if_pos (by omega), ho', hw]
    · refine fin_bind (p := fun t => t = false → okOn o) (fin_bind (onset_fin o (hs o hmem)) (fun t ht => fin_now (fun h => ht (by simpa using h)))) (fun t ht => fin_ite (fun _ => fin_now (fun h => absurd (by omega) h)) (fun e => fin_mono nxt (fun r h hr x hx => ?_)))
      rcases List.mem_cons.mp hx with rfl | hx
      · exact ht (by simpa using e)
      · exact h hr x hx
theorem name_loop (s : ByteArray) (hn : s.size ≤ 9223372036854775807) : ∀ (n i : Nat), i + n = s.size → Fin (fun k => zone_isName.l0 k s (s.size : Int) (i : Int)) (fun _ => True) := by
  intro n
  induction n with
  | zero =>
    intro i hi
    refine fin_step (f := fun _ => if s.toList = ([] : List UInt8) then (some false) else (some (decide ((s.size : Int) ≤ 64)))) (fun k => ?_) (fin_ite (fun _ => fin_now trivial) (fun _ => fin_now trivial))
    simp only [zone_isName.l0]
    rw [if_neg (by omega)]
  | succ n ih =>
    intro i hi
    have hw : wrap64 ((i : Int) + 1) = ((i + 1 : Nat) : Int) := wrapS (n := s.size) (by omega) hn
    refine fin_step (f := fun k => (if (bt s i) < 33 then (some false) else (if (bt s i) > 126 then (some false) else (if (bt s i) = 92 then (some false) else (if (bt s i) = 59 then (some false) else (if (bt s i) = 44 then (some false) else (zone_isName.l0 k s (s.size : Int) ((i + 1 : Nat) : Int)))))))) (fun k => ?_)
      (fin_ite (fun _ => fin_now trivial) (fun _ => fin_ite (fun _ => fin_now trivial) (fun _ => fin_ite (fun _ => fin_now trivial) (fun _ => fin_ite (fun _ => fin_now trivial) (fun _ => fin_ite (fun _ => fin_now trivial) (fun _ => ih (i + 1) (by omega)))))))
    simp only [zone_isName.l0]
    rw [if_pos (by omega), if_pos (by omega), if_pos (by omega), hw]
/-- A zone that may be. -/
structure okZone (b : Int) (l : List S42) : Prop where
  b0 : -86399 ≤ b
  b1 : b ≤ 86399
  n0 : 1 ≤ l.length
  n1 : l.length ≤ 8
  all : ∀ o, o ∈ l → okOn o
theorem right_fin (s : ByteArray) (b : Int) (l : List S42) (hs : s.size ≤ 9223372036854775807) (hn : l.length ≤ 9223372036854775807) (hl : ∀ o, o ∈ l → small o) : Fin (fun k => zone_Right.f k s b l) (fun r => r = true → okZone b l) := by
  have no : Fin (fun _ => some false) (fun r => r = true → okZone b l) := fin_now (fun h => by cases h)
  unfold zone_Right.f
  refine fin_bind (p := fun t => t = false → ∀ o, o ∈ l → okOn o) ?_ (fun t ht => fin_bind (name_loop s hs s.size 0 (by omega)) (fun u _ => fin_ite (fun _ => ?_) (fun _ => no)))
  · unfold zone_Onset_32.f zone_Onset_49.f
    exact fin_bind (bad_loop l hn hl l 0 rfl) (fun r hr => fin_now (fun h => hr (by simpa using h)))
  · simp only [shift_f, Option.bind_some]
    refine fin_ite (fun c => fin_ite (fun c1 => fin_ite (fun c2 => fin_now (fun h => ?_)) (fun _ => no)) (fun _ => no)) (fun _ => no)
    have := of_decide_eq_true c
    exact ⟨this.1, this.2, by omega, by omega, ht (by simpa using h)⟩
end Go.Proofs.Ytlplmkllmgdifaa.Total

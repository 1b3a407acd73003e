/- The program's calendar, matching and times, and the document's: they agree. -/
import Derived.Test.YtbeihceeliifeaaGreatDoorPla
import Derived.Test.YtbeihceeliifeaaGreatDoorPRx14
import Derived.Test.YtbeihceeliifeaaGreatDoorPRx11
import Derived.Test.YtbeihceeliifeaaGreatDoorPRx16
/- The program's calendar and matching, and the document's: they agree. -/
set_option linter.unusedVariables false
namespace Go.Proofs.YtbeihceeliifeaaGreatDoor.Agree
open Go.RowKit Go.Proofs.YtbeihceeliifeaaGreatDoorW.PrintWords Go.Proofs.YtbeihceeliifeaaGreatDoorW.PrintLast Go.Proofs.YtbeihceeliifeaaGreatDoorW.PrintMore Go.Proofs.YtbeihceeliifeaaGreatDoor.PR Go.Proofs.YtbeihceeliifeaaGreatDoor.Cal Go.Proofs.YtbeihceeliifeaaGreatDoor.Base Go.Proofs.YtbeihceeliifeaaGreatDoor.Match

/-- Both come to one value. -/
def Both {α : Type} (g h : Nat → Option α) : Prop := ∃ r, Ev g r ∧ Ev h r
theorem both_now {α : Type} (r : α) : Both (fun _ => some r) (fun _ => some r) := ⟨r, Ev.now _, Ev.now _⟩
theorem both_ev {α : Type} {g h : Nat → Option α} {r : α} (h1 : Ev g r) (h2 : Ev h r) : Both g h := ⟨r, h1, h2⟩
theorem both_bind {α β : Type} {g h : Nat → Option α} {f f' : Nat → α → Option β} (b : Both g h) (k : ∀ a, Both (fun n => f n a) (fun n => f' n a)) : Both (fun n => (g n).bind (f n)) (fun n => (h n).bind (f' n)) := by
  obtain ⟨r, h1, h2⟩ := b
  obtain ⟨s, h3, h4⟩ := k r
  exact ⟨s, Ev.bind h1 h3, Ev.bind h2 h4⟩
theorem both_l {α : Type} {g g' h : Nat → Option α} (e : ∀ k, g (k + 1) = g' k) (b : Both g' h) : Both g h := by
  obtain ⟨r, h1, h2⟩ := b
  exact ⟨r, Ev.step e h1, h2⟩
theorem both_r {α : Type} {g h h' : Nat → Option α} (e : ∀ k, h (k + 1) = h' k) (b : Both g h') : Both g h := by
  obtain ⟨r, h1, h2⟩ := b
  exact ⟨r, h1, Ev.step e h2⟩
theorem both_lb {α β : Type} {g : Nat → Option α} {f : Nat → α → Option β} {h : Nat → Option β} {a : α} (e : Ev g a) (b : Both (fun n => f n a) h) : Both (fun n => (g n).bind (f n)) h := by
  obtain ⟨r, h1, h2⟩ := b
  exact ⟨r, Ev.bind e h1, h2⟩
theorem both_rb {α β : Type} {g : Nat → Option α} {f : Nat → α → Option β} {h : Nat → Option β} {a : α} (e : Ev g a) (b : Both h (fun n => f n a)) : Both h (fun n => (g n).bind (f n)) := by
  obtain ⟨r, h1, h2⟩ := b
  exact ⟨r, h1, Ev.bind e h2⟩
theorem both_ite {α : Type} {c c' : Prop} [Decidable c] [Decidable c'] {f g f' g' : Nat → Option α} (e : c ↔ c') (h1 : c → Both f f') (h2 : ¬ c → Both g g') : Both (fun n => if c then f n else g n) (fun n => if c' then f' n else g' n) := by
  by_cases h : c
  · simp only [if_pos h, if_pos (e.1 h)]
    exact h1 h
  · simp only [if_neg h, if_neg (fun x => h (e.2 x))]
    exact h2 h
theorem ev_one {α : Type} {g : Nat → Option α} {a b : α} (h1 : Ev g a) (h2 : Ev g b) : a = b := by
  obtain ⟨K1, h1⟩ := h1
  obtain ⟨K2, h2⟩ := h2
  have e1 := h1 (max K1 K2) (Nat.le_max_left _ _)
  have e2 := h2 (max K1 K2) (Nat.le_max_right _ _)
  exact Option.some.inj (e1.symm.trans e2)

/-! ### the calendar -/
theorem year12 {y : Int} (h : 0 ≤ y) : posthornref12_Year.f y = some (365 + leapZ y) := by
  unfold posthornref12_Year.f leapZ leapB
  simp only [tmodI h]
  by_cases c1 : y % 400 = 0
  · rw [if_pos c1, decide_eq_true (by omega)]; rfl
  · rw [if_neg c1]
    by_cases c2 : y % 4 = 0
    · rw [if_pos c2]
      by_cases c3 : y % 100 = 0
      · rw [if_pos c3, decide_eq_false (by omega)]; rfl
      · rw [if_neg c3, decide_eq_true (by omega)]; rfl
    · rw [if_neg c2, decide_eq_false (by omega)]; rfl
theorem month12 {y m : Int} (hy : 0 ≤ y) (h1 : 1 ≤ m) (h2 : m ≤ 12) : Ev (fun k => posthornref12_Month.f k y m) (monthZ y m) := by
  have hl := leapZ_01 y
  have j0 : ∀ b : Bool, Ev (fun k => posthornref12_Month.j0 k y m b) (if b = true then 30 else if m = 2 then 28 + leapZ y else 31) := by
    intro b
    refine Ev.step (f := fun _ => some (if b = true then 30 else if m = 2 then 28 + leapZ y else 31)) (fun k => ?_) (Ev.now _)
    simp only [posthornref12_Month.j0, year12 hy, Option.bind_some]
    cases b with
    | true => rfl
    | false =>
      simp only [Bool.false_eq_true, if_false]
      by_cases e : m = 2
      · rw [if_pos e, if_pos e, show wrap64 (365 + leapZ y - 337) = 28 + leapZ y from by unfold wrap64; omega]
      · rw [if_neg e, if_neg e]
  have val : ∀ b : Bool, (b = true ↔ (m = 4 ∨ m = 6 ∨ m = 9 ∨ m = 11)) → (if b = true then (30 : Int) else if m = 2 then 28 + leapZ y else 31) = monthZ y m := by
    intro b hb
    unfold monthZ when_month.tab
    by_cases c : b = true
    · have := hb.1 c
      rw [if_pos c, if_neg (by omega), if_neg (by omega), if_neg (by omega), if_pos (by omega)]
    · have : ¬ (m = 4 ∨ m = 6 ∨ m = 9 ∨ m = 11) := fun h => c (hb.2 h)
      rw [if_neg c]
      by_cases e : m = 2
      · rw [if_pos e, if_pos e]
      · rw [if_neg e, if_neg e, if_neg (by omega), if_neg (by omega), if_neg (by omega)]
  unfold posthornref12_Month.f
  by_cases c4 : m = 4
  · simp only [if_pos c4]
    rw [← val (m == 4) (by simp [c4])]; exact j0 _
  · simp only [if_neg c4]
    by_cases c6 : m = 6
    · simp only [if_pos c6]
      rw [← val (m == 6) (by simp [c6])]; exact j0 _
    · simp only [if_neg c6]
      by_cases c9 : m = 9
      · simp only [if_pos c9]
        rw [← val (m == 9) (by simp [c9])]; exact j0 _
      · simp only [if_neg c9]
        rw [← val (m == 11) (by simp [c4, c6, c9])]; exact j0 _
theorem cum_up (y : Int) {a b : Nat} (h : a ≤ b) : cum y a ≤ cum y b := by
  induction h with
  | refl => exact Int.le_refl _
  | @step n _ ih => have := cum_mono y n; show cum y a ≤ cum y (n + 1); omega
theorem civil12 {d y : Int} {m : Nat} {dd : Int} (h : Is d y m dd) (h0 : 0 ≤ d) (h1 : d ≤ 2932896) : Ev (fun k => posthornref12_Civil.f k d) (y, ((m + 1 : Nat) : Int), dd, 0) := by
  obtain ⟨hy0, hy1, hm, hd1, hd2, heq⟩ := h
  have hc12 := cum_12 y
  have hcm : cum y (m + 1) = cum y m + monthZ y ((m + 1 : Nat) : Int) := rfl
  have hup := cum_up y (show m + 1 ≤ 12 by omega)
  have hcn := cum_nonneg y m
  have hbb := before_bound hy0 (show y ≤ 10000 by omega)
  have hmb := month_bound y ((m + 1 : Nat) : Int) (by omega)
  have ml : ∀ n mm : Nat, mm + n = m → Ev (fun k => posthornref12_Civil.l1 k (d - beforeZ y - cum y mm) y ((mm + 1 : Nat) : Int)) (y, ((m + 1 : Nat) : Int), dd, 0) := by
    intro n
    induction n with
    | zero =>
      intro mm e
      obtain rfl : mm = m := by omega
      refine Ev.step (fun k => by simp only [posthornref12_Civil.l1]; rfl) ?_
      refine Ev.bind (month12 (by omega) (by omega) (by omega)) ?_
      have hw : wrap64 (d - beforeZ y - cum y mm + 1) = dd := by unfold wrap64; omega
      simp only [if_neg (show ¬ (d - beforeZ y - cum y mm ≥ monthZ y ((mm + 1 : Nat) : Int)) by omega), hw]
      exact Ev.now _
    | succ n ih =>
      intro mm e
      have h3 := cum_up y (show mm + 1 ≤ m by omega)
      have h4 : cum y (mm + 1) = cum y mm + monthZ y ((mm + 1 : Nat) : Int) := rfl
      have h5 := cum_nonneg y mm
      have h6 := month_bound y ((mm + 1 : Nat) : Int) (by omega)
      refine Ev.step (fun k => by simp only [posthornref12_Civil.l1]; rfl) ?_
      refine Ev.bind (month12 (by omega) (by omega) (by omega)) ?_
      simp only [if_pos (show d - beforeZ y - cum y mm ≥ monthZ y ((mm + 1 : Nat) : Int) by omega)]
      refine Ev.bind (month12 (by omega) (by omega) (by omega)) ?_
      have hw : wrap64 (d - beforeZ y - cum y mm - monthZ y ((mm + 1 : Nat) : Int)) = d - beforeZ y - cum y (mm + 1) := by unfold wrap64; omega
      have hw2 : wrap64 (((mm + 1 : Nat) : Int) + 1) = ((mm + 1 + 1 : Nat) : Int) := by unfold wrap64; omega
      simp only [hw, hw2]
      exact ih (mm + 1) (by omega)
  have yl : ∀ (n : Nat) (yy : Int), yy + n = y → 1970 ≤ yy → Ev (fun k => posthornref12_Civil.l0 k (d - beforeZ yy) yy 1) (y, ((m + 1 : Nat) : Int), dd, 0) := by
    intro n
    induction n with
    | zero =>
      intro yy e hyy
      obtain rfl : yy = y := by omega
      refine Ev.step (f := fun k => posthornref12_Civil.l1 k (d - beforeZ yy) yy 1) (fun k => ?_) ?_
      · simp only [posthornref12_Civil.l0, year12 (show 0 ≤ yy by omega), Option.bind_some]
        rw [if_neg (by omega)]
      · have := ml m 0 (by omega)
        simpa [cum] using this
    | succ n ih =>
      intro yy e hyy
      have hn := before_next yy
      have h01 := leapZ_01 yy
      have hmono : beforeZ (yy + 1) ≤ beforeZ y := by unfold beforeZ; omega
      have hb2 := before_bound hyy (show yy ≤ 10000 by omega)
      refine Ev.step (f := fun k => posthornref12_Civil.l0 k (d - beforeZ (yy + 1)) (yy + 1) 1) (fun k => ?_) (ih (yy + 1) (by omega) (by omega))
      simp only [posthornref12_Civil.l0, year12 (show 0 ≤ yy by omega), Option.bind_some]
      rw [if_pos (by omega), show wrap64 (d - beforeZ yy - (365 + leapZ yy)) = d - beforeZ (yy + 1) from by unfold wrap64; omega, show wrap64 (yy + 1) = yy + 1 from by unfold wrap64; omega]
  have j0 : Ev (fun k => posthornref12_Civil.j0 k d false) (y, ((m + 1 : Nat) : Int), dd, 0) := by
    refine Ev.step (f := fun k => posthornref12_Civil.l0 k d 1970 1) (fun k => by simp only [posthornref12_Civil.j0, Bool.false_eq_true, if_false]) ?_
    have := yl (y - 1970).toNat 1970 (by omega) (Int.le_refl _)
    have hz : beforeZ 1970 = 0 := by decide
    rw [hz, Int.sub_zero] at this
    exact this
  unfold posthornref12_Civil.f
  simp only [if_neg (show ¬ (d < 0) by omega), decide_eq_false (show ¬ (d > 2932896) by omega)]
  exact j0
theorem weekday20 {d : Int} (h0 : 0 ≤ d) (h1 : d ≤ 2932896) : Ev (fun k => posthornref20_Weekday.f k d) ((d + 3) % 7, 0) := by
  unfold posthornref20_Weekday.f
  simp only [if_neg (show ¬ (d < 0) by omega), decide_eq_false (show ¬ (d > 2932896) by omega)]
  refine Ev.step (f := fun _ => some ((d + 3) % 7, 0)) (fun k => ?_) (Ev.now _)
  simp only [posthornref20_Weekday.j0, Bool.false_eq_true, if_false, tmodI h0]
  by_cases c : d % 7 < 4
  · rw [if_pos c, show wrap64 (d % 7 + 3) = (d + 3) % 7 from by unfold wrap64; omega]
  · rw [if_neg c, show wrap64 (d % 7 - 4) = (d + 3) % 7 from by unfold wrap64; omega]

/-! ### lists -/
theorem has21 (l : List Int) (x : Int) (hn : l.length ≤ 9223372036854775807) : Ev (fun k => posthornref21_has.f k l x) (l.contains x) := by
  have go : ∀ (suf : List Int) (i : Nat), l.drop i = suf → Ev (fun k => posthornref21_has.l0 k l x (i : Int)) (suf.contains x) := by
    intro suf
    induction suf with
    | nil =>
      intro i hd
      have := drop_nil hd
      refine Ev.step (f := fun _ => some false) (fun k => ?_) (Ev.now _)
      simp only [posthornref21_has.l0]
      rw [if_neg (by omega)]
    | cons o suf ih =>
      intro i hd
      obtain ⟨hi, ho, hd'⟩ := get_drop (d := (0 : Int)) hd
      have hw := wrapS hi hn
      have ho' : rd l (i : Int) = o := ho
      by_cases e : o = x
      · refine Ev.step (f := fun _ => some true) (fun k => ?_) (by simp [e]; exact Ev.now _)
        simp only [posthornref21_has.l0]
        rw [if_pos (by omega), if_pos (by omega), ho', if_pos e]
      · rw [show (o :: suf).contains x = suf.contains x from by rw [List.contains_cons, beq_eq_false_iff_ne.mpr (fun h => e h.symm), Bool.false_or]]
        refine Ev.step (fun k => ?_) (ih (i + 1) hd')
        simp only [posthornref21_has.l0]
        rw [if_pos (by omega), if_pos (by omega), ho', if_neg e, hw]
  exact go l 0 rfl
theorem contains_ev (l : List Int) (x : Int) (hn : l.length ≤ 9223372036854775807) : Ev (fun k => slices_Contains_int_int.f k l x) (l.contains x) := by
  have go : ∀ (suf : List Int) (i : Nat), l.drop i = suf → Fin (fun k => slices_Index_int_int.l0 k l x (l.length : Int) (i : Int)) (fun r => decide (r ≥ 0) = suf.contains x) := by
    intro suf
    induction suf with
    | nil =>
      intro i hd
      have := drop_nil hd
      refine fin_step (f := fun _ => some (-1)) (fun k => ?_) (fin_now rfl)
      simp only [slices_Index_int_int.l0]
      rw [if_neg (by omega)]
    | cons o suf ih =>
      intro i hd
      obtain ⟨hi, ho, hd'⟩ := get_drop (d := (0 : Int)) hd
      have hw := wrapS hi hn
      have ho' : rd l (i : Int) = o := ho
      refine fin_step (f := fun k => if x = o then some (i : Int) else slices_Index_int_int.l0 k l x (l.length : Int) ((i + 1 : Nat) : Int)) (fun k => ?_) (fin_ite (fun e => fin_now ?_) (fun e => fin_mono (ih (i + 1) hd') (fun r hr => ?_)))
      · simp only [slices_Index_int_int.l0]
        rw [if_pos (by omega), if_pos (by omega), if_pos (by omega), ho', hw]
      · rw [decide_eq_true (by omega)]; simp [e]
      · rw [hr, List.contains_cons, show (x == o) = false from by simp [e]]; rfl
  obtain ⟨r, hr, hp⟩ := go l 0 rfl
  unfold slices_Contains_int_int.f slices_Index_int_int.f
  have := Ev.bind (f := fun _ t => some (decide (t ≥ 0))) hr (Ev.now _)
  rw [hp] at this
  exact this
/-- A weekday as the document's. -/
def cv (x : S53) : S54 := ⟨x.f0, x.f1⟩
theorem on21 (r0 r1 r2 r3 : Int) (l7 l8 : List Int) (l9 : List S54) (a : Int) (hn : l9.length ≤ 9223372036854775807) : Ev (fun k => posthornref21_on.f k r0 r1 r2 r3 l7 l8 l9 a) (l9.any fun w => w.f0 == a) := by
  have go : ∀ (suf : List S54) (i : Nat), l9.drop i = suf → Ev (fun k => posthornref21_on.l0 k a (i : Int) r0 r1 r2 r3 l7 l8 l9) (suf.any fun w => w.f0 == a) := by
    intro suf
    induction suf with
    | nil =>
      intro i hd
      have := drop_nil hd
      refine Ev.step (f := fun _ => some false) (fun k => ?_) (Ev.now _)
      simp only [posthornref21_on.l0]
      rw [if_neg (by omega)]
    | cons o suf ih =>
      intro i hd
      obtain ⟨hi, ho, hd'⟩ := get_drop (d := z54) hd
      have hw := wrapS hi hn
      have ho' : rd_T54 l9 (i : Int) = o := ho
      rw [List.any_cons]
      by_cases e : o.f0 = a
      · rw [show (o.f0 == a) = true from by simp [e], Bool.true_or]
        refine Ev.step (f := fun _ => some true) (fun k => ?_) (Ev.now _)
        simp only [posthornref21_on.l0]
        rw [if_pos (by omega), if_pos (by omega), ho', if_pos e]
      · rw [show (o.f0 == a) = false from by simp [e], Bool.false_or]
        refine Ev.step (fun k => ?_) (ih (i + 1) hd')
        simp only [posthornref21_on.l0]
        rw [if_pos (by omega), if_pos (by omega), ho', if_neg e, hw]
  exact go l9 0 rfl
theorem on_ev (r0 r1 r2 r3 : Int) (l7 l8 : List Int) (l9 : List S53) (a : Int) (hn : l9.length ≤ 9223372036854775807) : Ev (fun k => recur_Rule_on.f k r0 r1 r2 r3 l7 l8 l9 a) (decide (l9.length = 0) || l9.any fun w => a == w.f0 && 0 == w.f1) := by
  have go : ∀ (suf : List S53) (i : Nat), l9.drop i = suf → Fin (fun k => recur_Weekday_77.l0 k l9 (l9.length : Int) (i : Int) a 0) (fun r => decide (r ≥ 0) = suf.any fun w => a == w.f0 && 0 == w.f1) := by
    intro suf
    induction suf with
    | nil =>
      intro i hd
      have := drop_nil hd
      refine fin_step (f := fun _ => some (-1)) (fun k => ?_) (fin_now rfl)
      simp only [recur_Weekday_77.l0]
      rw [if_neg (by omega)]
    | cons o suf ih =>
      intro i hd
      obtain ⟨hi, ho, hd'⟩ := get_drop (d := z53) hd
      have hw := wrapS hi hn
      have ho' : rd_T53 l9 (i : Int) = o := ho
      refine fin_step (f := fun k => if (a == o.f0 && 0 == o.f1) = true then some (i : Int) else recur_Weekday_77.l0 k l9 (l9.length : Int) ((i + 1 : Nat) : Int) a 0) (fun k => ?_) (fin_ite (fun e => fin_now ?_) (fun e => fin_mono (ih (i + 1) hd') (fun r hr => ?_)))
      · simp only [recur_Weekday_77.l0]
        rw [if_pos (by omega), if_pos (by omega), if_pos (by omega), ho', hw]
      · rw [decide_eq_true (by omega), List.any_cons, e, Bool.true_or]
      · rw [hr, List.any_cons, Bool.eq_false_iff.mpr e, Bool.false_or]
  obtain ⟨r, hr, hp⟩ := go l9 0 rfl
  unfold recur_Rule_on.f recur_Weekday_57.f recur_Weekday_77.f
  by_cases c : (l9.length : Int) = 0
  · simp only [if_pos c, decide_eq_true (show l9.length = 0 by omega), Bool.true_or]
    exact Ev.now _
  · simp only [if_neg c, decide_eq_false (show ¬ l9.length = 0 by omega), Bool.false_or]
    rw [← hp]
    exact Ev.bind (Ev.bind (f := fun _ t => some (decide (t ≥ 0))) hr (Ev.now _)) (Ev.now _)

/-! ### which one of its month a weekday is -/
theorem nth_ev {d n o : Int} (hd : 1 ≤ d) (hdn : d ≤ n) (hn : n ≤ 31) (ho : -5 ≤ o ∧ o ≤ 5) : Ev (fun k => posthornref21_nth.f k d n o) (o == 0 || o == (d + 6) / 7 || o == -((n - d) / 7 + 1)) := by
  have up : ∀ (N : Nat) (c x : Int), x ≤ 7 * (N : Int) → -6 ≤ x → 0 ≤ c → c + (N : Int) ≤ 100 → Ev (fun k => posthornref21_nth.l0 k o c x) (c + (x + 6) / 7 == o) := by
    intro N
    induction N with
    | zero =>
      intro c x h1 h2 h3 h4
      refine Ev.step (f := fun _ => some (c + (x + 6) / 7 == o)) (fun k => ?_) (Ev.now _)
      simp only [posthornref21_nth.l0]
      rw [if_neg (by omega), show c + (x + 6) / 7 = c from by omega]
    | succ N ih =>
      intro c x h1 h2 h3 h4
      by_cases e : x ≥ 1
      · have h := ih (c + 1) (x - 7) (by omega) (by omega) (by omega) (by omega)
        rw [show c + 1 + (x - 7 + 6) / 7 = c + (x + 6) / 7 from by omega] at h
        refine Ev.step (fun k => ?_) h
        simp only [posthornref21_nth.l0]
        rw [if_pos e, show wrap64 (c + 1) = c + 1 from by unfold wrap64; omega, show wrap64 (x - 7) = x - 7 from by unfold wrap64; omega]
      · refine Ev.step (f := fun _ => some (c + (x + 6) / 7 == o)) (fun k => ?_) (Ev.now _)
        simp only [posthornref21_nth.l0]
        rw [if_neg e, show c + (x + 6) / 7 = c from by omega]
  have dn : ∀ (N : Nat) (c x : Int), n - x < 7 * (N : Int) → x ≤ n + 7 → 1 ≤ x → 0 ≤ c → c + (N : Int) ≤ 100 → Ev (fun k => posthornref21_nth.l1 k n o c x) (c + (n - x + 7) / 7 == -o) := by
    intro N
    induction N with
    | zero =>
      intro c x h1 h2 h0 h3 h4
      refine Ev.step (f := fun _ => some (c + (n - x + 7) / 7 == -o)) (fun k => ?_) (Ev.now _)
      simp only [posthornref21_nth.l1]
      rw [if_neg (by omega), show c + (n - x + 7) / 7 = c from by omega, show wrap64 (-o) = -o from by unfold wrap64; omega]
    | succ N ih =>
      intro c x h1 h2 h0 h3 h4
      by_cases e : x ≤ n
      · have h := ih (c + 1) (x + 7) (by omega) (by omega) (by omega) (by omega) (by omega)
        rw [show c + 1 + (n - (x + 7) + 7) / 7 = c + (n - x + 7) / 7 from by omega] at h
        refine Ev.step (fun k => ?_) h
        simp only [posthornref21_nth.l1]
        rw [if_pos e, show wrap64 (c + 1) = c + 1 from by unfold wrap64; omega, show wrap64 (x + 7) = x + 7 from by unfold wrap64; omega]
      · refine Ev.step (f := fun _ => some (c + (n - x + 7) / 7 == -o)) (fun k => ?_) (Ev.now _)
        simp only [posthornref21_nth.l1]
        rw [if_neg e, show c + (n - x + 7) / 7 = c from by omega, show wrap64 (-o) = -o from by unfold wrap64; omega]
  unfold posthornref21_nth.f
  by_cases c0 : o = 0
  · simp only [if_pos c0]
    rw [show (o == 0) = true from by simp [c0], Bool.true_or, Bool.true_or]
    exact Ev.now _
  · simp only [if_neg c0]
    by_cases c1 : o > 0
    · simp only [if_pos c1]
      have h := up 5 0 d (by omega) (by omega) (Int.le_refl _) (by omega)
      rw [show (0 + (d + 6) / 7 == o) = (o == 0 || o == (d + 6) / 7 || o == -((n - d) / 7 + 1)) from by
        rw [Bool.eq_iff_iff]; simp only [beq_iff_eq, Bool.or_eq_true]; omega] at h
      exact h
    · simp only [if_neg c1]
      have h := dn 5 0 d (by omega) (by omega) hd (Int.le_refl _) (by omega)
      rw [show (0 + (n - d + 7) / 7 == -o) = (o == 0 || o == (d + 6) / 7 || o == -((n - d) / 7 + 1)) from by
        rw [Bool.eq_iff_iff]; simp only [beq_iff_eq, Bool.or_eq_true]; omega] at h
      exact h
theorem cv_drop {l : List S53} {i : Nat} {o : S53} {suf : List S53} (h : l.drop i = o :: suf) (hi : i < l.length) : rd_T54 (l.map cv) (i : Int) = cv o := by
  have e : l[i] = o := by
    rw [List.drop_eq_getElem_cons hi] at h
    injection h
  simp [rd_T54, hi, e]
section
variable (r0 r1 r2 r3 : Int) (l7 l8 : List Int) (l9 : List S53)
theorem month_loop21 {d wd n : Int} (hd : 1 ≤ d) (hdn : d ≤ n) (hn : n ≤ 31) (h9 : l9.length ≤ 77) (hok : ∀ x, x ∈ l9 → okDay x) : ∀ (suf : List S53) (i : Nat), l9.drop i = suf →
    Ev (fun k => posthornref21_month.l0 k d wd n (i : Int) r0 r1 r2 r3 l7 l8 (l9.map cv)) (suf.any (recur_Rule_may.fitsB wd ((d + 6) / 7) (-((n - d) / 7 + 1))) || decide (l9.length = 0)) := by
  have hlen : ((l9.map cv).length : Int) = (l9.length : Int) := by rw [List.length_map]
  intro suf
  induction suf with
  | nil =>
    intro i hdr
    have := drop_nil hdr
    refine Ev.step (f := fun _ => some (decide (l9.length = 0))) (fun k => ?_) (Ev.now _)
    simp only [posthornref21_month.l0]
    rw [if_neg (by omega), hlen]
    congr 1
    rw [Bool.eq_iff_iff]; simp only [beq_iff_eq, decide_eq_true_eq]; omega
  | cons o suf ih =>
    intro i hdr
    obtain ⟨hi, ho, hd'⟩ := get_drop (d := z53) hdr
    have hw := wrapS hi (by omega)
    have ho' := cv_drop hdr hi
    have hm : o ∈ l9 := List.mem_of_mem_drop (hdr ▸ List.mem_cons_self)
    obtain ⟨-, -, o1, o2⟩ := hok o hm
    have nx := ih (i + 1) hd'
    rw [List.any_cons]
    have e0 : (cv o).f0 = o.f0 := rfl
    have e1 : (cv o).f1 = o.f1 := rfl
    by_cases c : o.f0 = wd
    · have hN := nth_ev hd hdn hn (o := o.f1) ⟨o1, o2⟩
      have ef : recur_Rule_may.fitsB wd ((d + 6) / 7) (-((n - d) / 7 + 1)) o = (o.f1 == 0 || o.f1 == (d + 6) / 7 || o.f1 == -((n - d) / 7 + 1)) := by
        unfold recur_Rule_may.fitsB
        rw [show (o.f0 == wd) = true from by simp [c], Bool.true_and]
      rw [ef]
      refine Ev.step (fun k => by simp only [posthornref21_month.l0, ho', e0, e1, if_pos c, hw]; rw [if_pos (by omega), if_pos (by omega)]) ?_
      refine Ev.bind hN ?_
      cases hb : (o.f1 == 0 || o.f1 == (d + 6) / 7 || o.f1 == -((n - d) / 7 + 1)) with
      | true => simp only [if_true, Bool.true_or]; exact Ev.now _
      | false => simp only [Bool.false_eq_true, if_false, Bool.false_or]; exact nx
    · have ef : recur_Rule_may.fitsB wd ((d + 6) / 7) (-((n - d) / 7 + 1)) o = false := by
        unfold recur_Rule_may.fitsB
        rw [show (o.f0 == wd) = false from by simp [c], Bool.false_and]
      rw [ef, Bool.false_or]
      exact Ev.step (fun k => by simp only [posthornref21_month.l0, ho', e0, e1, if_neg c, hw]; rw [if_pos (by omega), if_pos (by omega)]) nx
theorem may_both (y m d wd first : Int) (h8 : l8.length ≤ 9223372036854775807) (h9 : l9.length ≤ 77) (hok : ∀ x, x ∈ l9 → okDay x) (hy0 : 1970 ≤ y) (hy1 : y ≤ 9999) (hm0 : 1 ≤ m) (hm1 : m ≤ 12) (hd : 1 ≤ d) (hdn : d ≤ monthZ y m) :
    Both (fun k => recur_Rule_may.f k r0 r1 r2 r3 l7 l8 l9 y m d wd first) (fun k => posthornref21_month.f k r0 r1 r2 r3 l7 l8 (l9.map cv) y m d wd first) := by
  have hmb := month_bound y m hm0
  have hlen : ((l9.map cv).length : Int) = (l9.length : Int) := by rw [List.length_map]
  unfold recur_Rule_may.f recur_Rule_may.g posthornref21_month.f
  refine both_lb (length_ev y m hy0 hy1 hm0 hm1) ?_
  refine both_rb (month12 (by omega) hm0 hm1) ?_
  have hfr : wrap64 ((wrap64 (d + 6)).tdiv 7) = (d + 6) / 7 := by
    rw [show wrap64 (d + 6) = d + 6 from by unfold wrap64; omega, tdivI (by omega)]
    unfold wrap64; omega
  have hbk : wrap64 (-wrap64 (wrap64 ((wrap64 (monthZ y m - d)).tdiv 7) + 1)) = -((monthZ y m - d) / 7 + 1) := by
    rw [show wrap64 (monthZ y m - d) = monthZ y m - d from by unfold wrap64; omega, tdivI (by omega)]
    unfold wrap64; omega
  have hdays : wrap64 (wrap64 (d - 1) - monthZ y m) = wrap64 (wrap64 (d - monthZ y m) - 1) := by unfold wrap64; omega
  have j1t : Ev (fun k => posthornref21_month.j1 k d wd (monthZ y m) true r0 r1 r2 r3 l7 l8 (l9.map cv)) false := Ev.step (f := fun _ => some false) (fun k => by simp only [posthornref21_month.j1, if_true]) (Ev.now _)
  have j1f : Both (fun _ : Nat => if l9.length = 0 then some true else if l9.length < 4611686018427387904 then some (l9.any (recur_Rule_may.fitsB wd (wrap64 ((wrap64 (d + 6)).tdiv 7)) (wrap64 (-wrap64 (wrap64 ((wrap64 (monthZ y m - d)).tdiv 7) + 1))))) else none) (fun k => posthornref21_month.j1 k d wd (monthZ y m) false r0 r1 r2 r3 l7 l8 (l9.map cv)) := by
    refine both_r (h' := fun k => posthornref21_month.l0 k d wd (monthZ y m) 0 r0 r1 r2 r3 l7 l8 (l9.map cv)) (fun k => by simp only [posthornref21_month.j1, Bool.false_eq_true, if_false]) ?_
    have h := month_loop21 r0 r1 r2 r3 l7 l8 l9 (wd := wd) hd hdn (by omega) h9 hok l9 0 rfl
    rw [hfr, hbk]
    by_cases c : l9.length = 0
    · simp only [if_pos c]
      rw [decide_eq_true c, Bool.or_true] at h
      exact both_ev (Ev.now _) h
    · simp only [if_neg c, if_pos (show l9.length < 4611686018427387904 by omega)]
      rw [decide_eq_false c, Bool.or_false] at h
      exact both_ev (Ev.now _) h
  have j0f : ¬ (l8.length = 0 ∧ l9.length = 0) → Both (fun k => (if l8.length = 0 then some true else (slices_Contains_int_int.f k l8 d).bind fun t => if t = true then some true else slices_Contains_int_int.f k l8 (wrap64 (wrap64 (d - monthZ y m) - 1))).bind fun ok =>
      if ok = true then (if l9.length = 0 then some true else if l9.length < 4611686018427387904 then some (l9.any (recur_Rule_may.fitsB wd (wrap64 ((wrap64 (d + 6)).tdiv 7)) (wrap64 (-wrap64 (wrap64 ((wrap64 (monthZ y m - d)).tdiv 7) + 1))))) else none) else some false) (fun k => posthornref21_month.j0 k d wd first (monthZ y m) false r0 r1 r2 r3 l7 l8 (l9.map cv)) := by
    intro hc
    by_cases c8 : l8.length = 0
    · simp only [if_pos c8, Option.bind_some, if_true]
      refine both_r (h' := fun k => posthornref21_month.j1 k d wd (monthZ y m) false r0 r1 r2 r3 l7 l8 (l9.map cv)) (fun k => ?_) j1f
      simp only [posthornref21_month.j0, Bool.false_eq_true, if_false]
      rw [if_neg (by omega)]
    · simp only [if_neg c8]
      refine both_r (fun k => by simp only [posthornref21_month.j0, Bool.false_eq_true, if_false]; rw [if_pos (show (l8.length : Int) > 0 by omega)]) ?_
      refine both_rb (has21 l8 d h8) ?_
      cases hb : l8.contains d with
      | true =>
        have e1 : Ev (fun k => (slices_Contains_int_int.f k l8 d).bind fun t => if t = true then some true else slices_Contains_int_int.f k l8 (wrap64 (wrap64 (d - monthZ y m) - 1))) true := by
          refine Ev.bind (contains_ev l8 d h8) ?_
          rw [hb]
          simp only [if_true]
          exact Ev.now _
        refine both_lb e1 ?_
        simp only [if_true]
        exact j1f
      | false =>
        have e1 : Ev (fun k => (slices_Contains_int_int.f k l8 d).bind fun t => if t = true then some true else slices_Contains_int_int.f k l8 (wrap64 (wrap64 (d - monthZ y m) - 1))) (l8.contains (wrap64 (wrap64 (d - monthZ y m) - 1))) := by
          refine Ev.bind (contains_ev l8 d h8) ?_
          rw [hb]
          simp only [Bool.false_eq_true, if_false]
          exact contains_ev l8 _ h8
        refine both_lb e1 ?_
        simp only [Bool.false_eq_true, if_false]
        refine both_rb (has21 l8 _ h8) ?_
        rw [hdays]
        cases hu : l8.contains (wrap64 (wrap64 (d - monthZ y m) - 1)) with
        | true => simp only [if_true, Bool.not_true]; exact j1f
        | false => simp only [Bool.false_eq_true, if_false, Bool.not_false]; exact both_ev (Ev.now _) j1t
  by_cases c : l8.length = 0 ∧ l9.length = 0
  · simp only [if_pos c, if_pos (show (l8.length : Int) = 0 by omega), hlen]
    refine both_r (h' := fun _ => some (d == first)) (fun k => ?_) (both_now _)
    simp only [posthornref21_month.j0]
    rw [if_pos (by simp [c.2])]
  · simp only [if_neg c]
    by_cases c8 : (l8.length : Int) = 0
    · simp only [if_pos c8, hlen, show ((l9.length : Int) == 0) = false from by simp; intro h; exact c ⟨by omega, by simp [h]⟩]
      exact j0f c
    · simp only [if_neg c8]
      exact j0f c
/-! ### matching -/
set_option maxRecDepth 100000 in
theorem match_both (a b : Int) (h7 : l7.length ≤ 9223372036854775807) (h8 : l8.length ≤ 9223372036854775807) (h9 : l9.length ≤ 77) (hok : ∀ x, x ∈ l9 → okDay x) (hz : r0 ≤ 2 → ∀ x, x ∈ l9 → x.f1 = 0) (hr : 1 ≤ r1)
    (ha : 0 ≤ a) (hab : a ≤ b) (hb : b ≤ 2932896) : Both (fun k => recur_match.f k r0 r1 r2 r3 l7 l8 l9 a b) (fun k => posthornref21_Matches.f k r0 r1 r2 r3 l7 l8 (l9.map cv) a b) := by
  obtain ⟨y0, m0, d0, hI0, hE0⟩ := civil_ev a ha (by omega)
  obtain ⟨y, m, d, hI, hE⟩ := civil_ev b (by omega) hb
  have hlen : ((l9.map cv).length : Int) = (l9.length : Int) := by rw [List.length_map]
  have hmay := fun first wd => may_both r0 r1 r2 r3 l7 l8 l9 y ((m + 1 : Nat) : Int) d wd first h8 h9 hok hI.y0 hI.y1 (by omega) (by have := hI.m1; omega) hI.d1 hI.d2
  have hmayb : ∀ first wd, Both (fun k => (recur_Rule_may.f k r0 r1 r2 r3 l7 l8 l9 y ((m + 1 : Nat) : Int) d wd first).bind fun t => some t) (fun k => (posthornref21_month.f k r0 r1 r2 r3 l7 l8 (l9.map cv) y ((m + 1 : Nat) : Int) d wd first).bind fun t => some t) := fun first wd => both_bind (hmay first wd) (fun _ => both_now _)
  have anyEq : r0 ≤ 2 → ∀ wd, (l9.any fun w => wd == w.f0 && 0 == w.f1) = ((l9.map cv).any fun w => w.f0 == wd) := by
    intro h2 wd
    rw [List.any_map]
    have : ∀ l : List S53, (∀ x, x ∈ l → x.f1 = 0) → (l.any fun w => wd == w.f0 && 0 == w.f1) = (l.any ((fun w : S54 => w.f0 == wd) ∘ cv)) := by
      intro l
      induction l with
      | nil => intro _; rfl
      | cons x l ih =>
        intro hx
        rw [List.any_cons, List.any_cons, ih (fun y hy => hx y (List.mem_cons_of_mem _ hy)), hx x List.mem_cons_self]
        congr 1
        show (wd == x.f0 && (0 : Int) == 0) = (x.f0 == wd)
        rw [show ((0 : Int) == 0) = true from rfl, Bool.and_true, Bool.eq_iff_iff]
        simp only [beq_iff_eq]
        exact ⟨fun h => h.symm, fun h => h.symm⟩
    exact this l9 (hz h2)
  have j : ∀ (z : Bool) (wd w0 : Int), Both (fun k => recur_match.j0 k a b y0 ((m0 + 1 : Nat) : Int) d0 y ((m + 1 : Nat) : Int) d wd w0 r1 z r0 r1 r2 r3 l7 l8 l9) (fun k => posthornref21_Matches.j0 k a b y ((m + 1 : Nat) : Int) d y0 ((m0 + 1 : Nat) : Int) d0 wd w0 z r0 r1 r2 r3 l7 l8 (l9.map cv)) := by
    intro z wd w0
    have hr1 : ¬ r1 = 0 := by omega
    have em : wrap64 (wrap64 (wrap64 (12 * wrap64 (y - y0)) + ((m + 1 : Nat) : Int)) - ((m0 + 1 : Nat) : Int)) = wrap64 (wrap64 (wrap64 (wrap64 (12 * y) + ((m + 1 : Nat) : Int)) - wrap64 (12 * y0)) - ((m0 + 1 : Nat) : Int)) := by
      have := hI.y0; have := hI.y1; have := hI0.y0; have := hI0.y1; have := hI.m1; have := hI0.m1
      unfold wrap64; omega
    refine both_l (fun k => recur_match.j0.eq_2 ..) ?_
    refine both_r (fun k => posthornref21_Matches.j0.eq_2 ..) ?_
    simp only [if_neg hr1, hlen]
    refine both_ite Iff.rfl (fun _ => both_now _) (fun _ => ?_)
    refine both_ite Iff.rfl (fun c1 => ?_) (fun c1 => both_ite Iff.rfl (fun c2 => ?_) (fun c2 => both_ite Iff.rfl (fun c3 => ?_) (fun c3 => ?_)))
    · refine both_ite Iff.rfl (fun _ => ?_) (fun _ => both_now _)
      by_cases c : (l9.length : Int) = 0
      · simp only [if_pos c]
        have := on_ev r0 r1 r2 r3 l7 l8 l9 wd (by omega)
        rw [decide_eq_true (show l9.length = 0 by omega), Bool.true_or] at this
        exact both_ev (Ev.bind this (Ev.now _)) (Ev.now _)
      · simp only [if_neg c]
        have h1 := on_ev r0 r1 r2 r3 l7 l8 l9 wd (by omega)
        rw [decide_eq_false (show ¬ l9.length = 0 by omega), Bool.false_or, anyEq (by omega) wd] at h1
        exact both_ev (Ev.bind h1 (Ev.now _)) (Ev.bind (on21 r0 r1 r2 r3 l7 l8 (l9.map cv) wd (by rw [List.length_map]; omega)) (Ev.now _))
    · refine both_ite Iff.rfl (fun _ => ?_) (fun _ => both_now _)
      have h2 := on21 r0 r1 r2 r3 l7 l8 (l9.map cv) wd (by rw [List.length_map]; omega)
      by_cases c : (l9.length : Int) > 0
      · simp only [if_pos c]
        have h1 := on_ev r0 r1 r2 r3 l7 l8 l9 wd (by omega)
        rw [decide_eq_false (show ¬ l9.length = 0 by omega), Bool.false_or, anyEq (by omega) wd] at h1
        exact both_bind (both_ev h1 h2) (fun t => both_ite Iff.rfl (fun _ => both_now _) (fun _ => both_ite Iff.rfl (fun _ => both_now _) (fun _ => both_now _)))
      · simp only [if_neg c, if_pos (show (l9.length : Int) = 0 by omega)]
        have hl : l9 = [] := List.eq_nil_of_length_eq_zero (by omega)
        rw [hl] at h2
        refine both_ev (Ev.now _) ?_
        have h3 : Ev (fun k => posthornref21_on.f k r0 r1 r2 r3 l7 l8 (l9.map cv) wd) false := by rw [hl]; exact h2
        refine Ev.bind h3 ?_
        simp only [Bool.false_eq_true, if_false]
        exact Ev.now _
    · rw [em]
      exact both_ite Iff.rfl (fun _ => hmayb _ _) (fun _ => both_now _)
    · exact both_ite Iff.rfl (fun _ => both_ite Iff.rfl (fun _ => hmayb _ _) (fun _ => both_ite Iff.rfl (fun _ => hmayb _ _) (fun _ => both_now _))) (fun _ => both_now _)
  unfold recur_match.f posthornref21_Matches.f
  refine both_lb hE0 ?_
  refine both_lb hE ?_
  simp only [weekday_f ha (by omega), weekday_f (show 0 ≤ b by omega) hb, Option.bind_some, if_neg (show ¬ (b < a) by omega)]
  refine both_rb (civil12 hI (by omega) hb) ?_
  refine both_rb (civil12 hI0 ha (by omega)) ?_
  refine both_rb (weekday20 (by omega) hb) ?_
  refine both_rb (weekday20 ha (by omega)) ?_
  exact both_ite Iff.rfl (fun _ => both_bind (both_ev (contains_ev l7 _ h7) (has21 l7 _ h7)) (fun t => j _ _ _)) (fun _ => j _ _ _)
end
end Go.Proofs.YtbeihceeliifeaaGreatDoor.Agree
/- Which rules may be: the program and the document agree. -/
set_option linter.unusedVariables false
namespace Go.Proofs.YtbeihceeliifeaaGreatDoor.Rule
open Go.RowKit Go.Proofs.YtbeihceeliifeaaGreatDoorW.PrintWords Go.Proofs.YtbeihceeliifeaaGreatDoorW.PrintLast Go.Proofs.YtbeihceeliifeaaGreatDoorW.PrintMore Go.Proofs.YtbeihceeliifeaaGreatDoor.PR Go.Proofs.YtbeihceeliifeaaGreatDoor.Cal Go.Proofs.YtbeihceeliifeaaGreatDoor.Base Go.Proofs.YtbeihceeliifeaaGreatDoor.Match Go.Proofs.YtbeihceeliifeaaGreatDoor.Agree

theorem time12 (t : Int) : posthornref12_Time.f t = some (decide (0 ≤ t ∧ t ≤ 253402300799)) := by
  unfold posthornref12_Time.f
  by_cases c : t ≥ 0
  · rw [if_pos c]
    congr 1
    rw [decide_eq_decide]
    omega
  · rw [if_neg c, decide_eq_false (by omega)]
theorem rises_both (l : List Int) (lo hi_ : Int) (hn : l.length ≤ 9223372036854775807) : Both (fun k => recur_rises.f k l lo hi_) (fun k => posthornref21_list.f k l lo hi_) := by
  have go : ∀ (suf : List Int) (i : Nat), l.drop i = suf → Both (fun k => recur_rises.l0 k l lo hi_ l (l.length : Int) (i : Int)) (fun k => posthornref21_list.l0 k l lo hi_ (i : Int)) := by
    intro suf
    induction suf with
    | nil =>
      intro i hd
      have := drop_nil hd
      refine both_l (g' := fun _ => some true) (fun k => ?_) (both_r (h' := fun _ => some true) (fun k => ?_) (both_now _))
      · simp only [recur_rises.l0]
        rw [if_neg (by omega)]
      · simp only [posthornref21_list.l0]
        rw [if_neg (by omega)]
    | cons o suf ih =>
      intro i hd
      obtain ⟨hi, ho, hd'⟩ := get_drop (d := (0 : Int)) hd
      have hw := wrapS hi hn
      have ho' : rd l (i : Int) = o := ho
      have nx := ih (i + 1) hd'
      have j1t : Ev (fun k => posthornref21_list.j1 k l lo hi_ (i : Int) true) false := Ev.step (f := fun _ => some false) (fun k => by simp only [posthornref21_list.j1, if_true]) (Ev.now _)
      have bad : (o < lo ∨ o > hi_ ∨ o = 0) → Both (fun k => recur_rises.l0 k l lo hi_ l (l.length : Int) (i : Int)) (fun k => posthornref21_list.l0 k l lo hi_ (i : Int)) := by
        intro hb
        refine both_ev (r := false) (Ev.step (f := fun _ => some false) (fun k => ?_) (Ev.now _)) (Ev.step (f := fun k => posthornref21_list.j1 k l lo hi_ (i : Int) true) (fun k => ?_) j1t)
        · simp only [recur_rises.l0, ho']
          rw [if_pos (by omega), if_pos (by omega), if_pos (by omega)]
          by_cases c1 : o < lo
          · rw [if_pos c1]
          · rw [if_neg c1]
            by_cases c2 : o > hi_
            · rw [if_pos c2]
            · rw [if_neg c2, if_pos (by omega)]
        · simp only [posthornref21_list.l0, ho']
          rw [if_pos (by omega), if_pos (by omega)]
          by_cases c1 : o = 0
          · rw [if_pos c1]
          · rw [if_neg c1]
            by_cases c2 : o < lo
            · rw [if_pos c2]
            · rw [if_neg c2, decide_eq_true (by omega)]
      by_cases c : o < lo ∨ o > hi_ ∨ o = 0
      · exact bad c
      · refine both_l (g' := fun k => if (i : Int) > 0 then (if rd l ((i - 1 : Nat) : Int) ≥ o then some false else recur_rises.l0 k l lo hi_ l (l.length : Int) ((i + 1 : Nat) : Int)) else recur_rises.l0 k l lo hi_ l (l.length : Int) ((i + 1 : Nat) : Int)) (fun k => ?_) ?_
        · simp only [recur_rises.l0, ho', hw]
          rw [if_pos (by omega), if_pos (by omega), if_pos (by omega), if_neg (by omega), if_neg (by omega), if_neg (by omega)]
          by_cases c1 : (i : Int) > 0
          · rw [if_pos c1, if_pos c1, show wrap64 ((i : Int) - 1) = ((i - 1 : Nat) : Int) from by unfold wrap64; omega, if_pos (by omega), if_pos (by omega)]
          · rw [if_neg c1, if_neg c1]
        · refine both_r (h' := fun k => posthornref21_list.j1 k l lo hi_ (i : Int) false) (fun k => ?_) ?_
          · simp only [posthornref21_list.l0, ho']
            rw [if_pos (by omega), if_pos (by omega), if_neg (by omega), if_neg (by omega), decide_eq_false (by omega)]
          · refine both_r (h' := fun k => if (i : Int) > 0 then (if rd l ((i - 1 : Nat) : Int) ≥ o then some false else posthornref21_list.l0 k l lo hi_ ((i + 1 : Nat) : Int)) else posthornref21_list.l0 k l lo hi_ ((i + 1 : Nat) : Int)) (fun k => ?_) ?_
            · simp only [posthornref21_list.j1, Bool.false_eq_true, if_false, ho', hw]
              by_cases c1 : (i : Int) > 0
              · rw [if_pos c1, if_pos c1, if_pos (by omega), if_pos (by omega), show wrap64 ((i : Int) - 1) = ((i - 1 : Nat) : Int) from by unfold wrap64; omega, if_pos (by omega), if_pos (by omega)]
              · rw [if_neg c1, if_neg c1]
            · exact both_ite Iff.rfl (fun _ => both_ite Iff.rfl (fun _ => both_now _) (fun _ => nx)) (fun _ => nx)
  exact go l 0 rfl
section
variable (r0 r1 r2 r3 : Int) (l7 l8 : List Int) (l9 : List S53)
theorem rd_cv {l : List S53} {j : Nat} (h : j < l.length) : rd_T54 (l.map cv) (j : Int) = cv (rd_T53 l (j : Int)) := by simp [rd_T54, rd_T53, h]
theorem week_both (x : Bool) (hn : l9.length ≤ 9223372036854775807) : ∀ (suf : List S53) (i : Nat), l9.drop i = suf → (0 < i → okDay (rd_T53 l9 ((i - 1 : Nat) : Int))) →
    ∃ b, Ev (fun k => recur_Right.l0 k x l9 (l9.length : Int) (i : Int) r0 r1 r2 r3 l7 l8 l9) b ∧ Ev (fun k => posthornref21_week.l0 k (l9.map cv) x (i : Int)) b ∧ (b = true → x = false → ∀ y, y ∈ suf → y.f1 = 0) := by
  have hlen : ((l9.map cv).length : Int) = (l9.length : Int) := by rw [List.length_map]
  intro suf
  induction suf with
  | nil =>
    intro i hd _
    have := drop_nil hd
    refine ⟨true, Ev.step (f := fun _ => some true) (fun k => ?_) (Ev.now _), Ev.step (f := fun _ => some true) (fun k => ?_) (Ev.now _), fun _ _ y hy => by cases hy⟩
    · simp only [recur_Right.l0]
      rw [if_neg (by omega)]
    · simp only [posthornref21_week.l0]
      rw [if_neg (by omega)]
  | cons o suf ih =>
    intro i hd hp
    obtain ⟨hi, ho, hd'⟩ := get_drop (d := z53) hd
    have hw := wrapS hi hn
    have ho' : rd_T53 l9 (i : Int) = o := ho
    have hc' : rd_T54 (l9.map cv) (i : Int) = cv o := by rw [rd_cv hi, ho']
    have e0 : (cv o).f0 = o.f0 := rfl
    have e1 : (cv o).f1 = o.f1 := rfl
    have j4t : Ev (fun k => recur_Right.j4 k x (i : Int) l9 (l9.length : Int) (i : Int) true r0 r1 r2 r3 l7 l8 l9 o.f0 o.f1) false := Ev.step (f := fun _ => some false) (fun k => by simp only [recur_Right.j4, if_true]) (Ev.now _)
    have j1t : Ev (fun k => posthornref21_week.j1 k (l9.map cv) x (i : Int) true o.f0 o.f1) false := Ev.step (f := fun _ => some false) (fun k => by simp only [posthornref21_week.j1, if_true]) (Ev.now _)
    have s4 : ∀ z : Bool, (z = true ↔ (¬ okDay o ∨ (x = false ∧ o.f1 ≠ 0))) → ∀ r, Ev (fun k => recur_Right.j4 k x (i : Int) l9 (l9.length : Int) (i : Int) z r0 r1 r2 r3 l7 l8 l9 o.f0 o.f1) r → Ev (fun k => recur_Right.l0 k x l9 (l9.length : Int) (i : Int) r0 r1 r2 r3 l7 l8 l9) r := by
      intro z hz r hr
      refine Ev.step (fun k => ?_) hr
      simp only [recur_Right.l0, ho']
      rw [if_pos (by omega), if_pos (by omega), if_pos (by omega)]
      unfold okDay at hz
      by_cases c1 : o.f0 < 0
      · rw [if_pos c1, hz.2 (.inl (by omega))]
      · rw [if_neg c1]
        by_cases c2 : o.f0 > 6
        · rw [if_pos c2, hz.2 (.inl (by omega))]
        · rw [if_neg c2]
          by_cases c3 : o.f1 < -5
          · rw [if_pos c3, hz.2 (.inl (by omega))]
          · rw [if_neg c3]
            by_cases c4 : o.f1 > 5
            · rw [if_pos c4, hz.2 (.inl (by omega))]
            · rw [if_neg c4]
              cases x with
              | true =>
                have : z = false := Bool.eq_false_iff.mpr (fun h => by rcases hz.1 h with h | h; exact h (by omega); cases h.1)
                rw [if_pos rfl, this]
              | false =>
                rw [if_neg (by decide)]
                have : z = (o.f1 != 0) := by
                  rw [Bool.eq_iff_iff, hz]
                  simp only [bne_iff_ne, ne_eq, true_and]
                  constructor
                  · rintro (h | h)
                    · exact absurd (by omega) h
                    · exact h
                  · exact .inr
                rw [this]
    have s1 : ∀ z : Bool, (z = true ↔ (¬ okDay o ∨ (x = false ∧ o.f1 ≠ 0))) → ∀ r, Ev (fun k => posthornref21_week.j1 k (l9.map cv) x (i : Int) z o.f0 o.f1) r → Ev (fun k => posthornref21_week.l0 k (l9.map cv) x (i : Int)) r := by
      intro z hz r hr
      refine Ev.step (fun k => ?_) hr
      simp only [posthornref21_week.l0, hc', e0, e1]
      rw [if_pos (by omega), if_pos (by omega)]
      unfold okDay at hz
      by_cases c1 : o.f0 < 0
      · rw [if_pos c1, hz.2 (.inl (by omega))]
      · rw [if_neg c1]
        by_cases c2 : o.f0 > 6
        · rw [if_pos c2, hz.2 (.inl (by omega))]
        · rw [if_neg c2]
          by_cases c3 : o.f1 < -5
          · rw [if_pos c3, hz.2 (.inl (by omega))]
          · rw [if_neg c3]
            by_cases c4 : o.f1 > 5
            · rw [if_pos c4, hz.2 (.inl (by omega))]
            · rw [if_neg c4]
              by_cases c5 : o.f1 = 0
              · have : z = false := Bool.eq_false_iff.mpr (fun h => by rcases hz.1 h with h | h; exact h (by omega); exact h.2 c5)
                rw [if_pos c5, this]
              · rw [if_neg c5]
                have : z = !x := by
                  rw [Bool.eq_iff_iff, hz]
                  cases x
                  · simp; exact .inr c5
                  · simp; omega
                rw [this]
    by_cases hb : ¬ okDay o ∨ (x = false ∧ o.f1 ≠ 0)
    · exact ⟨false, s4 true ⟨fun _ => hb, fun _ => rfl⟩ false j4t, s1 true ⟨fun _ => hb, fun _ => rfl⟩ false j1t, fun h => by cases h⟩
    · have hz : (false = true ↔ (¬ okDay o ∨ (x = false ∧ o.f1 ≠ 0))) := ⟨fun h => (by cases h), fun h => absurd h hb⟩
      have hok : okDay o := Classical.not_not.1 (fun h => hb (.inl h))
      have hx0 : x = false → o.f1 = 0 := fun hx => Classical.not_not.1 (fun h => hb (.inr ⟨hx, h⟩))
      obtain ⟨b, g1, g2, g3⟩ := ih (i + 1) hd' (fun _ => by rw [show i + 1 - 1 = i from rfl, ho']; exact hok)
      have g3' : b = true → x = false → ∀ y, y ∈ o :: suf → y.f1 = 0 := fun h1 h2 y hy => by
        rcases List.mem_cons.1 hy with rfl | hy
        · exact hx0 h2
        · exact g3 h1 h2 y hy
      by_cases c : (i : Int) > 0
      · have ew : wrap64 ((i : Int) - 1) = ((i - 1 : Nat) : Int) := by unfold wrap64; omega
        have hpr := hp (by omega)
        have hrp : rd_T54 (l9.map cv) ((i - 1 : Nat) : Int) = cv (rd_T53 l9 ((i - 1 : Nat) : Int)) := rd_cv (by omega)
        generalize hpe : rd_T53 l9 ((i - 1 : Nat) : Int) = pr at hpr hrp
        have p0 : (cv pr).f0 = pr.f0 := rfl
        have p1 : (cv pr).f1 = pr.f1 := rfl
        unfold okDay at hpr hok
        by_cases hge : pr.f0 > o.f0 ∨ (pr.f0 = o.f0 ∧ pr.f1 ≥ o.f1)
        · refine ⟨false, s4 false hz false (Ev.step (f := fun _ => some false) (fun k => ?_) (Ev.now _)), s1 false hz false (Ev.step (f := fun _ => some false) (fun k => ?_) (Ev.now _)), fun h => by cases h⟩
          · simp only [recur_Right.j4, Bool.false_eq_true, if_false, ew, hpe]
            rw [if_pos c, if_pos (by omega), if_pos (by omega)]
            unfold recur_order.f
            by_cases c0 : pr.f0 = o.f0
            · rw [if_pos c0, Option.bind_some, if_pos (by unfold wrap64; omega)]
            · rw [if_neg c0, Option.bind_some, if_pos (by unfold wrap64; omega)]
          · simp only [posthornref21_week.j1, Bool.false_eq_true, if_false, ew, hrp, p0, p1]
            rw [if_pos c, if_pos (by omega), if_pos (by omega)]
            by_cases c0 : pr.f0 > o.f0
            · rw [if_pos c0]
            · rw [if_neg c0, if_pos (by omega), if_pos (by omega)]
        · refine ⟨b, s4 false hz b (Ev.step (fun k => ?_) g1), s1 false hz b (Ev.step (fun k => ?_) g2), g3'⟩
          · simp only [recur_Right.j4, Bool.false_eq_true, if_false, ew, hpe, hw]
            rw [if_pos c, if_pos (by omega), if_pos (by omega)]
            unfold recur_order.f
            by_cases c0 : pr.f0 = o.f0
            · rw [if_pos c0, Option.bind_some, if_neg (by unfold wrap64; omega)]
            · rw [if_neg c0, Option.bind_some, if_neg (by unfold wrap64; omega)]
          · simp only [posthornref21_week.j1, Bool.false_eq_true, if_false, ew, hrp, p0, p1, hw]
            rw [if_pos c, if_pos (by omega), if_pos (by omega), if_neg (by omega)]
            by_cases c0 : pr.f0 = o.f0
            · rw [if_pos c0, if_neg (by omega)]
            · rw [if_neg c0]
      · refine ⟨b, s4 false hz b (Ev.step (fun k => ?_) g1), s1 false hz b (Ev.step (fun k => ?_) g2), g3'⟩
        · simp only [recur_Right.j4, Bool.false_eq_true, if_false, hw]
          rw [if_neg c]
        · simp only [posthornref21_week.j1, Bool.false_eq_true, if_false, hw]
          rw [if_neg c]
/-- What is known of a rule that may be. -/
structure Fine : Prop where
  freq : 1 ≤ r0 ∧ r0 ≤ 4
  step : 1 ≤ r1 ∧ r1 ≤ 1000
  count : 0 ≤ r2 ∧ r2 ≤ 10000
  till : r3 = -1 ∨ (0 ≤ r3 ∧ r3 ≤ 253402300799)
  plain : r0 ≤ 2 → ∀ x, x ∈ l9 → x.f1 = 0
theorem right_both (h7 : l7.length ≤ 9223372036854775807) (h8 : l8.length ≤ 9223372036854775807) (h9 : l9.length ≤ 9223372036854775807) :
    ∃ b, Ev (fun k => recur_Right.f k r0 r1 r2 r3 l7 l8 l9) b ∧ Ev (fun k => posthornref21_Right.f k r0 r1 r2 r3 l7 l8 (l9.map cv)) b ∧ (b = true → Fine r0 r1 r2 r3 l9) := by
  obtain ⟨a, a1, a2⟩ := rises_both l7 1 12 h7
  obtain ⟨b, b1, b2⟩ := rises_both l8 (-31) 31 h8
  obtain ⟨w, w1, w2, w3⟩ := week_both r0 r1 r2 r3 l7 l8 l9 (decide (r0 ≥ 3)) h9 l9 0 rfl (fun h => absurd h (by omega))
  have w2' : Ev (fun k => posthornref21_week.f k (l9.map cv) (decide (r0 ≥ 3))) w := w2
  -- the program's tail, the document's
  have j2t : ∀ x : Bool, Ev (fun k => recur_Right.j2 k x true r0 r1 r2 r3 l7 l8 l9) false := fun x => Ev.step (f := fun _ => some false) (fun k => by simp only [recur_Right.j2, if_true]) (Ev.now _)
  have j2f : Ev (fun k => recur_Right.j2 k (decide (r0 ≥ 3)) false r0 r1 r2 r3 l7 l8 l9) w := Ev.step (fun k => by simp only [recur_Right.j2, Bool.false_eq_true, if_false]; rfl) w1
  have d2t : Ev (fun k => posthornref21_Right.j2 k true r0 r1 r2 r3 l7 l8 (l9.map cv)) false := Ev.step (f := fun _ => some false) (fun k => by simp only [posthornref21_Right.j2, if_true]) (Ev.now _)
  have d2f : Ev (fun k => posthornref21_Right.j2 k false r0 r1 r2 r3 l7 l8 (l9.map cv)) (a && (b && w)) := by
    refine Ev.step (fun k => by simp only [posthornref21_Right.j2, Bool.false_eq_true, if_false]; rfl) ?_
    refine Ev.bind a2 ?_
    cases a with
    | false => exact Ev.now _
    | true =>
      refine Ev.bind b2 ?_
      cases b with
      | false => exact Ev.now _
      | true => exact Ev.bind w2' (Ev.now _)
  have pA : Ev (fun k => (recur_rises.f k l7 1 12).bind fun t109 => (if t109 = true then ((recur_rises.f k l8 (-31) 31).bind fun t110 => (if t110 = true then (if decide (r0 ≥ 3) = true then (recur_Right.j2 k (decide (r0 ≥ 3)) false r0 r1 r2 r3 l7 l8 l9) else (recur_Right.j2 k (decide (r0 ≥ 3)) (decide ((l8.length : Int) > 0)) r0 r1 r2 r3 l7 l8 l9)) else (recur_Right.j2 k (decide (r0 ≥ 3)) true r0 r1 r2 r3 l7 l8 l9))) else (recur_Right.j2 k (decide (r0 ≥ 3)) true r0 r1 r2 r3 l7 l8 l9))) ((decide (r0 ≥ 3) || decide (l8.length = 0)) && (a && (b && w))) := by
    refine Ev.bind a1 ?_
    cases a with
    | false => rw [Bool.false_and, Bool.and_false]; exact j2t _
    | true =>
      refine Ev.bind b1 ?_
      cases b with
      | false => rw [Bool.false_and, Bool.and_false, Bool.and_false]; exact j2t _
      | true =>
        rw [Bool.true_and, Bool.true_and]
        by_cases c : r0 ≥ 3
        · rw [decide_eq_true c] at j2f ⊢
          exact j2f
        · rw [decide_eq_false c] at j2f ⊢
          rw [Bool.false_or]
          by_cases c8 : l8.length = 0
          · simp only [Bool.false_eq_true, if_false, if_true]
            rw [decide_eq_true c8, decide_eq_false (by omega)]
            exact j2f
          · simp only [Bool.false_eq_true, if_false, if_true]
            rw [decide_eq_false c8, decide_eq_true (by omega)]
            exact j2t _
  have dA : Ev (fun k => posthornref21_Right.j1 k false r0 r1 r2 r3 l7 l8 (l9.map cv)) ((decide (r0 ≥ 3) || decide (l8.length = 0)) && (a && (b && w))) := by
    refine Ev.step (fun k => by simp only [posthornref21_Right.j1, Bool.false_eq_true, if_false]; rfl) ?_
    by_cases c : r0 ≥ 3
    · simp only [if_neg (show ¬ r0 ≤ 2 by omega)]
      rw [decide_eq_true c, Bool.true_or, Bool.true_and]
      exact d2f
    · simp only [if_pos (show r0 ≤ 2 by omega)]
      rw [decide_eq_false c, Bool.false_or]
      by_cases c8 : l8.length = 0
      · rw [decide_eq_true c8, decide_eq_false (by omega), Bool.true_and]
        exact d2f
      · rw [decide_eq_false c8, decide_eq_true (by omega), Bool.false_and]
        exact d2t
  by_cases R : (1 ≤ r0 ∧ r0 ≤ 4) ∧ (1 ≤ r1 ∧ r1 ≤ 1000) ∧ (0 ≤ r2 ∧ r2 ≤ 10000)
  · have hx : (if r0 = 3 then true else (r0 == 4)) = decide (r0 ≥ 3) := by
      by_cases c3 : r0 = 3
      · rw [if_pos c3, decide_eq_true (by omega)]
      · rw [if_neg c3, Bool.eq_iff_iff]; simp only [beq_iff_eq, decide_eq_true_eq]; omega
    have pf : ∀ r, Ev (fun k => recur_Right.j1 k (decide (r0 ≥ 3)) false r0 r1 r2 r3 l7 l8 l9) r → Ev (fun k => recur_Right.f k r0 r1 r2 r3 l7 l8 l9) r := by
      intro r hr
      have hj : Ev (fun k => recur_Right.j0 k (decide (r0 ≥ 3)) r0 r1 r2 r3 l7 l8 l9) r := by
        refine Ev.step (fun k => ?_) hr
        simp only [recur_Right.j0]
        rw [if_neg (by omega), if_neg (by omega), if_neg (by omega), if_neg (by omega), if_neg (by omega), decide_eq_false (show ¬ r2 > 10000 by omega)]
      rw [← hx] at hj
      unfold recur_Right.f
      by_cases c3 : r0 = 3
      · simp only [if_pos c3] at hj ⊢
        exact hj
      · simp only [if_neg c3] at hj ⊢
        exact hj
    have df : ∀ r, Ev (fun k => posthornref21_Right.j0 k false r0 r1 r2 r3 l7 l8 (l9.map cv)) r → Ev (fun k => posthornref21_Right.f k r0 r1 r2 r3 l7 l8 (l9.map cv)) r := by
      intro r hr
      unfold posthornref21_Right.f
      simp only [if_neg (show ¬ r0 < 1 by omega), if_neg (show ¬ r0 > 4 by omega), if_neg (show ¬ r1 < 1 by omega), if_neg (show ¬ r1 > 1000 by omega), if_neg (show ¬ r2 < 0 by omega), decide_eq_false (show ¬ r2 > 10000 by omega)]
      exact hr
    have fine : ((decide (r0 ≥ 3) || decide (l8.length = 0)) && (a && (b && w))) = true → (r3 = -1 ∨ (0 ≤ r3 ∧ r3 ≤ 253402300799)) → Fine r0 r1 r2 r3 l9 := fun h ht => by
      simp only [Bool.and_eq_true] at h
      exact ⟨R.1, R.2.1, R.2.2, ht, fun h2 => w3 h.2.2.2 (decide_eq_false (by omega))⟩
    have no : ∀ g : Prop, false = true → g := fun _ h => by cases h
    by_cases c3 : r3 = -1
    · refine ⟨_, pf _ (Ev.step (fun k => ?_) pA), df _ (Ev.step (fun k => ?_) dA), fun h => fine h (.inl c3)⟩
      · simp only [recur_Right.j1, Bool.false_eq_true, if_false]
        rw [if_pos c3]
      · simp only [posthornref21_Right.j0, Bool.false_eq_true, if_false]
        rw [if_pos c3]
    · by_cases ct : 0 ≤ r3 ∧ r3 ≤ 253402300799
      · by_cases c2 : r2 = 0
        · refine ⟨_, pf _ (Ev.step (fun k => ?_) pA), df _ (Ev.step (fun k => ?_) dA), fun h => fine h (.inr ct)⟩
          · simp only [recur_Right.j1, Bool.false_eq_true, if_false, when_f, Option.bind_some, decide_eq_true ct, if_true]
            rw [if_neg c3, if_pos c2]
          · simp only [posthornref21_Right.j0, Bool.false_eq_true, if_false, time12, Option.bind_some, decide_eq_true ct, if_true]
            rw [if_neg c3, decide_eq_false (by omega)]
        · refine ⟨false, pf _ (Ev.step (fun k => ?_) (j2t (decide (r0 ≥ 3)))), df _ (Ev.step (f := fun k => posthornref21_Right.j1 k true r0 r1 r2 r3 l7 l8 (l9.map cv)) (fun k => ?_) (Ev.step (f := fun _ => some false) (fun k => by simp only [posthornref21_Right.j1, if_true]) (Ev.now _))), no _⟩
          · simp only [recur_Right.j1, Bool.false_eq_true, if_false, when_f, Option.bind_some, decide_eq_true ct, if_true]
            rw [if_neg c3, if_neg c2]
          · simp only [posthornref21_Right.j0, Bool.false_eq_true, if_false, time12, Option.bind_some, decide_eq_true ct, if_true]
            rw [if_neg c3, decide_eq_true (by omega)]
      · refine ⟨false, pf _ (Ev.step (fun k => ?_) (j2t (decide (r0 ≥ 3)))), df _ (Ev.step (f := fun k => posthornref21_Right.j1 k true r0 r1 r2 r3 l7 l8 (l9.map cv)) (fun k => ?_) (Ev.step (f := fun _ => some false) (fun k => by simp only [posthornref21_Right.j1, if_true]) (Ev.now _))), no _⟩
        · simp only [recur_Right.j1, Bool.false_eq_true, if_false, when_f, Option.bind_some, decide_eq_false ct]
          rw [if_neg c3]
        · simp only [posthornref21_Right.j0, Bool.false_eq_true, if_false, time12, Option.bind_some, decide_eq_false ct]
          rw [if_neg c3]
  · refine ⟨false, ?_, ?_, fun h => by cases h⟩
    · have j1t : ∀ x : Bool, Ev (fun k => recur_Right.j1 k x true r0 r1 r2 r3 l7 l8 l9) false := fun x => Ev.step (f := fun _ => some false) (fun k => by simp only [recur_Right.j1, if_true]) (Ev.now _)
      have j0 : ∀ x : Bool, Ev (fun k => recur_Right.j0 k x r0 r1 r2 r3 l7 l8 l9) false := fun x => by
        refine Ev.step (fun k => ?_) (j1t x)
        simp only [recur_Right.j0]
        by_cases c1 : r0 < 1
        · rw [if_pos c1]
        · rw [if_neg c1]
          by_cases c2 : r0 > 4
          · rw [if_pos c2]
          · rw [if_neg c2]
            by_cases c3 : r1 < 1
            · rw [if_pos c3]
            · rw [if_neg c3]
              by_cases c4 : r1 > 1000
              · rw [if_pos c4]
              · rw [if_neg c4]
                by_cases c5 : r2 < 0
                · rw [if_pos c5]
                · rw [if_neg c5, decide_eq_true (by omega)]
      unfold recur_Right.f
      by_cases c3 : r0 = 3
      · simp only [if_pos c3]; exact j0 _
      · simp only [if_neg c3]; exact j0 _
    · have j0 : Ev (fun k => posthornref21_Right.j0 k true r0 r1 r2 r3 l7 l8 (l9.map cv)) false := Ev.step (f := fun _ => some false) (fun k => by simp only [posthornref21_Right.j0, if_true]) (Ev.now _)
      unfold posthornref21_Right.f
      by_cases c1 : r0 < 1
      · simp only [if_pos c1]; exact j0
      · simp only [if_neg c1]
        by_cases c2 : r0 > 4
        · simp only [if_pos c2]; exact j0
        · simp only [if_neg c2]
          by_cases c3 : r1 < 1
          · simp only [if_pos c3]; exact j0
          · simp only [if_neg c3]
            by_cases c4 : r1 > 1000
            · simp only [if_pos c4]; exact j0
            · simp only [if_neg c4]
              by_cases c5 : r2 < 0
              · simp only [if_pos c5]; exact j0
              · simp only [if_neg c5]
                rw [decide_eq_true (show r2 > 10000 by omega)]; exact j0
end
end Go.Proofs.YtbeihceeliifeaaGreatDoor.Rule
/- A rule's times: the program's and the document's agree. -/
set_option linter.unusedVariables false
namespace Go.Proofs.YtbeihceeliifeaaGreatDoor.Exp
open Go.RowKit Go.Proofs.YtbeihceeliifeaaGreatDoorW.PrintWords Go.Proofs.YtbeihceeliifeaaGreatDoorW.PrintLast Go.Proofs.YtbeihceeliifeaaGreatDoorW.PrintMore Go.Proofs.YtbeihceeliifeaaGreatDoor.PR Go.Proofs.YtbeihceeliifeaaGreatDoor.Cal Go.Proofs.YtbeihceeliifeaaGreatDoor.Base Go.Proofs.YtbeihceeliifeaaGreatDoor.Match Go.Proofs.YtbeihceeliifeaaGreatDoor.Times Go.Proofs.YtbeihceeliifeaaGreatDoor.Agree Go.Proofs.YtbeihceeliifeaaGreatDoor.Rule

/-! ### days, step by step -/
theorem ev_neg {α : Type} {c : Prop} [Decidable c] {f g : Nat → Option α} {r : α} (h : ¬ c) (e : Ev g r) : Ev (fun n => if c then f n else g n) r := by
  simp only [if_neg h]
  exact e
theorem ev_pos {α : Type} {c : Prop} [Decidable c] {f g : Nat → Option α} {r : α} (h : c) (e : Ev f r) : Ev (fun n => if c then f n else g n) r := by
  simp only [if_pos h]
  exact e
theorem span_fuel (step last : Int) (hs : 1 ≤ step) : ∀ (n m : Nat) (d : Int), last - d < n → last - d < m → span step last n d = span step last m d := by
  intro n
  induction n with
  | zero =>
    intro m d h1 h2
    cases m with
    | zero => rfl
    | succ m => unfold span; rw [if_neg (by omega)]
  | succ n ih =>
    intro m d h1 h2
    cases m with
    | zero => unfold span; rw [if_neg (by omega)]
    | succ m =>
      unfold span
      by_cases c : d ≤ last
      · rw [if_pos c, if_pos c, ih m (d + step) (by omega) (by omega)]
      · rw [if_neg c, if_neg c]
/-- Days of which none is meant fall away. -/
theorem skip (last : Int) (p : Int → Bool) : ∀ (j n m : Nat) (d : Int), last - d < n → last - (d + j) < m → (∀ x, d ≤ x → x < d + j → p x = false) → (span 1 last n d).filter p = (span 1 last m (d + j)).filter p := by
  intro j
  induction j with
  | zero => intro n m d h1 h2 _; rw [show d + ((0 : Nat) : Int) = d from by omega] at h2 ⊢; rw [span_fuel 1 last (by omega) n m d h1 h2]
  | succ j ih =>
    intro n m d h1 h2 hp
    cases n with
    | zero =>
      have : span 1 last m (d + ((j + 1 : Nat) : Int)) = [] := by
        cases m with
        | zero => rfl
        | succ m => unfold span; rw [if_neg (by omega)]
      rw [this]
      rfl
    | succ n =>
      rw [show span 1 last (n + 1) d = if d ≤ last then d :: span 1 last n (d + 1) else [] from rfl]
      by_cases c : d ≤ last
      · rw [if_pos c, List.filter_cons_of_neg (by rw [hp d (by omega) (by omega)]; decide), ih n m (d + 1) (by omega) (by omega) (fun x h1 h2 => hp x (by omega) (by omega))]
        rw [show d + 1 + (j : Int) = d + ((j + 1 : Nat) : Int) from by omega]
      · rw [if_neg c]
        have : span 1 last m (d + ((j + 1 : Nat) : Int)) = [] := by
          cases m with
          | zero => rfl
          | succ m => unfold span; rw [if_neg (by omega)]
        rw [this]
/-- Day by day, or in steps, where what lies between is not meant. -/
theorem steps (last step : Int) (hs : 1 ≤ step) (p : Int → Bool) (first : Int) (hp : ∀ x, first < x → (x - first) % step ≠ 0 → p x = false) : ∀ (n m : Nat) (d : Int), last - d < n → last - d < m → first ≤ d → (d - first) % step = 0 →
    (span 1 last n d).filter p = (span step last m d).filter p := by
  intro n m
  induction m generalizing n with
  | zero =>
    intro d h1 h2 _ _
    have : span 1 last n d = [] := by
      cases n with
      | zero => rfl
      | succ n => unfold span; rw [if_neg (by omega)]
    rw [this]
    rfl
  | succ m ih =>
    intro d h1 h2 hf hd
    cases n with
    | zero => unfold span; rw [if_neg (by omega)]
    | succ n =>
      unfold span
      by_cases c : d ≤ last
      · rw [if_pos c, if_pos c]
        have e1 : (span 1 last n (d + 1)).filter p = (span step last m (d + step)).filter p := by
          have hk := skip last p (step - 1).toNat n n (d + 1) (by omega) (by omega) (fun x h3 h4 => hp x (by omega) (fun h0 => by
            have : (x - d) % step = 0 := by
              have e : x - first = (x - d) + (d - first) := by omega
              rw [e, Int.add_emod, hd, Int.add_zero, Int.emod_emod_of_dvd _ (Int.dvd_refl _)] at h0
              exact h0
            rw [Int.emod_eq_of_lt (by omega) (by omega)] at this
            omega))
          rw [hk, show d + 1 + ((step - 1).toNat : Int) = d + step from by omega]
          exact ih n (d + step) (by omega) (by omega) (by omega) (by
            have e : d + step - first = (d - first) + step := by omega
            rw [e, Int.add_emod_right]
            exact hd)
        rw [List.filter_cons, List.filter_cons, e1]
      · rw [if_neg c, if_neg c]
section
variable (r0 r1 r2 r3 : Int) (l7 l8 : List Int) (l9 : List S53)
/-- A day of a daily rule that is no step away does not match. -/
theorem off_step (h7 : l7.length ≤ 9223372036854775807) (fine : Fine r0 r1 r2 r3 l9) (a b : Int) (ha : 0 ≤ a) (hab : a ≤ b) (hb : b ≤ 2932896) (h1 : r0 = 1) (hm : (b - a) % r1 ≠ 0) : Ev (fun k => recur_match.f k r0 r1 r2 r3 l7 l8 l9 a b) false := by
  obtain ⟨y0, m0, d0, hI0, hE0⟩ := civil_ev a ha (by omega)
  obtain ⟨y, m, d, hI, hE⟩ := civil_ev b (by omega) hb
  have hr := fine.step
  have j : ∀ (z : Bool) (wd w0 : Int), Ev (fun k => recur_match.j0 k a b y0 ((m0 + 1 : Nat) : Int) d0 y ((m + 1 : Nat) : Int) d wd w0 r1 z r0 r1 r2 r3 l7 l8 l9) false := by
    intro z wd w0
    refine Ev.step (f := fun _ => some false) (fun k => ?_) (Ev.now _)
    rw [recur_match.j0.eq_2]
    by_cases c : z = true
    · rw [if_pos c]
    · rw [if_neg c, if_pos h1, if_neg (by omega), show wrap64 (b - a) = b - a from by unfold wrap64; omega, tmodI (by omega), if_neg hm]
  unfold recur_match.f
  refine Ev.bind hE0 ?_
  refine Ev.bind hE ?_
  simp only [weekday_f ha (by omega), weekday_f (show 0 ≤ b by omega) hb, Option.bind_some, if_neg (show ¬ (b < a) by omega)]
  by_cases c : (l7.length : Int) > 0
  · simp only [if_pos c]
    exact Ev.bind (contains_ev l7 _ h7) (j _ _ _)
  · simp only [if_neg c]
    exact j _ _ _
theorem fits_ev {a b : Int} {v : Bool} (h : Ev (fun k => recur_match.f k r0 r1 r2 r3 l7 l8 l9 a b) v) : fits r0 r1 r2 r3 l7 l8 l9 a b = v := by
  have hex : ∃ b', Ev (fun k => recur_match.f k r0 r1 r2 r3 l7 l8 l9 a b) b' := ⟨v, h⟩
  unfold fits
  rw [dif_pos hex]
  exact ev_one hex.choose_spec h
/-- The program's times. -/
theorem expand_ev (s0 lo hi most : Int) (hmo : 1 ≤ most ∧ most ≤ 1000) (hr : Ev (fun k => recur_Right.f k r0 r1 r2 r3 l7 l8 l9) true) (h7 : l7.length ≤ 9223372036854775807) (h8 : l8.length ≤ 9223372036854775807) (h9 : l9.length ≤ 77)
    (hs : 0 ≤ s0 ∧ s0 ≤ 253402300799) (hlo : 0 ≤ lo ∧ lo ≤ 253402300799) (hhi : 0 ≤ hi ∧ hi ≤ 253402300799) (hw : hi - s0 ≤ 631152000) :
    Ev (fun k => recur_Expand.f k r0 r1 r2 r3 l7 l8 l9 s0 lo hi most) (Expand.exRun r2 r3 s0 lo hi most 0 [] (daysTo r0 r1 r2 r3 l7 l8 l9 s0 hi), 0) := by
  have hi1 := rule_interval r0 r1 r2 r3 l7 l8 l9 hr
  unfold recur_Expand.f
  refine Ev.bind hr ?_
  refine ev_neg (by decide) ?_
  refine ev_neg (fun h => h ⟨hs, hlo, hhi⟩) ?_
  refine ev_neg (fun h => h ⟨hw, hmo⟩) ?_
  refine ev_pos hi1 ?_
  have hstep : 1 ≤ (if r0 = 1 then r1 else 1) ∧ (if r0 = 1 then r1 else 1) ≤ 1000 := by split <;> omega
  have hB : ∀ d, s0 / 86400 ≤ d → d ≤ min (hi / 86400) 2932896 → Ev (fun k => recur_match.f k r0 r1 r2 r3 l7 l8 l9 (s0 / 86400) d) (fits r0 r1 r2 r3 l7 l8 l9 (s0 / 86400) d) := by
    intro d h1 h2
    obtain ⟨b, hb, -⟩ := match_fin r0 r1 r2 r3 l7 l8 l9 (s0 / 86400) d h7 h8 (by omega) hi1.1 ⟨by omega, by omega⟩ ⟨by omega, by omega⟩
    rw [fits_ev r0 r1 r2 r3 l7 l8 l9 hb]
    exact hb
  have hd := days_ev (fun k d => recur_match.f k r0 r1 r2 r3 l7 l8 l9 (s0 / 86400) d) (fits r0 r1 r2 r3 l7 l8 l9 (s0 / 86400)) (s0 / 86400) (min (hi / 86400) 2932896) (if r0 = 1 then r1 else 1) (by omega) (by omega) hstep hB 3000000 (s0 / 86400) (Int.le_refl _) (by omega)
  exact Ev.bind hd (Ev.now _)
theorem run_full (cnt until_ first from_ to_ most : Int) (c : Int) (out : List Int) (h : (out.length : Int) = most) : ∀ ds, Expand.exRun cnt until_ first from_ to_ most c out ds = out := by
  intro ds
  cases ds with
  | nil => rfl
  | cons d ds => simp only [Expand.exRun]; rw [if_pos (by simp [Expand.exStop, h])]
/-- In steps, or day by day: the same days. -/
theorem days_all (h7 : l7.length ≤ 9223372036854775807) (fine : Fine r0 r1 r2 r3 l9) (s0 hi : Int) (hs : 0 ≤ s0 ∧ s0 ≤ 253402300799) (hhi : 0 ≤ hi ∧ hi ≤ 253402300799) :
    daysTo r0 r1 r2 r3 l7 l8 l9 s0 hi = (span 1 (min (hi / 86400) 2932896) 3000000 (s0 / 86400)).filter fun x => x == s0 / 86400 || fits r0 r1 r2 r3 l7 l8 l9 (s0 / 86400) x := by
  unfold daysTo
  by_cases c1 : r0 = 1
  · rw [if_pos c1]
    have hmem := fun x => span_mem r1 (min (hi / 86400) 2932896) (by have := fine.step; omega) 3000000 (s0 / 86400) x
    have hp : ∀ x, s0 / 86400 < x → (x - s0 / 86400) % r1 ≠ 0 → ((fun x => decide (x ≤ 2932896) && (x == s0 / 86400 || fits r0 r1 r2 r3 l7 l8 l9 (s0 / 86400) x)) x) = false := by
      intro x h1 h2
      by_cases hx : x ≤ 2932896
      · have := fits_ev r0 r1 r2 r3 l7 l8 l9 (off_step r0 r1 r2 r3 l7 l8 l9 h7 fine (s0 / 86400) x (by omega) (by omega) hx c1 h2)
        simp only [this, Bool.or_false, beq_eq_false_iff_ne.mpr (show x ≠ s0 / 86400 by omega), Bool.and_false]
      · simp only [decide_eq_false hx, Bool.false_and]
    have hst := steps (min (hi / 86400) 2932896) r1 fine.step.1 (fun x => decide (x ≤ 2932896) && (x == s0 / 86400 || fits r0 r1 r2 r3 l7 l8 l9 (s0 / 86400) x)) (s0 / 86400) hp 3000000 3000000 (s0 / 86400) (by omega) (by omega) (Int.le_refl _) (by rw [Int.sub_self]; simp)
    have drop : ∀ step, 1 ≤ step → (span step (min (hi / 86400) 2932896) 3000000 (s0 / 86400)).filter (fun x => decide (x ≤ 2932896) && (x == s0 / 86400 || fits r0 r1 r2 r3 l7 l8 l9 (s0 / 86400) x)) = (span step (min (hi / 86400) 2932896) 3000000 (s0 / 86400)).filter (fun x => x == s0 / 86400 || fits r0 r1 r2 r3 l7 l8 l9 (s0 / 86400) x) := by
      intro step h1
      refine List.filter_congr (fun x hx => ?_)
      have := span_mem step (min (hi / 86400) 2932896) (by omega) 3000000 (s0 / 86400) x hx
      rw [decide_eq_true (show x ≤ 2932896 by omega), Bool.true_and]
    rw [drop 1 (by omega), drop r1 fine.step.1] at hst
    exact hst.symm
  · rw [if_neg c1]
/-- The document's times: day by day. -/
theorem expand21 (s0 lo hi most : Int) (hmo : 1 ≤ most ∧ most ≤ 1000) (hr : Ev (fun k => posthornref21_Right.f k r0 r1 r2 r3 l7 l8 (l9.map cv)) true) (fine : Fine r0 r1 r2 r3 l9) (h7 : l7.length ≤ 9223372036854775807) (h8 : l8.length ≤ 9223372036854775807) (h9 : l9.length ≤ 77) (hok : ∀ x, x ∈ l9 → okDay x)
    (hs : 0 ≤ s0 ∧ s0 ≤ 253402300799) (hlo : 0 ≤ lo ∧ lo ≤ 253402300799) (hhi : 0 ≤ hi ∧ hi ≤ 253402300799) (hw : hi - s0 ≤ 631152000) :
    Ev (fun k => posthornref21_Expand.f k r0 r1 r2 r3 l7 l8 (l9.map cv) s0 lo hi most) (Expand.exRun r2 r3 s0 lo hi most 0 [] (daysTo r0 r1 r2 r3 l7 l8 l9 s0 hi), 0) := by
  have hdays := days_all r0 r1 r2 r3 l7 l8 l9 h7 fine s0 hi hs hhi
  have hM : ∀ d, s0 / 86400 ≤ d → d ≤ 2932896 → Ev (fun k => posthornref21_Matches.f k r0 r1 r2 r3 l7 l8 (l9.map cv) (s0 / 86400) d) (fits r0 r1 r2 r3 l7 l8 l9 (s0 / 86400) d) := by
    intro d h1 h2
    obtain ⟨b, e1, e2⟩ := match_both r0 r1 r2 r3 l7 l8 l9 (s0 / 86400) d h7 h8 h9 hok fine.plain fine.step.1 (by omega) h1 h2
    rw [fits_ev r0 r1 r2 r3 l7 l8 l9 e1]
    exact e2
  have hcount := fine.count
  have htill := fine.till
  have j3f : ∀ (out : List Int) (c t : Int), Ev (fun k => posthornref21_Expand.j3 k s0 lo hi most out c t false r0 r1 r2 r3 l7 l8 (l9.map cv)) (out, 0) := fun out c t => Ev.step (f := fun _ => some (out, 0)) (fun k => by simp only [posthornref21_Expand.j3, Bool.false_eq_true, if_false]) (Ev.now _)
  have loop : ∀ (n : Nat) (d c : Int) (out : List Int), s0 / 86400 ≤ d → min (hi / 86400) 2932896 - d < n → (out.length : Int) ≤ most →
      Ev (fun k => posthornref21_Expand.l0 k s0 lo hi most out c (d * 86400 + s0 % 86400) r0 r1 r2 r3 l7 l8 (l9.map cv)) (Expand.exRun r2 r3 s0 lo hi most c out ((span 1 (min (hi / 86400) 2932896) n d).filter fun x => x == s0 / 86400 || fits r0 r1 r2 r3 l7 l8 l9 (s0 / 86400) x), 0) := by
    intro n
    induction n with
    | zero =>
      intro d c out hd hn hl
      refine Ev.step (f := fun k => posthornref21_Expand.j3 k s0 lo hi most out c (d * 86400 + s0 % 86400) false r0 r1 r2 r3 l7 l8 (l9.map cv)) (fun k => ?_) (j3f _ _ _)
      simp only [posthornref21_Expand.l0]
      rw [if_neg (by omega)]
    | succ n ih =>
      intro d c out hd hn hl
      by_cases ct : d * 86400 + s0 % 86400 < hi
      · have hdl : d ≤ min (hi / 86400) 2932896 := by omega
        have hsp : span 1 (min (hi / 86400) 2932896) (n + 1) d = d :: span 1 (min (hi / 86400) 2932896) n (d + 1) := by rw [span, if_pos hdl]
        by_cases cl : (out.length : Int) < most
        · have nxt := fun c out h => ih (d + 1) c out (by omega) (by omega) h
          have et : wrap64 (d * 86400 + s0 % 86400 + 86400) = (d + 1) * 86400 + s0 % 86400 := by unfold wrap64; omega
          have etime : Expand.exTime s0 d = d * 86400 + s0 % 86400 := time_eq (by omega) (by omega)
          rw [hsp]
          refine Ev.step (f := fun k => posthornref21_Expand.j3 k s0 lo hi most out c (d * 86400 + s0 % 86400) true r0 r1 r2 r3 l7 l8 (l9.map cv)) (fun k => ?_) ?_
          · simp only [posthornref21_Expand.l0]
            rw [if_pos ct, decide_eq_true cl]
          · have j4t : ∀ R, Ev (fun k => posthornref21_Expand.l0 k s0 lo hi most out c ((d + 1) * 86400 + s0 % 86400) r0 r1 r2 r3 l7 l8 (l9.map cv)) R → Ev (fun k => posthornref21_Expand.j4 k s0 lo hi most out c (d * 86400 + s0 % 86400) true r0 r1 r2 r3 l7 l8 (l9.map cv)) R := fun R h => Ev.step (fun k => by simp only [posthornref21_Expand.j4, if_true, et]) h
            have j5t : ∀ c', Ev (fun k => posthornref21_Expand.j5 k s0 lo hi most out c' (d * 86400 + s0 % 86400) true r0 r1 r2 r3 l7 l8 (l9.map cv)) (out, 0) := fun c' => Ev.step (f := fun _ => some (out, 0)) (fun k => by simp only [posthornref21_Expand.j5, if_true]) (Ev.now _)
            have j5f : ∀ ds, (∀ o, (o.length : Int) ≤ most → Ev (fun k => posthornref21_Expand.l0 k s0 lo hi most o (wrap64 (c + 1)) ((d + 1) * 86400 + s0 % 86400) r0 r1 r2 r3 l7 l8 (l9.map cv)) (Expand.exRun r2 r3 s0 lo hi most (wrap64 (c + 1)) o ds, 0)) →
                Ev (fun k => posthornref21_Expand.j5 k s0 lo hi most out (wrap64 (c + 1)) (d * 86400 + s0 % 86400) false r0 r1 r2 r3 l7 l8 (l9.map cv)) (Expand.exRun r2 r3 s0 lo hi most (wrap64 (c + 1)) (Expand.exPut s0 lo out d) ds, 0) := by
              intro ds h
              unfold Expand.exPut
              rw [etime]
              by_cases cp : d * 86400 + s0 % 86400 ≥ lo
              · rw [if_pos cp]
                refine Ev.step (fun k => ?_) (h (out ++ [d * 86400 + s0 % 86400]) (by simp; omega))
                simp only [posthornref21_Expand.j5, Bool.false_eq_true, if_false, et]
                rw [if_pos cp, if_pos (by omega)]
              · rw [if_neg cp]
                refine Ev.step (fun k => ?_) (h out hl)
                simp only [posthornref21_Expand.j5, Bool.false_eq_true, if_false, et]
                rw [if_neg cp]
            have j4f : ∀ ds, (∀ o, (o.length : Int) ≤ most → Ev (fun k => posthornref21_Expand.l0 k s0 lo hi most o (wrap64 (c + 1)) ((d + 1) * 86400 + s0 % 86400) r0 r1 r2 r3 l7 l8 (l9.map cv)) (Expand.exRun r2 r3 s0 lo hi most (wrap64 (c + 1)) o ds, 0)) →
                Ev (fun k => posthornref21_Expand.j4 k s0 lo hi most out c (d * 86400 + s0 % 86400) false r0 r1 r2 r3 l7 l8 (l9.map cv)) (Expand.exRun r2 r3 s0 lo hi most c out (d :: ds), 0) := by
              intro ds h
              have hst : Expand.exStop r2 r3 s0 hi most c (out.length : Int) d = ((decide (r2 > 0) && decide (wrap64 (c + 1) > r2)) || (decide (r3 ≥ 0) && decide (d * 86400 + s0 % 86400 > r3))) := by
                unfold Expand.exStop
                rw [etime, decide_eq_false (show ¬ (d * 86400 + s0 % 86400 ≥ hi) by omega), Bool.false_or, beq_eq_false_iff_ne.mpr (show (out.length : Int) ≠ most by omega), Bool.or_false]
                congr 2
                rw [Bool.eq_iff_iff]
                simp only [Bool.not_eq_true', beq_eq_false_iff_ne, decide_eq_true_eq, ne_eq]
                omega
              simp only [Expand.exRun, hst]
              have h5 := j5f ds h
              by_cases q1 : r2 > 0 ∧ wrap64 (c + 1) > r2
              · rw [decide_eq_true q1.1, decide_eq_true q1.2, Bool.true_and, Bool.true_or, if_pos rfl]
                refine Ev.step (fun k => ?_) (j5t (wrap64 (c + 1)))
                simp only [posthornref21_Expand.j4, Bool.false_eq_true, if_false]
                rw [if_pos q1.1, if_pos q1.2]
              · have e1 : (decide (r2 > 0) && decide (wrap64 (c + 1) > r2)) = false := by
                  rw [Bool.eq_false_iff]; simp only [ne_eq, Bool.and_eq_true, decide_eq_true_eq]; exact q1
                rw [e1, Bool.false_or]
                have st : ∀ R z, (z = (decide (r3 ≥ 0) && decide (d * 86400 + s0 % 86400 > r3))) → Ev (fun k => posthornref21_Expand.j5 k s0 lo hi most out (wrap64 (c + 1)) (d * 86400 + s0 % 86400) z r0 r1 r2 r3 l7 l8 (l9.map cv)) R → Ev (fun k => posthornref21_Expand.j4 k s0 lo hi most out c (d * 86400 + s0 % 86400) false r0 r1 r2 r3 l7 l8 (l9.map cv)) R := by
                  intro R z hz hR
                  refine Ev.step (fun k => ?_) hR
                  simp only [posthornref21_Expand.j4, Bool.false_eq_true, if_false]
                  have inner : (if r3 ≥ 0 then posthornref21_Expand.j5 k s0 lo hi most out (wrap64 (c + 1)) (d * 86400 + s0 % 86400) (decide (d * 86400 + s0 % 86400 > r3)) r0 r1 r2 r3 l7 l8 (l9.map cv) else posthornref21_Expand.j5 k s0 lo hi most out (wrap64 (c + 1)) (d * 86400 + s0 % 86400) false r0 r1 r2 r3 l7 l8 (l9.map cv)) = posthornref21_Expand.j5 k s0 lo hi most out (wrap64 (c + 1)) (d * 86400 + s0 % 86400) z r0 r1 r2 r3 l7 l8 (l9.map cv) := by
                    by_cases q2 : r3 ≥ 0
                    · rw [if_pos q2, hz, decide_eq_true q2, Bool.true_and]
                    · rw [if_neg q2, hz, decide_eq_false q2, Bool.false_and]
                  by_cases q0 : r2 > 0
                  · rw [if_pos q0, if_neg (fun h => q1 ⟨q0, h⟩)]
                    exact inner
                  · rw [if_neg q0]
                    exact inner
                cases hz : (decide (r3 ≥ 0) && decide (d * 86400 + s0 % 86400 > r3)) with
                | true =>
                  rw [if_pos rfl]
                  exact st _ true hz.symm (j5t _)
                | false =>
                  rw [if_neg (by decide)]
                  exact st _ false hz.symm h5
            by_cases cf : d = s0 / 86400
            · rw [List.filter_cons_of_pos (by simp [cf])]
              refine Ev.step (fun k => ?_) (j4f _ (fun o ho => nxt (wrap64 (c + 1)) o ho))
              simp only [posthornref21_Expand.j3, if_true]
              rw [if_neg (by omega)]
            · have eA : wrap64 (Int.tdiv s0 86400) = s0 / 86400 := by rw [tdivI hs.1]; unfold wrap64; omega
              have eB : wrap64 (Int.tdiv (d * 86400 + s0 % 86400) 86400) = d := by rw [tdivI (by omega)]; unfold wrap64; omega
              refine Ev.step (fun k => by simp only [posthornref21_Expand.j3, if_true, eA, eB]; rw [if_pos (show d * 86400 + s0 % 86400 > s0 by omega)]) ?_
              refine Ev.bind (hM d hd (by omega)) ?_
              cases hf : fits r0 r1 r2 r3 l7 l8 l9 (s0 / 86400) d with
              | true =>
                rw [List.filter_cons_of_pos (by simp [hf])]
                exact j4f _ (fun o ho => nxt (wrap64 (c + 1)) o ho)
              | false =>
                rw [List.filter_cons_of_neg (by simp [hf, cf])]
                exact j4t _ (nxt c out hl)
        · rw [run_full r2 r3 s0 lo hi most c out (by omega)]
          refine Ev.step (f := fun k => posthornref21_Expand.j3 k s0 lo hi most out c (d * 86400 + s0 % 86400) false r0 r1 r2 r3 l7 l8 (l9.map cv)) (fun k => ?_) (j3f _ _ _)
          simp only [posthornref21_Expand.l0]
          rw [if_pos ct, decide_eq_false cl]
      · have hend : Expand.exRun r2 r3 s0 lo hi most c out ((span 1 (min (hi / 86400) 2932896) (n + 1) d).filter fun x => x == s0 / 86400 || fits r0 r1 r2 r3 l7 l8 l9 (s0 / 86400) x) = out := by
          by_cases hdl : d ≤ min (hi / 86400) 2932896
          · have etime : Expand.exTime s0 d = d * 86400 + s0 % 86400 := time_eq (by omega) (by omega)
            have hsp : span 1 (min (hi / 86400) 2932896) (n + 1) d = [d] := by
              rw [span, if_pos hdl]
              congr 1
              cases n with
              | zero => rfl
              | succ n => rw [span, if_neg (by omega)]
            rw [hsp, List.filter_cons]
            split
            · simp only [Expand.exRun]
              rw [if_pos (by unfold Expand.exStop; rw [etime, decide_eq_true (by omega)]; rfl)]
            · rfl
          · rw [span, if_neg hdl]
            rfl
        rw [hend]
        refine Ev.step (f := fun k => posthornref21_Expand.j3 k s0 lo hi most out c (d * 86400 + s0 % 86400) false r0 r1 r2 r3 l7 l8 (l9.map cv)) (fun k => ?_) (j3f _ _ _)
        simp only [posthornref21_Expand.l0]
        rw [if_neg ct]
  unfold posthornref21_Expand.f
  refine Ev.bind hr ?_
  simp only [if_true, time12, Option.bind_some, decide_eq_true hs, decide_eq_true hlo, decide_eq_true hhi, Bool.not_true]
  refine Ev.step (f := fun k => posthornref21_Expand.j1 k s0 lo hi most false r0 r1 r2 r3 l7 l8 (l9.map cv)) (fun k => ?_) ?_
  · simp only [posthornref21_Expand.j0, Bool.false_eq_true, if_false]
    rw [if_neg (by omega), if_neg (by omega), decide_eq_false (show ¬ (wrap64 (hi - s0) > 631152000) by unfold wrap64; omega)]
  · refine Ev.step (f := fun k => posthornref21_Expand.l0 k s0 lo hi most [] 0 s0 r0 r1 r2 r3 l7 l8 (l9.map cv)) (fun k => by simp only [posthornref21_Expand.j1, Bool.false_eq_true, if_false]) ?_
    have h := loop 3000000 (s0 / 86400) 0 [] (Int.le_refl _) (by omega) (by simp; omega)
    rw [show s0 / 86400 * 86400 + s0 % 86400 = s0 from by omega] at h
    rw [hdays]
    exact h
end
end Go.Proofs.YtbeihceeliifeaaGreatDoor.Exp

/- The program's calendar, and what a rule comes to: that it ends, and its times in plain words. -/
import Derived.Test.YtbeihceeliifeaaGreatDoorPRx6
import Derived.Test.YtbeihceeliifeaaGreatDoorPRx4
import Derived.Test.YtbeihceeliifeaaGreatDoorPRx5
import Derived.Test.YtbeihceeliifeaaGreatDoorPRx7
/- The calendar of the program, exactly: leap years, months, days ahead of a year, of a day the year, month and day, and back. -/
namespace Go.Proofs.YtbeihceeliifeaaGreatDoor.Cal
open Go.RowKit Go.Proofs.YtbeihceeliifeaaGreatDoorW.PrintWords Go.Proofs.YtbeihceeliifeaaGreatDoorW.PrintLast Go.Proofs.YtbeihceeliifeaaGreatDoorW.PrintMore Go.Proofs.YtbeihceeliifeaaGreatDoor.PR

theorem wrapI {n : Int} (h1 : -9223372036854775808 ≤ n) (h2 : n ≤ 9223372036854775807) : wrap64 n = n := by unfold wrap64; omega
theorem tmodI {a b : Int} (h : 0 ≤ a) : Int.tmod a b = a % b := Int.tmod_eq_emod_of_nonneg h
theorem tdivI {a b : Int} (h : 0 ≤ a) : Int.tdiv a b = a / b := Int.tdiv_eq_ediv_of_nonneg h

def leapB (y : Int) : Bool := decide (y % 4 = 0 ∧ (y % 100 ≠ 0 ∨ y % 400 = 0))
theorem leap_f {y : Int} (h : 0 ≤ y) : when_leap.f y = some (leapB y) := by
  unfold when_leap.f leapB
  rw [tmodI h, tmodI h, tmodI h]
  by_cases a : y % 4 = 0
  · rw [if_pos a]
    by_cases b : y % 100 = 0
    · rw [if_pos b]
      congr 1
      by_cases c : y % 400 = 0
      · rw [decide_eq_true (by omega), c]; rfl
      · rw [decide_eq_false (by omega)]
        exact beq_eq_false_iff_ne.mpr c
    · rw [if_neg b, decide_eq_true (by omega)]
  · rw [if_neg a]
    congr 1
    rw [decide_eq_false (by omega)]
    exact beq_eq_false_iff_ne.mpr (by omega)

def beforeZ (y : Int) : Int := 365 * (y - 1970) + (y - 1) / 4 - (y - 1) / 100 + (y - 1) / 400 - 477
theorem before_f {y : Int} (h1 : 1 ≤ y) (h2 : y ≤ 100000) : when_before.f y = some (beforeZ y) := by
  unfold when_before.f beforeZ
  congr 1
  have e1 : wrap64 (y - 1) = y - 1 := wrapI (by omega) (by omega)
  rw [e1, tdivI (by omega), tdivI (by omega), tdivI (by omega)]
  have e2 : wrap64 (y - 1 - 1969) = y - 1 - 1969 := wrapI (by omega) (by omega)
  have e3 : wrap64 (365 * (y - 1 - 1969)) = 365 * (y - 1 - 1969) := wrapI (by omega) (by omega)
  have e4 : wrap64 ((y - 1) / 4) = (y - 1) / 4 := wrapI (by omega) (by omega)
  have e5 : wrap64 ((y - 1) / 100) = (y - 1) / 100 := wrapI (by omega) (by omega)
  have e6 : wrap64 ((y - 1) / 400) = (y - 1) / 400 := wrapI (by omega) (by omega)
  rw [e2, e3, e4, e5, e6]
  have f1 : wrap64 (365 * (y - 1 - 1969) + (y - 1) / 4) = 365 * (y - 1 - 1969) + (y - 1) / 4 := wrapI (by omega) (by omega)
  rw [f1]
  have f2 : wrap64 (365 * (y - 1 - 1969) + (y - 1) / 4 - (y - 1) / 100) = 365 * (y - 1 - 1969) + (y - 1) / 4 - (y - 1) / 100 := wrapI (by omega) (by omega)
  rw [f2]
  have f3 : wrap64 (365 * (y - 1 - 1969) + (y - 1) / 4 - (y - 1) / 100 + (y - 1) / 400) = 365 * (y - 1 - 1969) + (y - 1) / 4 - (y - 1) / 100 + (y - 1) / 400 := wrapI (by omega) (by omega)
  rw [f3, wrapI (by omega) (by omega)]
  omega
def leapZ (y : Int) : Int := if leapB y = true then 1 else 0
theorem before_next (y : Int) : beforeZ (y + 1) = beforeZ y + 365 + leapZ y := by
  unfold beforeZ leapZ leapB
  by_cases c : y % 4 = 0 ∧ (y % 100 ≠ 0 ∨ y % 400 = 0)
  · rw [decide_eq_true c, if_pos rfl]; omega
  · rw [decide_eq_false c, if_neg (by decide)]; omega
theorem leapZ_01 (y : Int) : leapZ y = 0 ∨ leapZ y = 1 := by
  unfold leapZ
  split
  · exact .inr rfl
  · exact .inl rfl

def monthZ (y m : Int) : Int := if m = 2 then 28 + leapZ y else when_month.tab m
theorem month_f {y m : Int} (hy : 0 ≤ y) (h1 : 0 ≤ m) (h2 : m < 13) : when_month.f y m = some (monthZ y m) := by
  unfold when_month.f monthZ
  rw [if_pos ⟨h1, h2⟩]
  by_cases c : m = 2
  · rw [if_pos c, if_pos c, leap_f hy]
    simp only [Option.bind_some]
    unfold leapZ
    cases leapB y <;> rfl
  · rw [if_neg c, if_neg c]
theorem month_bound (y m : Int) (h1 : 1 ≤ m) : 28 ≤ monthZ y m ∧ monthZ y m ≤ 31 := by
  unfold monthZ when_month.tab
  have := leapZ_01 y
  split
  · omega
  · rename_i h2
    by_cases c0 : m = 0
    · omega
    · rw [if_neg c0]
      split <;> omega

/-- How many days of a year lie ahead of a month's end. -/
def cum (y : Int) : Nat → Int
  | 0 => 0
  | m + 1 => cum y m + monthZ y ((m + 1 : Nat) : Int)
theorem cum_12 (y : Int) : cum y 12 = 365 + leapZ y := by
  simp only [cum, monthZ, when_month.tab]
  simp
  omega
theorem cum_mono (y : Int) (m : Nat) : cum y m + 28 ≤ cum y (m + 1) := by
  have := (month_bound y ((m + 1 : Nat) : Int) (by omega)).1
  show cum y m + 28 ≤ cum y m + monthZ y ((m + 1 : Nat) : Int)
  omega
theorem cum_nonneg (y : Int) : ∀ m, 0 ≤ cum y m
  | 0 => Int.le_refl _
  | m + 1 => by have := cum_nonneg y m; have := cum_mono y m; omega
theorem cum_le (y : Int) : ∀ m, m ≤ 12 → cum y m ≤ 31 * m
  | 0, _ => Int.le_refl _
  | m + 1, h => by
    have := cum_le y m (by omega)
    have := (month_bound y ((m + 1 : Nat) : Int) (by omega)).2
    show cum y m + monthZ y ((m + 1 : Nat) : Int) ≤ _
    omega

/-- Each day that may be has a year, a month and a day of the month. -/
structure Is (d : Int) (y : Int) (m : Nat) (dd : Int) : Prop where
  y0 : 1970 ≤ y
  y1 : y ≤ 9999
  m1 : m < 12
  d1 : 1 ≤ dd
  d2 : dd ≤ monthZ y ((m + 1 : Nat) : Int)
  eq : d = beforeZ y + cum y m + dd - 1

theorem before_bound {y : Int} (h1 : 1970 ≤ y) (h2 : y ≤ 10000) : 0 ≤ beforeZ y ∧ beforeZ y ≤ 2932897 := by unfold beforeZ; omega

theorem month_loop (d y : Int) (hy0 : 1970 ≤ y) (hy1 : y ≤ 9999) (hd : d < beforeZ (y + 1)) : ∀ (n m : Nat), m + n = 12 → cum y m ≤ d - beforeZ y →
    ∃ (m' : Nat) (dd : Int), Is d y m' dd ∧ Ev (fun k => when_Civil.l1 k y (d - beforeZ y - cum y m) ((m + 1 : Nat) : Int)) (y, ((m' + 1 : Nat) : Int), dd, 0) := by
  have hb := before_bound hy0 (by omega : y ≤ 10000)
  have hl := leapZ_01 y
  intro n
  induction n with
  | zero =>
    intro m hm hc
    have : m = 12 := by omega
    subst this
    rw [cum_12] at hc
    rw [before_next] at hd
    omega
  | succ n ih =>
    intro m hm hc
    have hbd := month_bound y ((m + 1 : Nat) : Int) (by omega)
    have hmf := month_f (y := y) (m := ((m + 1 : Nat) : Int)) (by omega) (by omega) (by omega)
    have hcn := cum_nonneg y m
    rw [before_next] at hd
    by_cases c : d - beforeZ y - cum y m ≥ monthZ y ((m + 1 : Nat) : Int)
    · have e : cum y (m + 1) = cum y m + monthZ y ((m + 1 : Nat) : Int) := rfl
      obtain ⟨m', dd, h1, h2⟩ := ih (m + 1) (by omega) (by rw [e]; omega)
      refine ⟨m', dd, h1, Ev.step (fun k => ?_) h2⟩
      simp only [when_Civil.l1, hmf, Option.bind_some]
      have e1 : wrap64 (d - beforeZ y - cum y m - monthZ y ((m + 1 : Nat) : Int)) = d - beforeZ y - cum y (m + 1) := by rw [wrapI (by omega) (by omega), e]; omega
      have e2 : wrap64 (((m + 1 : Nat) : Int) + 1) = ((m + 1 + 1 : Nat) : Int) := by rw [wrapI (by omega) (by omega)]; omega
      rw [if_pos c, e1, e2]
    · refine ⟨m, d - beforeZ y - cum y m + 1, ⟨hy0, hy1, by omega, by omega, by omega, by omega⟩, Ev.step (f := fun _ => some (y, ((m + 1 : Nat) : Int), d - beforeZ y - cum y m + 1, 0)) (fun k => ?_) (Ev.now _)⟩
      simp only [when_Civil.l1, hmf, Option.bind_some]
      rw [if_neg c, wrapI (by omega) (by omega)]

theorem year_loop (d : Int) (hd0 : 0 ≤ d) (hd1 : d ≤ 2932896) : ∀ (n : Nat) (y : Int), y + n = 9999 → 1970 ≤ y → beforeZ y ≤ d →
    ∃ (y' : Int) (m' : Nat) (dd : Int), Is d y' m' dd ∧ Ev (fun k => when_Civil.l0 k d y) (y', ((m' + 1 : Nat) : Int), dd, 0) := by
  have out : ∀ y, 1970 ≤ y → y ≤ 9999 → beforeZ y ≤ d → d < beforeZ (y + 1) → ∃ (m' : Nat) (dd : Int), Is d y m' dd ∧ Ev (fun k => when_Civil.j2 k d y) (y, ((m' + 1 : Nat) : Int), dd, 0) := by
    intro y h1 h2 h3 h4
    obtain ⟨m', dd, h5, h6⟩ := month_loop d y h1 h2 h4 12 0 (by omega) (by show (0 : Int) ≤ _; omega)
    refine ⟨m', dd, h5, Ev.step (fun k => ?_) h6⟩
    have hb := before_bound h1 (by omega : y ≤ 10000)
    simp only [when_Civil.j2, before_f (show 1 ≤ y by omega) (show y ≤ 100000 by omega), Option.bind_some]
    rw [wrapI (by omega) (by omega)]
    show when_Civil.l1 k y (d - beforeZ y) 1 = when_Civil.l1 k y (d - beforeZ y - 0) 1
    rw [Int.sub_zero]
  intro n
  induction n with
  | zero =>
    intro y hn h1 h3
    have hy : y = 9999 := by omega
    subst hy
    have hlast : d < beforeZ (9999 + 1) := by
      have : beforeZ (9999 + 1) = 2932897 := by decide
      omega
    obtain ⟨m', dd, h5, h6⟩ := out 9999 h1 (Int.le_refl _) h3 hlast
    refine ⟨9999, m', dd, h5, Ev.step (fun k => ?_) h6⟩
    simp only [when_Civil.l0]
    rw [if_neg (by omega)]
  | succ n ih =>
    intro y hn h1 h3
    have e1 : wrap64 (y + 1) = y + 1 := wrapI (by omega) (by omega)
    by_cases c : beforeZ (y + 1) ≤ d
    · obtain ⟨y', m', dd, h5, h6⟩ := ih (y + 1) (by omega) (by omega) c
      refine ⟨y', m', dd, h5, Ev.step (fun k => ?_) h6⟩
      simp only [when_Civil.l0, e1, before_f (show 1 ≤ y + 1 by omega) (show y + 1 ≤ 100000 by omega), Option.bind_some]
      rw [if_pos (by omega), if_pos c]
    · obtain ⟨m', dd, h5, h6⟩ := out y h1 (by omega) h3 (by omega)
      refine ⟨y, m', dd, h5, Ev.step (fun k => ?_) h6⟩
      simp only [when_Civil.l0, e1, before_f (show 1 ≤ y + 1 by omega) (show y + 1 ≤ 100000 by omega), Option.bind_some]
      rw [if_pos (by omega), if_neg c]
theorem civil_ev (d : Int) (h0 : 0 ≤ d) (h1 : d ≤ 2932896) : ∃ (y : Int) (m : Nat) (dd : Int), Is d y m dd ∧ Ev (fun k => when_Civil.f k d) (y, ((m + 1 : Nat) : Int), dd, 0) := by
  have e1 : wrap64 (1970 + wrap64 (Int.tdiv d 366)) = 1970 + d / 366 := by rw [tdivI h0, wrapI (n := d / 366) (by omega) (by omega), wrapI (by omega) (by omega)]
  obtain ⟨y, m, dd, h5, h6⟩ := year_loop d h0 h1 (9999 - (1970 + d / 366)).toNat (1970 + d / 366) (by omega) (by omega) (by unfold beforeZ; omega)
  refine ⟨y, m, dd, h5, ?_⟩
  unfold when_Civil.f
  simp only [if_neg (show ¬ d < 0 by omega)]
  refine Ev.step (fun k => ?_) h6
  simp only [when_Civil.j0, e1]
  rw [if_neg (by simp; omega)]

/-! ### back -/
theorem days_loop (y : Int) (hy0 : 1970 ≤ y) (hy1 : y ≤ 9999) (m : Nat) (hm : m ≤ 12) (x : Int) (hx : 0 ≤ x) (hx1 : x ≤ 10000000) : ∀ (n i : Nat), i + n = m → Ev (fun k => when_Days.l0 k y (x + cum y (i - 1)) ((m : Nat) : Int) (i : Int)) (x + cum y (m - 1), 0) := by
  intro n
  induction n with
  | zero =>
    intro i hi
    have : i = m := by omega
    subst this
    refine Ev.step (f := fun _ => some (x + cum y (i - 1), 0)) (fun k => ?_) (Ev.now _)
    simp only [when_Days.l0]
    rw [if_neg (by omega)]
  | succ n ih =>
    intro i hi
    have hw : wrap64 ((i : Int) + 1) = ((i + 1 : Nat) : Int) := by rw [wrapI (by omega) (by omega)]; omega
    have nxt := ih (i + 1) (by omega)
    by_cases c : 0 < i
    · obtain ⟨j, rfl⟩ : ∃ j, i = j + 1 := ⟨i - 1, by omega⟩
      have hmf := month_f (y := y) (m := ((j + 1 : Nat) : Int)) (by omega) (by omega) (by omega)
      have hcl := cum_le y j (by omega)
      have hcn := cum_nonneg y j
      have hbd := month_bound y ((j + 1 : Nat) : Int) (by omega)
      refine Ev.step (fun k => ?_) nxt
      simp only [when_Days.l0, hmf, Option.bind_some, hw]
      rw [if_pos (by omega), if_pos (by omega)]
      have e : wrap64 (x + cum y (j + 1 - 1) + monthZ y ((j + 1 : Nat) : Int)) = x + cum y (j + 1 + 1 - 1) := by
        show wrap64 (x + cum y j + monthZ y ((j + 1 : Nat) : Int)) = x + (cum y j + monthZ y ((j + 1 : Nat) : Int))
        rw [wrapI (by omega) (by omega)]
        omega
      rw [e]
    · have : i = 0 := by omega
      subst this
      refine Ev.step (fun k => ?_) nxt
      simp only [when_Days.l0, hw]
      rw [if_pos (by omega), if_neg (by omega)]
/-- A day's number. -/
theorem days_ev (y m d : Int) (hy0 : 1970 ≤ y) (hy1 : y ≤ 9999) (hm0 : 1 ≤ m) (hm1 : m ≤ 12) (hd0 : 1 ≤ d) (hd1 : d ≤ monthZ y m) : Ev (fun k => when_Days.f k y m d) (beforeZ y + d - 1 + cum y (m.toNat - 1), 0) := by
  have hb := before_bound hy0 (by omega : y ≤ 10000)
  have hbd := month_bound y m hm0
  have hmf := month_f (y := y) (m := m) (by omega) (by omega) (by omega)
  have h := days_loop y hy0 hy1 m.toNat (by omega) (beforeZ y + d - 1) (by omega) (by omega) m.toNat 0 (by omega)
  rw [Int.toNat_of_nonneg (by omega)] at h
  unfold when_Days.f
  simp only [if_neg (show ¬ y < 1970 by omega), if_neg (show ¬ y > 9999 by omega), if_neg (show ¬ m < 1 by omega), if_neg (show ¬ m > 12 by omega), if_neg (show ¬ d < 1 by omega), hmf, Option.bind_some]
  refine Ev.step (fun k => ?_) h
  simp only [when_Days.j0, before_f (show 1 ≤ y by omega) (show y ≤ 100000 by omega), Option.bind_some]
  rw [if_neg (by simp; omega), wrapI (n := beforeZ y + d) (by omega) (by omega), wrapI (by omega) (by omega)]
  show when_Days.l0 k y (beforeZ y + d - 1) m 0 = when_Days.l0 k y (beforeZ y + d - 1 + 0) m 0
  rw [Int.add_zero]
theorem days_none (y m d : Int) (hy0 : 1970 ≤ y) (hy1 : y ≤ 9999) (hm0 : 1 ≤ m) (hm1 : m ≤ 12) (hd0 : 1 ≤ d) (hd1 : monthZ y m < d) : Ev (fun k => when_Days.f k y m d) (0, 110) := by
  have hmf := month_f (y := y) (m := m) (by omega) (by omega) (by omega)
  unfold when_Days.f
  simp only [if_neg (show ¬ y < 1970 by omega), if_neg (show ¬ y > 9999 by omega), if_neg (show ¬ m < 1 by omega), if_neg (show ¬ m > 12 by omega), if_neg (show ¬ d < 1 by omega), hmf, Option.bind_some]
  refine Ev.step (f := fun _ => some (0, 110)) (fun k => ?_) (Ev.now _)
  simp only [when_Days.j0]
  rw [if_pos (by simp; omega)]

/-! ### a month's length -/
theorem length_loop (y m : Int) (hy0 : 1970 ≤ y) (hy1 : y ≤ 9999) (hm0 : 1 ≤ m) (hm1 : m ≤ 12) : ∀ (n : Nat), n ≤ 3 → monthZ y m ≤ 28 + n → Ev (fun k => recur_length.l0 k y m (28 + (n : Int))) (monthZ y m) := by
  have hbd := month_bound y m hm0
  intro n
  induction n with
  | zero =>
    intro _ h
    have e : monthZ y m = 28 := by omega
    refine Ev.step (f := fun _ => some (monthZ y m)) (fun k => ?_) (Ev.now _)
    simp only [recur_length.l0, e]
    rfl
  | succ n ih =>
    intro hn h
    have hw : wrap64 (28 + ((n + 1 : Nat) : Int) - 1) = 28 + (n : Int) := by rw [wrapI (by omega) (by omega)]; omega
    by_cases c : 28 + ((n + 1 : Nat) : Int) ≤ monthZ y m
    · have e : monthZ y m = 28 + ((n + 1 : Nat) : Int) := by omega
      refine Ev.step (f := fun k => (when_Days.f k y m (28 + ((n + 1 : Nat) : Int))).bind fun bt151 => (if bt151.2 = 0 then (some (28 + ((n + 1 : Nat) : Int))) else (recur_length.l0 k y m (wrap64 (28 + ((n + 1 : Nat) : Int) - 1))))) (fun k => ?_) ?_
      · simp only [recur_length.l0]
        rw [if_pos (by omega)]
      · refine Ev.bind (days_ev y m _ hy0 hy1 hm0 hm1 (by omega) c) ?_
        simp only [if_true, e]
        exact Ev.now _
    · refine Ev.step (f := fun k => (when_Days.f k y m (28 + ((n + 1 : Nat) : Int))).bind fun bt151 => (if bt151.2 = 0 then (some (28 + ((n + 1 : Nat) : Int))) else (recur_length.l0 k y m (wrap64 (28 + ((n + 1 : Nat) : Int) - 1))))) (fun k => ?_) ?_
      · simp only [recur_length.l0]
        rw [if_pos (by omega)]
      · refine Ev.bind (days_none y m _ hy0 hy1 hm0 hm1 (by omega) (by omega)) ?_
        simp only [if_neg (show ¬ (110 : Int) = 0 by decide), hw]
        exact ih (by omega) (by omega)
theorem length_ev (y m : Int) (hy0 : 1970 ≤ y) (hy1 : y ≤ 9999) (hm0 : 1 ≤ m) (hm1 : m ≤ 12) : Ev (fun k => recur_length.f k y m) (monthZ y m) := by
  have hbd := month_bound y m hm0
  exact length_loop y m hy0 hy1 hm0 hm1 3 (Nat.le_refl _) (by omega)
theorem weekday_f {d : Int} (h0 : 0 ≤ d) (h1 : d ≤ 2932896) : date_Weekday.f d = some ((d + 3) % 7, 0) := by
  unfold date_Weekday.f
  rw [if_neg (by omega), if_neg (by omega), wrapI (by omega) (by omega), tmodI (by omega)]
end Go.Proofs.YtbeihceeliifeaaGreatDoor.Cal
/- What a series is asked comes to an end; and what one that may be is made of. -/
set_option linter.unusedVariables false
namespace Go.Proofs.YtbeihceeliifeaaGreatDoor.Base
open Go.RowKit Go.Proofs.YtbeihceeliifeaaGreatDoorW.PrintWords Go.Proofs.YtbeihceeliifeaaGreatDoorW.PrintLast Go.Proofs.YtbeihceeliifeaaGreatDoorW.PrintMore Go.Proofs.YtbeihceeliifeaaGreatDoor.PR Go.Proofs.YtbeihceeliifeaaGreatDoor.Cal

/-- It comes to some value that is so. -/
def Fin {α : Type} (g : Nat → Option α) (p : α → Prop) : Prop := ∃ r, Ev g r ∧ p r
theorem fin_now {α : Type} {p : α → Prop} {r : α} (h : p r) : Fin (fun _ => some r) p := ⟨r, Ev.now r, h⟩
theorem fin_ev {α : Type} {g : Nat → Option α} {p : α → Prop} {r : α} (h : Ev g r) (hp : p r) : Fin g p := ⟨r, h, hp⟩
theorem fin_bind {α β : Type} {g : Nat → Option α} {f : Nat → α → Option β} {p : α → Prop} {q : β → Prop} (h : Fin g p) (k : ∀ a, p a → Fin (fun n => f n a) q) : Fin (fun n => (g n).bind (f n)) q := by
  obtain ⟨a, h1, h2⟩ := h
  obtain ⟨b, h3, h4⟩ := k a h2
  exact ⟨b, Ev.bind h1 h3, h4⟩
theorem fin_some {α β : Type} {a : α} {f : Nat → α → Option β} {q : β → Prop} (k : Fin (fun n => f n a) q) : Fin (fun n => (some a).bind (f n)) q := k
theorem fin_ite {α : Type} {c : Prop} [Decidable c] {f g : Nat → Option α} {q : α → Prop} (h1 : c → Fin f q) (h2 : ¬ c → Fin g q) : Fin (fun n => if c then f n else g n) q := by
  by_cases c0 : c
  · simp only [if_pos c0]
    exact h1 c0
  · simp only [if_neg c0]
    exact h2 c0
theorem fin_step {α : Type} {g f : Nat → Option α} {q : α → Prop} (h : ∀ k, g (k + 1) = f k) (k : Fin f q) : Fin g q := by
  obtain ⟨r, h1, h2⟩ := k
  exact ⟨r, Ev.step h h1, h2⟩
theorem fin_mono {α : Type} {g : Nat → Option α} {p q : α → Prop} (h : Fin g p) (hq : ∀ r, p r → q r) : Fin g q := by
  obtain ⟨r, h1, h2⟩ := h
  exact ⟨r, h1, hq r h2⟩

theorem get_drop {α : Type} {l : List α} {d s : α} {i : Nat} {suf : List α} (h : l.drop i = s :: suf) : i < l.length ∧ l.getD ((i : Nat) : Int).toNat d = s ∧ l.drop (i + 1) = suf := by
  have hi : i < l.length := by
    rcases Nat.lt_or_ge i l.length with h1 | h1
    · exact h1
    · rw [List.drop_eq_nil_of_le h1] at h; cases h
  rw [List.drop_eq_getElem_cons hi] at h
  injection h with h1 h2
  exact ⟨hi, by simp [hi, h1], h2⟩
theorem drop_nil {α : Type} {l : List α} {i : Nat} (h : l.drop i = []) : l.length ≤ i := List.drop_eq_nil_iff.mp h
theorem wrapS {i n : Nat} (h : i < n) (hn : n ≤ 9223372036854775807) : wrap64 ((i : Int) + 1) = ((i + 1 : Nat) : Int) := by unfold wrap64; omega

theorem when_f (t : Int) : when_Right.f t = some (decide (0 ≤ t ∧ t ≤ 253402300799)) := by
  unfold when_Right.f
  by_cases c : t ≥ 0
  · rw [if_pos c]
    congr 1
    rw [decide_eq_decide]
    omega
  · rw [if_neg c, decide_eq_false (by omega)]
/-! ### rises, Right of a rule -/
theorem rises_loop (l : List Int) (lo hi_ : Int) (hn : l.length ≤ 9223372036854775807) : ∀ (suf : List Int) (i : Nat), l.drop i = suf → Fin (fun k => recur_rises.l0 k l lo hi_ l (l.length : Int) (i : Int)) (fun r => r = true → ∀ x, x ∈ suf → lo ≤ x ∧ x ≤ hi_) := by
  intro suf
  induction suf with
  | nil =>
    intro i hd
    have := drop_nil hd
    refine fin_step (f := fun _ => some true) (fun k => ?_) (fin_now (fun _ x hx => by cases hx))
    simp only [recur_rises.l0]
    rw [if_neg (by omega)]
  | cons o suf ih =>
    intro i hd
    obtain ⟨hi, ho, hd'⟩ := get_drop (d := (0 : Int)) hd
    have hw := wrapS hi hn
    have nxt := ih (i + 1) hd'
    have ho' : rd l (i : Int) = o := ho
    refine fin_step (f := fun k => if o < lo then some false else if o > hi_ then some false else if o = 0 then some false else if (i : Int) > 0 then (if rd l (wrap64 ((i : Int) - 1)) ≥ o then some false else recur_rises.l0 k l lo hi_ l (l.length : Int) ((i + 1 : Nat) : Int)) else recur_rises.l0 k l lo hi_ l (l.length : Int) ((i + 1 : Nat) : Int)) (fun k => ?_) ?_
    · simp only [recur_rises.l0]
      rw [if_pos (by omega), if_pos (by omega), if_pos (by omega), ho', hw]
      by_cases c : (i : Int) > 0
      · have e : wrap64 ((i : Int) - 1) = (i : Int) - 1 := by unfold wrap64; omega
        rw [if_pos c, if_pos c, e, if_pos (show 0 ≤ (i : Int) - 1 by omega), if_pos (show (i : Int) - 1 < (l.length : Int) by omega)]
      · rw [if_neg c, if_neg c]
    · have no : Fin (fun _ => some false) (fun r => r = true → ∀ x, x ∈ o :: suf → lo ≤ x ∧ x ≤ hi_) := fin_now (fun h => by cases h)
      refine fin_ite (fun _ => no) (fun c1 => fin_ite (fun _ => no) (fun c2 => fin_ite (fun _ => no) (fun _ => ?_)))
      have go : Fin (fun k => recur_rises.l0 k l lo hi_ l (l.length : Int) ((i + 1 : Nat) : Int)) (fun r => r = true → ∀ x, x ∈ o :: suf → lo ≤ x ∧ x ≤ hi_) :=
        fin_mono nxt (fun r h hr x hx => by
          rcases List.mem_cons.mp hx with rfl | hx
          · omega
          · exact h hr x hx)
      exact fin_ite (fun _ => fin_ite (fun _ => no) (fun _ => go)) (fun _ => go)
theorem rises_fin (l : List Int) (lo hi_ : Int) (hn : l.length ≤ 9223372036854775807) : Fin (fun k => recur_rises.f k l lo hi_) (fun r => r = true → ∀ x, x ∈ l → lo ≤ x ∧ x ≤ hi_) := rises_loop l lo hi_ hn l 0 rfl

def okDay (x : S53) : Prop := 0 ≤ x.f0 ∧ x.f0 ≤ 6 ∧ -5 ≤ x.f1 ∧ x.f1 ≤ 5
def ordLt (a b : S53) : Prop := ∃ t, recur_order.f a.f0 a.f1 b.f0 b.f1 = some t ∧ ¬ t ≥ 0
def ups (l : List S53) (i : Nat) : Prop := ∀ j : Nat, i ≤ j → 0 < j → j < l.length → ordLt (rd_T53 l ((j - 1 : Nat) : Int)) (rd_T53 l (j : Int))
theorem week_few {l : List S53} (h1 : ∀ x, x ∈ l → okDay x) (h2 : ups l 0) : l.length ≤ 77 := by
  have hin : ∀ j : Nat, j < l.length → okDay (rd_T53 l (j : Int)) := fun j hj => by
    rw [show rd_T53 l (j : Int) = l[j] from by simp [rd_T53, hj]]
    exact h1 _ (List.getElem_mem hj)
  have key : ∀ j : Nat, j < l.length → (j : Int) ≤ 11 * (rd_T53 l (j : Int)).f0 + (rd_T53 l (j : Int)).f1 + 5 := by
    intro j
    induction j with
    | zero => intro hj; obtain ⟨q1, q2, q3, q4⟩ := hin 0 hj; omega
    | succ j ih =>
      intro hj
      have h := ih (by omega)
      obtain ⟨p1, p2, p3, p4⟩ := hin j (by omega)
      obtain ⟨q1, q2, q3, q4⟩ := hin (j + 1) hj
      obtain ⟨t, ht, h0⟩ := h2 (j + 1) (Nat.zero_le _) (by omega) hj
      rw [show j + 1 - 1 = j from rfl] at ht
      generalize rd_T53 l (j : Int) = a at *
      generalize rd_T53 l ((j + 1 : Nat) : Int) = b at *
      unfold recur_order.f at ht
      unfold wrap64 at ht
      split at ht
      all_goals
        have ht' := Option.some.inj ht
        omega
  rcases Nat.lt_or_ge 77 l.length with c | c
  · have := key 77 c
    obtain ⟨q1, q2, q3, q4⟩ := hin 77 c
    omega
  · exact c
section
variable (x3 : Bool) (r0 r1 r2 r3 : Int) (r4 r5 : List Int) (r6 : List S53)
theorem week_loop (hn : r6.length ≤ 9223372036854775807) : ∀ (suf : List S53) (i : Nat), r6.drop i = suf → Fin (fun k => recur_Right.l0 k x3 r6 (r6.length : Int) (i : Int) r0 r1 r2 r3 r4 r5 r6) (fun r => r = true → (∀ x, x ∈ suf → okDay x) ∧ ups r6 i) := by
  intro suf
  induction suf with
  | nil =>
    intro i hd
    have := drop_nil hd
    refine fin_step (f := fun _ => some true) (fun k => ?_) (fin_now (fun _ => ⟨fun x hx => (by cases hx), fun j h1 _ h2 => (by omega)⟩))
    simp only [recur_Right.l0]
    rw [if_neg (by omega)]
  | cons o suf ih =>
    intro i hd
    obtain ⟨hi, ho, hd'⟩ := get_drop (d := z53) hd
    have hw := wrapS hi hn
    have nxt := ih (i + 1) hd'
    have ho' : rd_T53 r6 (i : Int) = o := ho
    have no : Fin (fun _ => some false) (fun r => r = true → (∀ x, x ∈ o :: suf → okDay x) ∧ ups r6 i) := fin_now (fun h => by cases h)
    have j4 : ∀ z : Bool, (z = false → okDay o) → Fin (fun k => recur_Right.j4 k x3 (i : Int) r6 (r6.length : Int) (i : Int) z r0 r1 r2 r3 r4 r5 r6 o.f0 o.f1) (fun r => r = true → (∀ x, x ∈ o :: suf → okDay x) ∧ ups r6 i) := by
      intro z hz
      cases z with
      | true =>
        refine fin_step (f := fun _ => some false) (fun k => ?_) no
        simp only [recur_Right.j4]
        rfl
      | false =>
        have go : (0 < i → ordLt (rd_T53 r6 ((i - 1 : Nat) : Int)) (rd_T53 r6 (i : Int))) → Fin (fun k => recur_Right.l0 k x3 r6 (r6.length : Int) ((i + 1 : Nat) : Int) r0 r1 r2 r3 r4 r5 r6) (fun r => r = true → (∀ x, x ∈ o :: suf → okDay x) ∧ ups r6 i) :=
          fun hup => fin_mono nxt (fun r h hr => ⟨fun x hx => by
            rcases List.mem_cons.mp hx with rfl | hx
            · exact hz rfl
            · exact (h hr).1 x hx, fun j h1 h2 h3 => by
            rcases Nat.lt_or_ge i j with c | c
            · exact (h hr).2 j c h2 h3
            · obtain rfl : j = i := by omega
              exact hup h2⟩)
        obtain ⟨t, ht⟩ : ∃ t, recur_order.f (rd_T53 r6 (wrap64 ((i : Int) - 1))).f0 (rd_T53 r6 (wrap64 ((i : Int) - 1))).f1 o.f0 o.f1 = some t := by
          unfold recur_order.f
          split <;> exact ⟨_, rfl⟩
        refine fin_step (f := fun k => if (i : Int) > 0 then (if t ≥ 0 then some false else recur_Right.l0 k x3 r6 (r6.length : Int) ((i + 1 : Nat) : Int) r0 r1 r2 r3 r4 r5 r6) else recur_Right.l0 k x3 r6 (r6.length : Int) ((i + 1 : Nat) : Int) r0 r1 r2 r3 r4 r5 r6) (fun k => ?_) (fin_ite (fun c => fin_ite (fun _ => no) (fun c' => go (fun _ => ⟨t, by rw [ho', ← ht, show wrap64 ((i : Int) - 1) = ((i - 1 : Nat) : Int) from by unfold wrap64; omega], c'⟩))) (fun c => go (fun h => by omega)))
        simp only [recur_Right.j4, ht, Option.bind_some, hw, Bool.false_eq_true, if_false]
        by_cases c : (i : Int) > 0
        · have e : wrap64 ((i : Int) - 1) = (i : Int) - 1 := by unfold wrap64; omega
          rw [if_pos c, if_pos c, e, if_pos (by omega), if_pos (by omega)]
        · rw [if_neg c, if_neg c]
    refine fin_step (fun k => by simp only [recur_Right.l0]; rw [if_pos (show (i : Int) < (r6.length : Int) by omega), if_pos (show (0 : Int) ≤ (i : Int) by omega), if_pos (show (i : Int) < (r6.length : Int) by omega), ho']) ?_
    refine fin_ite (fun _ => j4 true (fun h => by cases h)) (fun c1 => fin_ite (fun _ => j4 true (fun h => by cases h)) (fun c2 => fin_ite (fun _ => j4 true (fun h => by cases h)) (fun c3 => fin_ite (fun _ => j4 true (fun h => by cases h)) (fun c4 => ?_))))
    have good : okDay o := by unfold okDay; omega
    exact fin_ite (fun _ => j4 false (fun _ => good)) (fun _ => j4 _ (fun _ => good))
theorem right_j2 (hn : r6.length ≤ 9223372036854775807) (z : Bool) : Fin (fun k => recur_Right.j2 k x3 z r0 r1 r2 r3 r4 r5 r6) (fun r => r = true → z = false ∧ (∀ x, x ∈ r6 → okDay x) ∧ r6.length ≤ 77) := by
  cases z with
  | true =>
    refine fin_step (f := fun _ => some false) (fun k => ?_) (fin_now (fun h => by cases h))
    simp only [recur_Right.j2]
    rfl
  | false =>
    refine fin_step (fun k => ?_) (fin_mono (week_loop x3 r0 r1 r2 r3 r4 r5 r6 hn r6 0 rfl) (fun r h hr => ⟨rfl, (h hr).1, week_few (h hr).1 (h hr).2⟩))
    simp only [recur_Right.j2]
    rfl
def okRule : Prop := (∀ x, x ∈ r4 → 1 ≤ x ∧ x ≤ 12) ∧ ∀ x, x ∈ r6 → okDay x
def okRule7 : Prop := okRule r4 r6 ∧ r6.length ≤ 77
theorem right_j1 (h4 : r4.length ≤ 9223372036854775807) (h5 : r5.length ≤ 9223372036854775807) (hn : r6.length ≤ 9223372036854775807) (z : Bool) : Fin (fun k => recur_Right.j1 k x3 z r0 r1 r2 r3 r4 r5 r6) (fun r => r = true → okRule7 r4 r6) := by
  have bad : Fin (fun k => recur_Right.j2 k x3 true r0 r1 r2 r3 r4 r5 r6) (fun r => r = true → okRule7 r4 r6) := fin_mono (right_j2 x3 r0 r1 r2 r3 r4 r5 r6 hn true) (fun r h hr => by have := (h hr).1; cases this)
  have good : ∀ z', (∀ x, x ∈ r4 → 1 ≤ x ∧ x ≤ 12) → Fin (fun k => recur_Right.j2 k x3 z' r0 r1 r2 r3 r4 r5 r6) (fun r => r = true → okRule7 r4 r6) := fun z' h1 => fin_mono (right_j2 x3 r0 r1 r2 r3 r4 r5 r6 hn z') (fun r h hr => ⟨⟨h1, (h hr).2.1⟩, (h hr).2.2⟩)
  have rest : Fin (fun k => (recur_rises.f k r4 1 12).bind fun t110 => (if t110 = true then ((recur_rises.f k r5 (-31) 31).bind fun t111 => (if t111 = true then (if x3 = true then (recur_Right.j2 k x3 false r0 r1 r2 r3 r4 r5 r6) else (recur_Right.j2 k x3 (decide ((r5.length : Int) > 0)) r0 r1 r2 r3 r4 r5 r6)) else (recur_Right.j2 k x3 true r0 r1 r2 r3 r4 r5 r6))) else (recur_Right.j2 k x3 true r0 r1 r2 r3 r4 r5 r6))) (fun r => r = true → okRule7 r4 r6) :=
    fin_bind (rises_fin r4 1 12 h4) (fun t ht => fin_ite (fun e => fin_bind (rises_fin r5 (-31) 31 h5) (fun u _ => fin_ite (fun _ => fin_ite (fun _ => good _ (ht e)) (fun _ => good _ (ht e))) (fun _ => bad))) (fun _ => bad))
  refine fin_step (fun k => by simp only [recur_Right.j1]; rfl) ?_
  refine fin_ite (fun _ => fin_now (fun h => by cases h)) (fun _ => fin_ite (fun _ => rest) (fun _ => ?_))
  have hw : ∃ t, when_Right.f r3 = some t := by
    unfold when_Right.f
    split <;> exact ⟨_, rfl⟩
  obtain ⟨t, ht⟩ := hw
  simp only [ht, Option.bind_some]
  exact fin_ite (fun _ => fin_ite (fun _ => rest) (fun _ => bad)) (fun _ => bad)
theorem rule_fin7 (h4 : r4.length ≤ 9223372036854775807) (h5 : r5.length ≤ 9223372036854775807) (hn : r6.length ≤ 9223372036854775807) : Fin (fun k => recur_Right.f k r0 r1 r2 r3 r4 r5 r6) (fun r => r = true → okRule7 r4 r6) := by
  have j0 : ∀ y, Fin (fun k => recur_Right.j0 k y r0 r1 r2 r3 r4 r5 r6) (fun r => r = true → okRule7 r4 r6) := by
    intro y
    have j1 := fun z => right_j1 y r0 r1 r2 r3 r4 r5 r6 h4 h5 hn z
    refine fin_step (fun k => by simp only [recur_Right.j0]; rfl) ?_
    exact fin_ite (fun _ => j1 _) (fun _ => fin_ite (fun _ => j1 _) (fun _ => fin_ite (fun _ => j1 _) (fun _ => fin_ite (fun _ => j1 _) (fun _ => fin_ite (fun _ => j1 _) (fun _ => j1 _)))))
  unfold recur_Right.f
  exact fin_ite (fun _ => j0 _) (fun _ => j0 _)
theorem rule_fin (h4 : r4.length ≤ 9223372036854775807) (h5 : r5.length ≤ 9223372036854775807) (hn : r6.length ≤ 9223372036854775807) : Fin (fun k => recur_Right.f k r0 r1 r2 r3 r4 r5 r6) (fun r => r = true → okRule r4 r6) :=
  fin_mono (rule_fin7 r0 r1 r2 r3 r4 r5 r6 h4 h5 hn) (fun _ h hr => (h hr).1)
theorem rule_few (h4 : r4.length ≤ 9223372036854775807) (h5 : r5.length ≤ 9223372036854775807) (hn : r6.length ≤ 9223372036854775807) (h : Ev (fun k => recur_Right.f k r0 r1 r2 r3 r4 r5 r6) true) : r6.length ≤ 77 := by
  obtain ⟨r, ⟨K, hr⟩, hp⟩ := rule_fin7 r0 r1 r2 r3 r4 r5 r6 h4 h5 hn
  obtain ⟨K', h⟩ := h
  have e1 := hr (max K K') (Nat.le_max_left _ _)
  have e2 := h (max K K') (Nat.le_max_right _ _)
  rw [e1] at e2
  exact (hp (Option.some.inj e2)).2
end


theorem rule_interval (r0 r1 r2 r3 : Int) (r4 r5 : List Int) (r6 : List S53) (h : Ev (fun k => recur_Right.f k r0 r1 r2 r3 r4 r5 r6) true) : 1 ≤ r1 ∧ r1 ≤ 1000 := by
  obtain ⟨K, hK⟩ := h
  have h1 := hK (K + 2) (by omega)
  have key : ∀ y, recur_Right.j0 (K + 2) y r0 r1 r2 r3 r4 r5 r6 = some true → 1 ≤ r1 ∧ r1 ≤ 1000 := by
    intro y hy
    have bad : recur_Right.j1 (K + 1) y true r0 r1 r2 r3 r4 r5 r6 = some false := by simp only [recur_Right.j1]; rfl
    simp only [recur_Right.j0, bad] at hy
    split at hy
    · cases hy
    · split at hy
      · cases hy
      · split at hy
        · cases hy
        · split at hy
          · cases hy
          · omega
  unfold recur_Right.f at h1
  split at h1
  · exact key _ h1
  · exact key _ h1

/-! ### what rises -/
/-- Times that rise strictly, 256 at most. -/
structure Rising (l : List Int) : Prop where
  up : l.Pairwise (· < ·)
  bd : ∀ x, x ∈ l → 0 ≤ x ∧ x ≤ 253402300799
  few : l.length ≤ 256
end Go.Proofs.YtbeihceeliifeaaGreatDoor.Base
/- Whether a day matches a rule comes to an end; so do a rule's days and times. -/
set_option linter.unusedVariables false
namespace Go.Proofs.YtbeihceeliifeaaGreatDoor.Match
open Go.RowKit Go.Proofs.YtbeihceeliifeaaGreatDoorW.PrintWords Go.Proofs.YtbeihceeliifeaaGreatDoorW.PrintLast Go.Proofs.YtbeihceeliifeaaGreatDoorW.PrintMore Go.Proofs.YtbeihceeliifeaaGreatDoor.PR Go.Proofs.YtbeihceeliifeaaGreatDoor.Cal Go.Proofs.YtbeihceeliifeaaGreatDoor.Base

theorem index_loop (l : List Int) (x : Int) (hn : l.length ≤ 9223372036854775807) : ∀ (suf : List Int) (i : Nat), l.drop i = suf → Fin (fun k => slices_Index_int_int.l0 k l x (l.length : Int) (i : Int)) (fun _ => True) := by
  intro suf
  induction suf with
  | nil =>
    intro i hd
    have := drop_nil hd
    refine fin_step (f := fun _ => some (-1)) (fun k => ?_) (fin_now trivial)
    simp only [slices_Index_int_int.l0]
    rw [if_neg (by omega)]
  | cons o suf ih =>
    intro i hd
    obtain ⟨hi, ho, hd'⟩ := get_drop (d := (0 : Int)) hd
    have hw := wrapS hi hn
    have ho' : rd l (i : Int) = o := ho
    refine fin_step (f := fun k => if x = o then some (i : Int) else slices_Index_int_int.l0 k l x (l.length : Int) ((i + 1 : Nat) : Int)) (fun k => ?_) (fin_ite (fun _ => fin_now trivial) (fun _ => ih (i + 1) hd'))
    simp only [slices_Index_int_int.l0]
    rw [if_pos (by omega), if_pos (by omega), if_pos (by omega), ho', hw]
theorem contains_fin (l : List Int) (x : Int) (hn : l.length ≤ 9223372036854775807) : Fin (fun k => slices_Contains_int_int.f k l x) (fun _ => True) :=
  fin_bind (index_loop l x hn l 0 rfl) (fun _ _ => fin_now trivial)
theorem wd_loop (l : List S53) (a b : Int) (hn : l.length ≤ 9223372036854775807) : ∀ (suf : List S53) (i : Nat), l.drop i = suf → Fin (fun k => recur_Weekday_77.l0 k l (l.length : Int) (i : Int) a b) (fun _ => True) := by
  intro suf
  induction suf with
  | nil =>
    intro i hd
    have := drop_nil hd
    refine fin_step (f := fun _ => some (-1)) (fun k => ?_) (fin_now trivial)
    simp only [recur_Weekday_77.l0]
    rw [if_neg (by omega)]
  | cons o suf ih =>
    intro i hd
    obtain ⟨hi, ho, hd'⟩ := get_drop (d := z53) hd
    have hw := wrapS hi hn
    have ho' : rd_T53 l (i : Int) = o := ho
    refine fin_step (f := fun k => if (a == o.f0 && b == o.f1) = true then some (i : Int) else recur_Weekday_77.l0 k l (l.length : Int) ((i + 1 : Nat) : Int) a b) (fun k => ?_) (fin_ite (fun _ => fin_now trivial) (fun _ => ih (i + 1) hd'))
    simp only [recur_Weekday_77.l0]
    rw [if_pos (by omega), if_pos (by omega), if_pos (by omega), ho', hw]
theorem on_fin (r0 r1 r2 r3 : Int) (l7 l8 : List Int) (l9 : List S53) (a : Int) (hn : l9.length ≤ 9223372036854775807) : Fin (fun k => recur_Rule_on.f k r0 r1 r2 r3 l7 l8 l9 a) (fun _ => True) := by
  unfold recur_Rule_on.f recur_Weekday_57.f recur_Weekday_77.f
  exact fin_ite (fun _ => fin_now trivial) (fun _ => fin_bind (fin_bind (wd_loop l9 a 0 hn l9 0 rfl) (fun _ _ => fin_now (p := fun _ => True) trivial)) (fun _ _ => fin_now trivial))
theorem may_fin (r0 r1 r2 r3 : Int) (l7 l8 : List Int) (l9 : List S53) (y m d wd first : Int) (h8 : l8.length ≤ 9223372036854775807) (h9 : l9.length < 4611686018427387904) (hy0 : 1970 ≤ y) (hy1 : y ≤ 9999) (hm0 : 1 ≤ m) (hm1 : m ≤ 12) :
    Fin (fun k => recur_Rule_may.f k r0 r1 r2 r3 l7 l8 l9 y m d wd first) (fun _ => True) := by
  unfold recur_Rule_may.f recur_Rule_may.g
  refine fin_bind (fin_ev (length_ev y m hy0 hy1 hm0 hm1) (p := fun _ => True) trivial) (fun n _ => fin_ite (fun _ => fin_now trivial) (fun _ => fin_bind (p := fun _ => True) ?_ (fun ok _ => fin_ite (fun _ => fin_ite (fun _ => fin_now trivial) (fun _ => ?_)) (fun _ => fin_now trivial))))
  · exact fin_ite (fun _ => fin_now trivial) (fun _ => fin_bind (contains_fin l8 d h8) (fun t _ => fin_ite (fun _ => fin_now trivial) (fun _ => contains_fin l8 _ h8)))
  · rw [show (fun n' : Nat => if l9.length < 4611686018427387904 then some (l9.any (recur_Rule_may.fitsB wd (wrap64 ((wrap64 (d + 6)).tdiv 7)) (wrap64 (-wrap64 (wrap64 ((wrap64 (n - d)).tdiv 7) + 1))))) else none) = fun _ => some (l9.any (recur_Rule_may.fitsB wd (wrap64 ((wrap64 (d + 6)).tdiv 7)) (wrap64 (-wrap64 (wrap64 ((wrap64 (n - d)).tdiv 7) + 1))))) from by funext _; rw [if_pos h9]]
    exact fin_now trivial
theorem match_fin (r0 r1 r2 r3 : Int) (l7 l8 : List Int) (l9 : List S53) (a b : Int) (h7 : l7.length ≤ 9223372036854775807) (h8 : l8.length ≤ 9223372036854775807) (h9 : l9.length < 4611686018427387904) (hr : 1 ≤ r1)
    (ha : 0 ≤ a ∧ a ≤ 2932896) (hb : 0 ≤ b ∧ b ≤ 2932896) : Fin (fun k => recur_match.f k r0 r1 r2 r3 l7 l8 l9 a b) (fun _ => True) := by
  obtain ⟨y0, m0, d0, hI0, hE0⟩ := civil_ev a ha.1 ha.2
  obtain ⟨y, m, d, hI, hE⟩ := civil_ev b hb.1 hb.2
  have hmy := fun first wd => may_fin r0 r1 r2 r3 l7 l8 l9 y ((m + 1 : Nat) : Int) d wd first h8 h9 hI.y0 hI.y1 (by omega) (by have := hI.m1; omega)
  have hon := fun wd => on_fin r0 r1 r2 r3 l7 l8 l9 wd (by omega)
  have j : ∀ (z : Bool) (wd w0 : Int), Fin (fun k => recur_match.j0 k a b y0 ((m0 + 1 : Nat) : Int) d0 y ((m + 1 : Nat) : Int) d wd w0 r1 z r0 r1 r2 r3 l7 l8 l9) (fun _ => True) := by
    intro z wd w0
    refine fin_step (fun k => by simp only [recur_match.j0, if_neg (show ¬ r1 = 0 by omega)]; rfl) ?_
    refine fin_ite (fun _ => fin_now trivial) (fun _ => ?_)
    refine fin_ite (fun _ => fin_ite (fun _ => fin_bind (hon _) (fun _ _ => fin_now trivial)) (fun _ => fin_now trivial)) (fun _ => ?_)
    refine fin_ite (fun _ => fin_ite (fun _ => fin_ite (fun _ => fin_bind (hon _) (fun _ _ => fin_ite (fun _ => fin_now trivial) (fun _ => fin_ite (fun _ => fin_now trivial) (fun _ => fin_now trivial)))) (fun _ => fin_ite (fun _ => fin_now trivial) (fun _ => fin_now trivial))) (fun _ => fin_now trivial)) (fun _ => ?_)
    refine fin_ite (fun _ => fin_ite (fun _ => fin_bind (hmy _ _) (fun _ _ => fin_now trivial)) (fun _ => fin_now trivial)) (fun _ => ?_)
    exact fin_ite (fun _ => fin_ite (fun _ => fin_bind (hmy _ _) (fun _ _ => fin_now trivial)) (fun _ => fin_ite (fun _ => fin_bind (hmy _ _) (fun _ _ => fin_now trivial)) (fun _ => fin_now trivial))) (fun _ => fin_now trivial)
  unfold recur_match.f
  refine fin_bind (fin_ev hE0 (p := fun x => x = (y0, ((m0 + 1 : Nat) : Int), d0, 0)) rfl) (fun x hx => ?_)
  subst hx
  refine fin_bind (fin_ev hE (p := fun x => x = (y, ((m + 1 : Nat) : Int), d, 0)) rfl) (fun x hx => ?_)
  subst hx
  simp only [weekday_f ha.1 ha.2, weekday_f hb.1 hb.2, Option.bind_some]
  exact fin_ite (fun _ => j _ _ _) (fun _ => fin_ite (fun _ => fin_bind (contains_fin l7 _ h7) (fun _ _ => j _ _ _)) (fun _ => j _ _ _))
end Go.Proofs.YtbeihceeliifeaaGreatDoor.Match
/- A rule's times, and a series' originals: what they are, in plain words. -/
set_option linter.unusedVariables false
namespace Go.Proofs.YtbeihceeliifeaaGreatDoor.Times
open Go.RowKit Go.Proofs.YtbeihceeliifeaaGreatDoorW.PrintWords Go.Proofs.YtbeihceeliifeaaGreatDoorW.PrintLast Go.Proofs.YtbeihceeliifeaaGreatDoorW.PrintMore Go.Proofs.YtbeihceeliifeaaGreatDoor.PR Go.Proofs.YtbeihceeliifeaaGreatDoor.Cal Go.Proofs.YtbeihceeliifeaaGreatDoor.Base Go.Proofs.YtbeihceeliifeaaGreatDoor.Match

/-! ### days -/
/-- The days from d on, every step-th, up to a last one. -/
def span (step last : Int) : Nat → Int → List Int
  | 0, _ => []
  | n + 1, d => if d ≤ last then d :: span step last n (d + step) else []
theorem span_mem (step last : Int) (hs : 0 ≤ step) : ∀ (n : Nat) (d x : Int), x ∈ span step last n d → d ≤ x ∧ x ≤ last
  | 0, _, _, h => by cases h
  | n + 1, d, x, h => by
    unfold span at h
    split at h
    · rcases List.mem_cons.1 h with rfl | h
      · omega
      · have := span_mem step last hs n _ x h; omega
    · cases h
theorem span_prefix (step l1 l2 : Int) (hl : l1 ≤ l2) : ∀ (n : Nat) (d : Int), span step l1 n d <+: span step l2 n d
  | 0, _ => List.prefix_refl _
  | n + 1, d => by
    unfold span
    by_cases c : d ≤ l1
    · rw [if_pos c, if_pos (by omega)]
      obtain ⟨t, ht⟩ := span_prefix step l1 l2 hl n (d + step)
      exact ⟨t, by rw [← ht]; rfl⟩
    · rw [if_neg c]
      exact List.nil_prefix
theorem days_ev (m : Nat → Int → Option Bool) (B : Int → Bool) (first last step : Int) (h0 : 0 ≤ first) (hl : last ≤ 2932896) (hs : 1 ≤ step ∧ step ≤ 1000) (hm : ∀ d, first ≤ d → d ≤ last → Ev (fun k => m k d) (B d)) :
    ∀ (n : Nat) (d : Int), first ≤ d → last - d < n → Ev (fun k => Expand.exDays m first last step k d) ((span step last n d).filter fun x => x == first || B x) := by
  intro n
  induction n with
  | zero =>
    intro d hd hn
    refine Ev.step (f := fun _ => some []) (fun k => ?_) (Ev.now _)
    simp only [Expand.exDays]
    rw [if_neg (by omega)]
  | succ n ih =>
    intro d hd hn
    by_cases c : d ≤ last
    · have ew : wrap64 (d + step) = d + step := by unfold wrap64; omega
      have nxt := ih (d + step) (by omega) (by omega)
      refine Ev.step (fun k => by simp only [Expand.exDays]; rw [if_pos c, ew]) ?_
      by_cases e : d = first
      · simp only [if_pos e]
        have := Ev.bind (f := fun _ ys => some (d :: ys)) nxt (Ev.now _)
        rw [show span step last (n + 1) d = d :: span step last n (d + step) from by simp [span, c]]
        rw [List.filter_cons_of_pos (by simp [e])]
        exact this
      · simp only [if_neg e]
        rw [show span step last (n + 1) d = d :: span step last n (d + step) from by simp [span, c]]
        have h1 := Ev.bind (f := fun n b => (Expand.exDays m first last step n (d + step)).bind fun ys => some (if b = true then d :: ys else ys)) (hm d hd c) (Ev.bind nxt (Ev.now _))
        cases hb : B d with
        | true =>
          rw [List.filter_cons_of_pos (by simp [hb])]
          rw [hb] at h1
          exact h1
        | false =>
          rw [List.filter_cons_of_neg (by simp [hb, e])]
          rw [hb] at h1
          exact h1
    · refine Ev.step (f := fun _ => some []) (fun k => ?_) ?_
      · simp only [Expand.exDays]
        rw [if_neg c]
      · rw [show span step last (n + 1) d = [] from by simp [span, c]]
        exact Ev.now _

/-! ### the loop over days -/
section
variable (cnt until_ first from_ till : Int)
def stops (c : Nat) (d : Int) : Bool := decide (Expand.exTime first d ≥ till) || (decide (cnt > 0) && decide ((c : Int) + 1 > cnt)) || (!(until_ == -1) && decide (Expand.exTime first d > until_))
/-- The days ahead of the one that stops. -/
def ahead : Nat → List Int → List Int
  | _, [] => []
  | c, d :: ds => if stops cnt until_ first till c d = true then [] else d :: ahead (c + 1) ds
theorem run_spec (most : Int) : ∀ (ds : List Int) (c : Nat) (out : List Int), c + ds.length < 4611686018427387904 → ((Expand.exRun cnt until_ first from_ till most c out ds).length : Int) < most →
    Expand.exRun cnt until_ first from_ till most c out ds = out ++ ((ahead cnt until_ first till c ds).filter fun d => decide (Expand.exTime first d ≥ from_)).map (Expand.exTime first) := by
  intro ds
  induction ds with
  | nil => intro c out _ _; simp [Expand.exRun, ahead]
  | cons d ds ih =>
    intro c out hc hlen
    have ew : wrap64 ((c : Int) + 1) = ((c + 1 : Nat) : Int) := by simp at hc; unfold wrap64; omega
    have es : Expand.exStop cnt until_ first till most c (out.length : Int) d = (stops cnt until_ first till c d || ((out.length : Int) == most)) := by
      unfold Expand.exStop stops
      rw [ew]
      rfl
    simp only [Expand.exRun, es] at hlen ⊢
    cases h : stops cnt until_ first till c d with
    | true =>
      simp [ahead, h]
    | false =>
      rw [h, Bool.false_or] at hlen
      by_cases e : ((out.length : Int) == most) = true
      · rw [if_pos e] at hlen
        have := beq_iff_eq.1 e
        omega
      · rw [if_neg e, ew] at hlen
        rw [Bool.false_or, if_neg e, ew, ih (c + 1) _ (by simp at hc; omega) hlen]
        simp only [ahead, h, Bool.false_eq_true, if_false]
        unfold Expand.exPut
        by_cases cf : Expand.exTime first d ≥ from_
        · rw [if_pos cf, List.filter_cons_of_pos (by simp [cf])]
          simp
        · rw [if_neg cf, List.filter_cons_of_neg (by simp [cf])]
theorem run_mem (most : Int) : ∀ (ds : List Int) (c : Int) (out : List Int) (t : Int), t ∈ Expand.exRun cnt until_ first from_ till most c out ds → t ∈ out ∨ ∃ d, d ∈ ds ∧ t = Expand.exTime first d := by
  intro ds
  induction ds with
  | nil => intro c out t h; exact .inl h
  | cons d ds ih =>
    intro c out t h
    simp only [Expand.exRun] at h
    split at h
    · exact .inl h
    · rcases ih _ _ _ h with h | ⟨x, hx, e⟩
      · unfold Expand.exPut at h
        split at h
        · rcases List.mem_append.1 h with h | h
          · exact .inl h
          · exact .inr ⟨d, by simp, by simpa using h⟩
        · exact .inl h
      · exact .inr ⟨x, List.mem_cons_of_mem _ hx, e⟩
theorem run_len (most : Int) : ∀ (ds : List Int) (c : Int) (out : List Int), (out.length : Int) ≤ most → ((Expand.exRun cnt until_ first from_ till most c out ds).length : Int) ≤ most := by
  intro ds
  induction ds with
  | nil => intro c out h; exact h
  | cons d ds ih =>
    intro c out h
    simp only [Expand.exRun]
    split
    · exact h
    · rename_i hs
      refine ih _ _ ?_
      have hne : ¬ (out.length : Int) = most := fun e => hs (by simp [Expand.exStop, e])
      unfold Expand.exPut
      split
      · simp; omega
      · exact h
end
theorem time_eq {first d : Int} (h0 : 0 ≤ d) (h1 : d ≤ 2932896) : Expand.exTime first d = d * 86400 + first % 86400 := by
  unfold Expand.exTime wrap64
  omega

/-! ### a rule's times in a window -/
section
variable (r0 r1 r2 r3 : Int) (l7 l8 : List Int) (l9 : List S53)
open Classical in
/-- Does a day match? -/
noncomputable def fits (first d : Int) : Bool := if h : ∃ b, Ev (fun k => recur_match.f k r0 r1 r2 r3 l7 l8 l9 first d) b then h.choose else false
/-- The days up to a last one. -/
noncomputable def daysTo (s0 hi : Int) : List Int := (span (if r0 = 1 then r1 else 1) (min (hi / 86400) 2932896) 3000000 (s0 / 86400)).filter fun x => x == s0 / 86400 || fits r0 r1 r2 r3 l7 l8 l9 (s0 / 86400) x
/-- The times of a window. -/
noncomputable def timesIn (s0 lo hi : Int) : List Int := ((ahead r2 r3 s0 hi 0 (daysTo r0 r1 r2 r3 l7 l8 l9 s0 hi)).filter fun d => decide (Expand.exTime s0 d ≥ lo)).map (Expand.exTime s0)
theorem span_len (step last : Int) : ∀ (n : Nat) (d : Int), (span step last n d).length ≤ n
  | 0, _ => Nat.le_refl _
  | n + 1, d => by
    unfold span
    split
    · simp; exact span_len step last n _
    · simp
end
end Go.Proofs.YtbeihceeliifeaaGreatDoor.Times

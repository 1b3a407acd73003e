/- The statement RecurTimes over lists and numbers: times rise, match, and what lies between two of them does not. -/
import Derived.Test.YtbeihceeliifeaaGreatDoorTol
import Derived.Test.YtbeihceeliifeaaGreatDoorPRx20
set_option linter.unusedVariables false
namespace Go.Proofs.YtbeihceeliifeaaGreatDoor.Rise
open Go.RowKit Go.Proofs.YtbeihceeliifeaaGreatDoorW.PrintWords Go.Proofs.YtbeihceeliifeaaGreatDoorW.PrintLast Go.Proofs.YtbeihceeliifeaaGreatDoorW.PrintMore Go.Proofs.YtbeihceeliifeaaGreatDoor.PR Go.Proofs.YtbeihceeliifeaaGreatDoor.Cal Go.Proofs.YtbeihceeliifeaaGreatDoor.Base Go.Proofs.YtbeihceeliifeaaGreatDoor.Agree Go.Proofs.YtbeihceeliifeaaGreatDoor.Rule Go.Proofs.YtbeihceeliifeaaGreatDoor.Mat Go.Proofs.YtbeihceeliifeaaGreatDoor.Exp Go.Proofs.YtbeihceeliifeaaGreatDoor.Times Go.Proofs.YtbeihceeliifeaaGreatDoor.Tol
/-- From d on, each number that is meant, one behind the other. -/
inductive Con (p : Int → Bool) : Int → List Int → Prop
  | nil (d : Int) : Con p d []
  | cons (d x : Int) (l : List Int) : d ≤ x → (∀ y, d ≤ y → y < x → p y = false) → p x = true → Con p (x + 1) l → Con p d (x :: l)
theorem Con.back {p : Int → Bool} {d : Int} {l : List Int} (h : Con p (d + 1) l) (hd : p d = false) : Con p d l := by
  cases h with
  | nil => exact .nil _
  | cons _ x l h1 h2 h3 h4 =>
    refine .cons _ _ _ (by omega) (fun y a b => ?_) h3 h4
    by_cases e : y = d
    · rw [e]; exact hd
    · exact h2 y (by omega) b
theorem con_span (p : Int → Bool) (last : Int) : ∀ (n : Nat) (d : Int), Con p d ((span 1 last n d).filter p)
  | 0, d => by simp only [span, List.filter_nil]; exact .nil _
  | n + 1, d => by
    unfold span
    by_cases c : d ≤ last
    · rw [if_pos c, List.filter_cons]
      by_cases e : p d = true
      · rw [if_pos e]
        exact .cons _ _ _ (Int.le_refl _) (fun y a b => absurd b (by omega)) e (con_span p last n _)
      · rw [if_neg e]
        exact (con_span p last n _).back (Bool.eq_false_iff.mpr e)
    · rw [if_neg c]
      exact .nil _
theorem Con.pre {p : Int → Bool} : ∀ {l l' : List Int} {d : Int}, Con p d l → l' <+: l → Con p d l'
  | [], l', d, h, hp => by
    obtain rfl := List.prefix_nil.mp hp
    exact .nil _
  | x :: l, [], d, h, hp => .nil _
  | x :: l, y :: l', d, h, hp => by
    obtain ⟨e, hp2⟩ := List.cons_prefix_cons.mp hp
    subst e
    cases h with
    | cons _ _ _ h1 h2 h3 h4 => exact .cons _ _ _ h1 h2 h3 (h4.pre hp2)
section
variable (cnt until_ first till : Int)
theorem ahead_pre : ∀ (ds : List Int) (c : Nat), Times.ahead cnt until_ first till c ds <+: ds
  | [], c => List.prefix_refl _
  | d :: ds, c => by
    unfold Times.ahead
    split
    · exact List.nil_prefix
    · exact List.cons_prefix_cons.mpr ⟨rfl, ahead_pre ds (c + 1)⟩
theorem ahead_ok : ∀ (ds : List Int) (c : Nat), (∀ d, d ∈ Times.ahead cnt until_ first till c ds → Expand.exTime first d < till ∧ (until_ = -1 ∨ Expand.exTime first d ≤ until_)) ∧ (cnt > 0 → ((Times.ahead cnt until_ first till c ds).length = 0 ∨ ((Times.ahead cnt until_ first till c ds).length : Int) + c ≤ cnt))
  | [], c => ⟨fun d h => by simp [Times.ahead] at h, fun _ => .inl rfl⟩
  | d :: ds, c => by
    obtain ⟨h1, h2⟩ := ahead_ok ds (c + 1)
    unfold Times.ahead
    by_cases e : Times.stops cnt until_ first till c d = true
    · rw [if_pos e]
      exact ⟨fun d h => (by cases h), fun _ => .inl rfl⟩
    · rw [if_neg e]
      have e' := Bool.eq_false_iff.mpr e
      unfold Times.stops at e'
      simp only [Bool.or_eq_false_iff, Bool.and_eq_false_iff, decide_eq_false_iff_not, Bool.not_eq_false', beq_iff_eq] at e'
      refine ⟨fun x hx => ?_, fun hc => .inr ?_⟩
      · rcases List.mem_cons.mp hx with h | hx
        · subst h
          exact ⟨by omega, e'.2.imp id (fun h => by omega)⟩
        · exact h1 x hx
      · rw [List.length_cons]
        rcases h2 hc with h | h
        · rw [h]
          have := e'.1.2
          omega
        · omega
end
section
variable (r0 r1 r2 r3 : Int) (l7 l8 : List Int) (l9 : List S53)
theorem match_fits (h7 : l7.length ≤ 9223372036854775807) (h8 : l8.length ≤ 9223372036854775807) (g : Mat.Good r0 r1 r2 r3 l9) (a b : Int) (ha : 0 ≤ a ∧ a ≤ 2932896) (hb : 0 ≤ b ∧ b ≤ 2932896) : Ev (fun k => recur_match.f k r0 r1 r2 r3 l7 l8 l9 a b) (fits r0 r1 r2 r3 l7 l8 l9 a b) := by
  obtain ⟨v, e1, -⟩ := match_all r0 r1 r2 r3 l7 l8 l9 h7 h8 g a b ha hb
  rw [fits_ev r0 r1 r2 r3 l7 l8 l9 e1]
  exact e1
theorem Match_fits (h7 : l7.length ≤ 9223372036854775807) (h8 : l8.length ≤ 9223372036854775807) (hr : Ev (fun k => recur_Right.f k r0 r1 r2 r3 l7 l8 l9) true) (g : Mat.Good r0 r1 r2 r3 l9) (a b : Int) (ha : 0 ≤ a ∧ a ≤ 2932896) (hb : 0 ≤ b ∧ b ≤ 2932896) : Ev (fun k => recur_Match.f k r0 r1 r2 r3 l7 l8 l9 a b) (fits r0 r1 r2 r3 l7 l8 l9 a b, 0) := by
  unfold recur_Match.f
  refine Ev.bind hr ?_
  simp only [if_true, day_f, Option.bind_some, decide_eq_true ha, decide_eq_true hb]
  exact Ev.bind (match_fits r0 r1 r2 r3 l7 l8 l9 h7 h8 g a b ha hb) (Ev.now _)
theorem stepI {i n : Nat} (h : i < n) (hn : n ≤ 1000) : wrap64 ((i : Int) + 1) = ((i + 1 : Nat) : Int) := (wrapI (by omega) (by omega)).trans (by omega)
theorem backI {i m : Nat} (h : 1 ≤ i) (h1 : i < m) (h2 : m ≤ 1000) : wrap64 ((i : Int) - 1) = (i : Int) - 1 := wrapI (by omega) (by omega)
theorem dayI {d f : Int} (h0 : 0 ≤ d) (h1 : d ≤ 2932896) (hf : 0 ≤ f ∧ f < 86400) : wrap64 (Int.tdiv (d * 86400 + f) 86400) = d := by
  rw [tdivI (by omega), wrapI (by omega) (by omega)]
  omega
theorem nextI {x : Int} (h : 0 ≤ x) (h1 : x ≤ 2932897) : wrap64 (x + 1) = x + 1 := wrapI (by omega) (by omega)
/-- Is a day one of the series' days? -/
noncomputable def isDay (a x : Int) : Bool := x == a || fits r0 r1 r2 r3 l7 l8 l9 a x
theorem between (s0 hi a f : Int) (l : List Int) (hr : Ev (fun k => recur_Right.f k r0 r1 r2 r3 l7 l8 l9) true) (h7 : l7.length ≤ 9223372036854775807) (h8 : l8.length ≤ 9223372036854775807) (g : Mat.Good r0 r1 r2 r3 l9) (hf : 0 ≤ f ∧ f < 86400) (ha : 0 ≤ a ∧ a ≤ 2932896) (hs : s0 = a * 86400 + f)
    (i : Nat) (q z : Int) (hi1 : 1 ≤ i) (hil : i < l.length) (hln : l.length ≤ 1000) (hq : a ≤ q) (hqz : q < z) (hz : z ≤ 2932896) (eq : rd l ((i : Int) - 1) = q * 86400 + f) (ez : rd l (i : Int) = z * 86400 + f)
    (no : ∀ y, q + 1 ≤ y → y < z → isDay r0 r1 r2 r3 l7 l8 l9 a y = false) (C : Ev (fun k => posthornlaw21_RecurTimes.l0 k s0 hi l ((i + 1 : Nat) : Int) r0 r1 r2 r3 l7 l8 l9) true) :
    ∀ (n : Nat) (x : Int), q < x → x ≤ z → z - x < n → Ev (fun k => posthornlaw21_RecurTimes.l1 k s0 hi l (i : Int) x r0 r1 r2 r3 l7 l8 l9) true := by
  have HQ := Aside0.mk eq
  have HZ := Aside0.mk ez
  have HC := Aside0.mk C
  have HN := Aside0.mk no
  clear eq ez C no
  intro n
  induction n with
  | zero => intro x _ _ h; omega
  | succ n ih =>
    intro x hqx hxz hn
    have w1 : Aside0 (wrap64 ((i : Int) + 1) = ((i + 1 : Nat) : Int)) := ⟨stepI hil hln⟩
    have w0 : Aside0 (wrap64 ((i : Int) - 1) = (i : Int) - 1) := ⟨backI hi1 hil hln⟩
    have ediv : ∀ y : Int, 0 ≤ y → y ≤ 2932896 → wrap64 (Int.tdiv (y * 86400 + f) 86400) = y := fun y h1 h2 => dayI h1 h2 hf
    have e0 : Aside0 (wrap64 (Int.tdiv s0 86400) = a) := ⟨by rw [hs]; exact dayI ha.1 ha.2 hf⟩
    have jf : Ev (fun k => posthornlaw21_RecurTimes.j6 k s0 hi l (i : Int) x false r0 r1 r2 r3 l7 l8 l9) true := Ev.step (fun k => by simp only [posthornlaw21_RecurTimes.j6, Bool.false_eq_true, if_false, w1.out]) HC.out
    by_cases c : x < z
    · have hd : x ≠ a := by omega
      have hf : fits r0 r1 r2 r3 l7 l8 l9 a x = false := by
        have := HN.out x (by omega) c
        unfold isDay at this
        rw [beq_eq_false_iff_ne.mpr hd, Bool.false_or] at this
        exact this
      have jt : Ev (fun k => posthornlaw21_RecurTimes.j6 k s0 hi l (i : Int) x true r0 r1 r2 r3 l7 l8 l9) true := by
        refine Ev.step (f := fun k => (recur_Match.f k r0 r1 r2 r3 l7 l8 l9 a x).bind fun bt382 => (if bt382.1 = true then (some false) else (if bt382.2 = 0 then (posthornlaw21_RecurTimes.l1 k s0 hi l (i : Int) (wrap64 (x + 1)) r0 r1 r2 r3 l7 l8 l9) else (some false)))) (fun k => by simp only [posthornlaw21_RecurTimes.j6, if_true, e0.out]) ?_
        refine Ev.bind (Match_fits r0 r1 r2 r3 l7 l8 l9 h7 h8 hr g a x ha ⟨by omega, by omega⟩) ?_
        simp only [hf, Bool.false_eq_true, if_false, if_true]
        rw [show wrap64 (x + 1) = x + 1 from nextI (by omega) (by omega)]
        exact ih (x + 1) (by omega) (by omega) (by omega)
      refine Ev.step (f := fun k => posthornlaw21_RecurTimes.j6 k s0 hi l (i : Int) x (decide (x < wrap64 (wrap64 (Int.tdiv (q * 86400 + f) 86400) + 60))) r0 r1 r2 r3 l7 l8 l9) (fun k => ?_) ?_
      · simp only [posthornlaw21_RecurTimes.l1]
        rw [if_pos (show (0 : Int) ≤ (i : Int) by omega), if_pos (show (i : Int) < (l.length : Int) by omega), HZ.out, ediv z (by omega) hz, if_pos c, w0.out, if_pos (show (0 : Int) ≤ (i : Int) - 1 by omega), if_pos (show (i : Int) - 1 < (l.length : Int) by omega), HQ.out]
      · cases decide (x < wrap64 (wrap64 (Int.tdiv (q * 86400 + f) 86400) + 60)) with
        | true => exact jt
        | false => exact jf
    · refine Ev.step (fun k => ?_) jf
      simp only [posthornlaw21_RecurTimes.l1]
      rw [if_pos (show (0 : Int) ≤ (i : Int) by omega), if_pos (show (i : Int) < (l.length : Int) by omega), HZ.out, ediv z (by omega) hz, if_neg c]
theorem rest (s0 hi a f : Int) (days : List Int) (hr : Ev (fun k => recur_Right.f k r0 r1 r2 r3 l7 l8 l9) true) (h7 : l7.length ≤ 9223372036854775807) (h8 : l8.length ≤ 9223372036854775807) (g : Mat.Good r0 r1 r2 r3 l9) (hf : 0 ≤ f ∧ f < 86400) (ha : 0 ≤ a ∧ a ≤ 2932896) (hs : s0 = a * 86400 + f) (hhi : 0 ≤ hi ∧ hi ≤ 253402300799)
    (hln : days.length ≤ 1000) (hok : ∀ d, d ∈ days → d ≤ 2932896 ∧ d * 86400 + f < hi ∧ (r3 = -1 ∨ d * 86400 + f ≤ r3)) (hcnt : r2 > 0 → (days.length : Int) ≤ r2) (l : List Int) (hl : l = days.map fun d => d * 86400 + f) :
    ∀ (suf : List Int) (i : Nat) (q : Int), days.drop i = suf → 1 ≤ i → i ≤ days.length → a ≤ q → q ≤ 2932896 → rd l ((i : Int) - 1) = q * 86400 + f → Con (isDay r0 r1 r2 r3 l7 l8 l9 a) (q + 1) suf → Ev (fun k => posthornlaw21_RecurTimes.l0 k s0 hi l (i : Int) r0 r1 r2 r3 l7 l8 l9) true := by
  have hll : l.length = days.length := by rw [hl, List.length_map]
  intro suf
  induction suf with
  | nil =>
    intro i q hd h1 hle _ _ _ _
    have h := drop_nil hd
    have hc := g.fine.count
    refine Ev.step (f := fun k => (posthornlaw21_alive.f k).bind fun t368 => (if t368 = true then (if r2 = 0 then (some true) else (some (decide ((l.length : Int) ≤ r2)))) else (some false))) (fun k => ?_) ?_
    · simp only [posthornlaw21_RecurTimes.l0]
      rw [if_neg (by omega)]
    · refine Ev.bind Alive.alive_ev ?_
      simp only [if_true]
      by_cases c : r2 = 0
      · simp only [if_pos c]
        exact Ev.now _
      · simp only [if_neg c, decide_eq_true (show (l.length : Int) ≤ r2 by have := hcnt (by omega); omega)]
        exact Ev.now _
  | cons z suf ih =>
    intro i q hd h1 hle hq1 hq2 eq hcon
    have HQ := Aside0.mk eq
    clear eq
    obtain ⟨hlt, hg, hd'⟩ := get_drop (d := (0 : Int)) hd
    have hz := hok z (List.mem_of_mem_drop (hd ▸ List.mem_cons_self))
    cases hcon with
    | cons _ _ _ c1 c2 c3 c4 =>
    have ez : rd l (i : Int) = z * 86400 + f := by
      have : days[i]'hlt = z := by
        have := hg
        rw [List.getD_eq_getElem?_getD, show (((i : Nat) : Int)).toNat = i by omega, List.getElem?_eq_getElem hlt] at this
        exact this
      simp [rd, hl, this, hlt]
    have HZ := Aside0.mk ez
    clear ez
    have w0 : Aside0 (wrap64 ((i : Int) - 1) = (i : Int) - 1) := ⟨backI h1 hlt hln⟩
    have w1 : Aside0 (wrap64 ((i : Int) + 1) = ((i + 1 : Nat) : Int)) := ⟨stepI hlt hln⟩
    have ediv : ∀ y : Int, 0 ≤ y → y ≤ 2932896 → wrap64 (Int.tdiv (y * 86400 + f) 86400) = y := fun y h1 h2 => dayI h1 h2 hf
    have e0 : Aside0 (wrap64 (Int.tdiv s0 86400) = a) := ⟨by rw [hs]; exact dayI ha.1 ha.2 hf⟩
    have C := ih (i + 1) z hd' (by omega) (by omega) (by omega) hz.1 (by rw [show ((i + 1 : Nat) : Int) - 1 = (i : Int) by omega]; exact HZ.out) c4
    have HC := Aside0.mk C
    clear C
    have L1 := between r0 r1 r2 r3 l7 l8 l9 s0 hi a f l hr h7 h8 g hf ha hs i q z h1 (by omega) (by omega) hq1 (by omega) hz.1 HQ.out HZ.out c2 HC.out (z - q).toNat (q + 1) (by omega) (by omega) (by omega)
    have J4 : Ev (fun k => posthornlaw21_RecurTimes.j4 k s0 hi l (i : Int) false r0 r1 r2 r3 l7 l8 l9) true := by
      refine Ev.step (fun k => ?_) L1
      simp only [posthornlaw21_RecurTimes.j4, Bool.false_eq_true, if_false]
      rw [w0.out, if_pos (show (0 : Int) ≤ (i : Int) - 1 by omega), if_pos (show (i : Int) - 1 < (l.length : Int) by omega), HQ.out, ediv q (by omega) hq2, show wrap64 (q + 1) = q + 1 from nextI (by omega) (by omega)]
    have J3 : Ev (fun k => posthornlaw21_RecurTimes.j3 k s0 hi l (i : Int) false r0 r1 r2 r3 l7 l8 l9) true := by
      refine Ev.step (f := fun k => (recur_Match.f k r0 r1 r2 r3 l7 l8 l9 a z).bind fun bt377 => (if bt377.1 = true then (posthornlaw21_RecurTimes.j4 k s0 hi l (i : Int) (bt377.2 != 0) r0 r1 r2 r3 l7 l8 l9) else (posthornlaw21_RecurTimes.j4 k s0 hi l (i : Int) true r0 r1 r2 r3 l7 l8 l9))) (fun k => by simp only [posthornlaw21_RecurTimes.j3, Bool.false_eq_true, if_false]; rw [if_pos (show (0 : Int) ≤ (i : Int) by omega), if_pos (show (i : Int) < (l.length : Int) by omega), HZ.out, ediv z (by omega) hz.1, e0.out]) ?_
      have hf : fits r0 r1 r2 r3 l7 l8 l9 a z = true := by
        unfold isDay at c3
        rw [beq_eq_false_iff_ne.mpr (show z ≠ a by omega), Bool.false_or] at c3
        exact c3
      refine Ev.bind (Match_fits r0 r1 r2 r3 l7 l8 l9 h7 h8 hr g a z ha ⟨by omega, hz.1⟩) ?_
      simp only [hf, if_true, bne_self_eq_false]
      exact J4
    have J2 : Ev (fun k => posthornlaw21_RecurTimes.j2 k s0 hi l (i : Int) false r0 r1 r2 r3 l7 l8 l9) true := by
      refine Ev.step (fun k => ?_) J3
      simp only [posthornlaw21_RecurTimes.j2, Bool.false_eq_true, if_false]
      rw [if_neg (show ¬ (i : Int) = 0 by omega), if_pos (show (0 : Int) ≤ (i : Int) by omega), if_pos (show (i : Int) < (l.length : Int) by omega), w0.out, if_pos (show (0 : Int) ≤ (i : Int) - 1 by omega), if_pos (show (i : Int) - 1 < (l.length : Int) by omega), HZ.out, HQ.out, if_neg (by omega)]
      by_cases c : r3 ≥ 0
      · rw [if_pos c, decide_eq_false (by have := hz.2.2; omega)]
      · rw [if_neg c]
    refine Ev.step (fun k => ?_) J2
    simp only [posthornlaw21_RecurTimes.l0]
    rw [if_pos (show (i : Int) < (l.length : Int) by omega), if_pos (show (0 : Int) ≤ (i : Int) by omega), HZ.out, show wrap64 (z * 86400 + f - s0) = z * 86400 + f - s0 from wrapI (by omega) (by omega), tmodI (show 0 ≤ z * 86400 + f - s0 by omega), show (z * 86400 + f - s0) % 86400 = 0 by rw [hs, show z * 86400 + f - (a * 86400 + f) = (z - a) * 86400 by omega]; exact Int.mul_emod_left _ _, if_pos rfl, if_neg (show ¬ z * 86400 + f < s0 by omega), if_neg (show ¬ z * 86400 + f ≥ hi by omega), if_neg (show ¬ (i : Int) = 0 by omega)]
theorem first_day (s0 hi a f : Int) (days : List Int) (hr : Ev (fun k => recur_Right.f k r0 r1 r2 r3 l7 l8 l9) true) (h7 : l7.length ≤ 9223372036854775807) (h8 : l8.length ≤ 9223372036854775807) (g : Mat.Good r0 r1 r2 r3 l9) (hf : 0 ≤ f ∧ f < 86400) (ha : 0 ≤ a ∧ a ≤ 2932896) (hs : s0 = a * 86400 + f) (hhi : 0 ≤ hi ∧ hi ≤ 253402300799)
    (hln : days.length ≤ 1000) (hok : ∀ d, d ∈ days → d ≤ 2932896 ∧ d * 86400 + f < hi ∧ (r3 = -1 ∨ d * 86400 + f ≤ r3)) (hcnt : r2 > 0 → (days.length : Int) ≤ r2) (hcon : Con (isDay r0 r1 r2 r3 l7 l8 l9 a) (a) days) :
    Ev (fun k => posthornlaw21_RecurTimes.l0 k s0 hi (days.map fun d => d * 86400 + f) 0 r0 r1 r2 r3 l7 l8 l9) true := by
  have hc := g.fine.count
  cases hcon with
  | nil =>
    refine Ev.step (f := fun k => (posthornlaw21_alive.f k).bind fun t368 => (if t368 = true then (if r2 = 0 then (some true) else (some (decide (((0 : Nat) : Int) ≤ r2)))) else (some false))) (fun k => ?_) ?_
    · simp only [posthornlaw21_RecurTimes.l0, List.map_nil, List.length_nil]
      rw [if_neg (by omega)]
    · refine Ev.bind Alive.alive_ev ?_
      simp only [if_true]
      by_cases c : r2 = 0
      · simp only [if_pos c]
        exact Ev.now _
      · simp only [if_neg c, decide_eq_true (show ((0 : Nat) : Int) ≤ r2 by omega)]
        exact Ev.now _
  | cons _ z suf c1 c2 c3 c4 =>
    have e : z = a := by
      rcases Int.lt_or_eq_of_le c1 with h | h
      · have := c2 (a) (Int.le_refl _) h
        simp [isDay] at this
      · exact h.symm
    have hz := hok z List.mem_cons_self
    have e2 : z * 86400 + f = s0 := by omega
    have er : rd ((z :: suf).map fun d => d * 86400 + f) 0 = s0 := by simp [rd, e2]
    have hlen : (((z :: suf).map fun d => d * 86400 + f).length : Int) = (suf.length : Int) + 1 := by simp
    have R := rest r0 r1 r2 r3 l7 l8 l9 s0 hi a f (z :: suf) hr h7 h8 g hf ha hs hhi hln hok hcnt _ rfl suf 1 z rfl (Nat.le_refl _) (by simp) (by omega) hz.1 (by rw [show ((1 : Nat) : Int) - 1 = 0 from rfl, er]; exact e2.symm) c4
    have J2 : Ev (fun k => posthornlaw21_RecurTimes.j2 k s0 hi ((z :: suf).map fun d => d * 86400 + f) 0 false r0 r1 r2 r3 l7 l8 l9) true := by
      refine Ev.step (fun k => ?_) R
      simp only [posthornlaw21_RecurTimes.j2, Bool.false_eq_true, if_false, if_true]
      rw [show wrap64 (0 + 1) = ((1 : Nat) : Int) from by unfold wrap64; omega]
    refine Ev.step (fun k => ?_) J2
    simp only [posthornlaw21_RecurTimes.l0]
    rw [if_pos (by rw [hlen]; omega), if_pos (Int.le_refl _), er, Int.sub_self, show Int.tmod (wrap64 0) 86400 = 0 from by unfold wrap64; rfl]
    simp only [if_true]
    rw [if_neg (by omega), if_neg (by omega), if_pos (by rw [hlen]; omega), bne_self_eq_false]
/-- The statement RecurTimes over lists and numbers. -/
theorem pure (s0 hi : Int) (h7 : l7.length ≤ 1000000000000000000) (h8 : l8.length ≤ 1000000000000000000) : ∃ k, posthornlaw21_RecurTimes.f k r0 r1 r2 r3 l7 l8 l9 s0 hi = some true := by
  suffices h : Ev (fun k => posthornlaw21_RecurTimes.f k r0 r1 r2 r3 l7 l8 l9 s0 hi) true by exact h.rounds
  unfold posthornlaw21_RecurTimes.f
  have jt : Ev (fun k => posthornlaw21_RecurTimes.j0 k s0 hi true r0 r1 r2 r3 l7 l8 l9) true :=
    Ev.step (f := fun k => (posthornlaw21_alive.f k).bind fun t => some t) (fun k => by simp only [posthornlaw21_RecurTimes.j0, if_true]) (Ev.bind Alive.alive_ev (Ev.now _))
  rcases great_cases r0 r1 r2 r3 l7 l8 l9 h7 h8 with hg | ⟨hg, h7, h8, h9⟩
  · simp only [hg, Option.bind_some, if_true]
    exact jt
  · simp only [hg, Option.bind_some, Bool.false_eq_true, if_false]
    obtain ⟨z, hz⟩ := far_some s0 hi
    simp only [hz, Option.bind_some]
    cases z with
    | true => exact jt
    | false =>
      obtain ⟨ok, e1, e2, hgd⟩ := right_all r0 r1 r2 r3 l7 l8 l9 (by omega) (by omega) (by omega)
      refine Ev.step (f := fun k => (recur_Expand.f k r0 r1 r2 r3 l7 l8 l9 s0 s0 hi 40).bind fun bt363 => (if bt363.2 = 0 then (posthornlaw21_RecurTimes.l0 k s0 hi bt363.1 0 r0 r1 r2 r3 l7 l8 l9) else ((posthornlaw21_alive.f k).bind fun t367 => (if t367 = true then (some ((bt363.1.length : Int) == 0)) else (some false))))) (fun k => by simp only [posthornlaw21_RecurTimes.j0, Bool.false_eq_true, if_false]) ?_
      have E := Expand_ev r0 r1 r2 r3 l7 l8 l9 (by omega) (by omega) ok e1 hgd s0 s0 hi 40
      by_cases good : ok = true ∧ ((0 ≤ s0 ∧ s0 ≤ 253402300799) ∧ (0 ≤ s0 ∧ s0 ≤ 253402300799) ∧ (0 ≤ hi ∧ hi ≤ 253402300799)) ∧ hi - s0 ≤ 631152000
      · obtain ⟨rfl, c1, c2⟩ := good
        have g := hgd rfl
        have ht : told r0 r1 r2 r3 l7 l8 l9 true s0 s0 hi 40 = (Expand.exRun r2 r3 s0 s0 hi 40 0 [] (daysTo r0 r1 r2 r3 l7 l8 l9 s0 hi), 0) := by
          unfold told
          rw [if_neg (by decide), if_neg (fun h => h c1), if_neg (fun h => h ⟨c2, by omega, by omega⟩)]
        have hD := days_all r0 r1 r2 r3 l7 l8 l9 (by omega) g.fine s0 hi c1.1 c1.2.2
        have hDl : (daysTo r0 r1 r2 r3 l7 l8 l9 s0 hi).length ≤ 3000000 := Nat.le_trans (List.length_filter_le _ _) (span_len _ _ _ _)
        have hmem : ∀ d, d ∈ daysTo r0 r1 r2 r3 l7 l8 l9 s0 hi → s0 / 86400 ≤ d ∧ d ≤ 2932896 := fun d hd => by
          rw [hD] at hd
          have := span_mem 1 _ (by omega) _ _ _ (List.mem_filter.1 hd).1
          omega
        have hT : ∀ d, d ∈ daysTo r0 r1 r2 r3 l7 l8 l9 s0 hi → Expand.exTime s0 d = d * 86400 + s0 % 86400 := fun d hd => time_eq (by have := hmem d hd; omega) (hmem d hd).2
        have hR := run_take r2 r3 s0 s0 hi 40 (daysTo r0 r1 r2 r3 l7 l8 l9 s0 hi) 0 [] (by omega) (by simp)
        rw [List.nil_append, show ((40 : Int).toNat - ([] : List Int).length) = 40 from rfl] at hR
        have hA := ahead_pre r2 r3 s0 hi (daysTo r0 r1 r2 r3 l7 l8 l9 s0 hi) 0
        obtain ⟨hA1, hA2⟩ := ahead_ok r2 r3 s0 hi (daysTo r0 r1 r2 r3 l7 l8 l9 s0 hi) 0
        rw [List.filter_eq_self.mpr (fun d hd => decide_eq_true (by have h1 := hA.subset hd; have h2 := hmem d h1; rw [hT d h1]; omega)), ← List.map_take] at hR
        have hP : (Times.ahead r2 r3 s0 hi 0 (daysTo r0 r1 r2 r3 l7 l8 l9 s0 hi)).take 40 <+: daysTo r0 r1 r2 r3 l7 l8 l9 s0 hi := (List.take_prefix _ _).trans hA
        have hcon : Con (isDay r0 r1 r2 r3 l7 l8 l9 (s0 / 86400)) (s0 / 86400) ((Times.ahead r2 r3 s0 hi 0 (daysTo r0 r1 r2 r3 l7 l8 l9 s0 hi)).take 40) := by
          refine Con.pre ?_ hP
          rw [hD]
          exact con_span (isDay r0 r1 r2 r3 l7 l8 l9 (s0 / 86400)) _ _ _
        have hmap : ((Times.ahead r2 r3 s0 hi 0 (daysTo r0 r1 r2 r3 l7 l8 l9 s0 hi)).take 40).map (Expand.exTime s0) = ((Times.ahead r2 r3 s0 hi 0 (daysTo r0 r1 r2 r3 l7 l8 l9 s0 hi)).take 40).map fun d => d * 86400 + s0 % 86400 := List.map_congr_left (fun d hd => hT d (hP.subset hd))
        rw [hmap] at hR
        rw [ht, show Expand.exRun r2 r3 s0 s0 hi 40 0 [] (daysTo r0 r1 r2 r3 l7 l8 l9 s0 hi) = _ from hR] at E
        refine Ev.bind E ?_
        simp only [if_true]
        refine first_day r0 r1 r2 r3 l7 l8 l9 s0 hi (s0 / 86400) (s0 % 86400) _ e1 (by omega) (by omega) g (by omega) (by omega) (by omega) c1.2.2 (by rw [List.length_take]; omega) (fun d hd => ?_) (fun hc => ?_) hcon
        · have h1 := hP.subset hd
          have h2 := hA1 d (List.mem_of_mem_take hd)
          rw [hT d h1] at h2
          exact ⟨(hmem d h1).2, h2⟩
        · rw [List.length_take]
          rcases hA2 hc with h | h <;> omega
      · have ht : ∃ c, told r0 r1 r2 r3 l7 l8 l9 ok s0 s0 hi 40 = ([], c) ∧ c ≠ 0 := by
          unfold told
          split
          · exact ⟨3, rfl, by decide⟩
          · rename_i d1
            split
            · exact ⟨110, rfl, by decide⟩
            · rename_i d2
              split
              · exact ⟨1, rfl, by decide⟩
              · rename_i d3
                exact absurd ⟨by cases ok <;> simp_all, Classical.not_not.mp d2, (Classical.not_not.mp d3).1⟩ good
        obtain ⟨c, ht, hc⟩ := ht
        rw [ht] at E
        refine Ev.bind E ?_
        simp only [if_neg hc]
        refine Ev.bind Alive.alive_ev ?_
        simp only [if_true]
        exact Ev.now _
end
end Go.Proofs.YtbeihceeliifeaaGreatDoor.Rise

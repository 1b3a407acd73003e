/- Lists of rising days: windows, counts, ends. A rule's days, and whether it may be, do not hang on its Count and its Until. -/
import Derived.Test.YtbeihceeliifeaaGreatDoorTol
import Derived.Test.YtbeihceeliifeaaGreatDoorPRx17
set_option linter.unusedVariables false
namespace Go.Proofs.YtbeihceeliifeaaGreatDoor.Sor
open Go.RowKit Go.Proofs.YtbeihceeliifeaaGreatDoorW.PrintWords Go.Proofs.YtbeihceeliifeaaGreatDoorW.PrintLast Go.Proofs.YtbeihceeliifeaaGreatDoorW.PrintMore Go.Proofs.YtbeihceeliifeaaGreatDoor.PR Go.Proofs.YtbeihceeliifeaaGreatDoor.Cal Go.Proofs.YtbeihceeliifeaaGreatDoor.Base Go.Proofs.YtbeihceeliifeaaGreatDoor.Agree Go.Proofs.YtbeihceeliifeaaGreatDoor.Rule Go.Proofs.YtbeihceeliifeaaGreatDoor.Mat Go.Proofs.YtbeihceeliifeaaGreatDoor.Exp Go.Proofs.YtbeihceeliifeaaGreatDoor.Times Go.Proofs.YtbeihceeliifeaaGreatDoor.Tol
theorem times_loop (l : List Int) (hn : l.length ≤ 9223372036854775807) : ∀ (n i : Nat), l.length - i = n → i ≤ l.length → Ev (fun k => posthornref21_SameTimes.l0 k l l (i : Int)) true := by
  intro n
  induction n with
  | zero =>
    intro i h hle
    refine Ev.step (f := fun _ => some true) (fun k => ?_) (Ev.now _)
    simp only [posthornref21_SameTimes.l0]
    rw [if_neg (by omega)]
  | succ n ih =>
    intro i h hle
    have w1 := wrapS (show i < l.length by omega) hn
    refine Ev.step (fun k => by simp only [posthornref21_SameTimes.l0]; rw [if_pos (show (i : Int) < (l.length : Int) by omega), if_pos (show (0 : Int) ≤ (i : Int) by omega), if_pos (show (i : Int) < (l.length : Int) by omega), if_pos trivial, w1]) (ih (i + 1) (by omega) (by omega))
theorem times (l : List Int) (hn : l.length ≤ 9223372036854775807) : Ev (fun k => posthornref21_SameTimes.f k l l) true := by
  unfold posthornref21_SameTimes.f
  simp only [if_true]
  exact times_loop l hn _ 0 rfl (by omega)
/-! ### rising lists -/
theorem span_in (step l1 l2 : Int) (hs : 0 ≤ step) : ∀ (n : Nat) (d x : Int), x ∈ span step l2 n d → x ≤ l1 → x ∈ span step l1 n d
  | 0, d, x, hx, _ => by simp [span] at hx
  | n + 1, d, x, hx, hl => by
    have hm := span_mem step l2 hs (n + 1) d x hx
    unfold span at hx ⊢
    rw [if_pos (show d ≤ l1 by omega)]
    by_cases c : d ≤ l2
    · rw [if_pos c] at hx
      rcases List.mem_cons.mp hx with h | h
      · exact h ▸ List.mem_cons_self
      · exact List.mem_cons_of_mem _ (span_in step l1 l2 hs n _ x h hl)
    · rw [if_neg c] at hx
      cases hx
theorem span_up (step last : Int) (hs : 1 ≤ step) : ∀ (n : Nat) (d : Int), (span step last n d).Pairwise (· < ·)
  | 0, d => by simp [span]
  | n + 1, d => by
    unfold span
    by_cases c : d ≤ last
    · rw [if_pos c, List.pairwise_cons]
      exact ⟨fun x hx => by have := span_mem step last (by omega) n _ x hx; omega, span_up step last hs n _⟩
    · rw [if_neg c]
      exact .nil
section
variable (T : Int → Int)
/-- A window in two. -/
theorem parts (lo mid : Int) (h : lo ≤ mid) : ∀ (S : List Int), S.Pairwise (fun x y => T x < T y) → (S.filter fun d => decide (T d ≥ lo)) = ((S.filter fun d => decide (T d < mid)).filter fun d => decide (T d ≥ lo)) ++ (S.filter fun d => decide (T d ≥ mid))
  | [], _ => rfl
  | d :: S, hp => by
    obtain ⟨h1, h2⟩ := List.pairwise_cons.mp hp
    by_cases c : T d < mid
    · rw [List.filter_cons_of_pos (p := fun d => decide (T d < mid)) (by simp [c]), List.filter_cons_of_neg (p := fun d => decide (T d ≥ mid)) (by simp; omega)]
      by_cases e : T d ≥ lo
      · rw [List.filter_cons_of_pos (by simp [e]), List.filter_cons_of_pos (by simp [e]), parts lo mid h S h2, List.cons_append]
      · rw [List.filter_cons_of_neg (by simp [e]), List.filter_cons_of_neg (by simp [e]), parts lo mid h S h2]
    · have hall : ∀ x, x ∈ d :: S → T x ≥ mid := fun x hx => by
        rcases List.mem_cons.mp hx with h | h
        · subst h; omega
        · have := h1 x h; omega
      have e1 : ((d :: S).filter fun d => decide (T d < mid)) = [] := List.filter_eq_nil_iff.mpr (fun x hx => by have := hall x hx; simp; omega)
      have e2 : ((d :: S).filter fun d => decide (T d ≥ mid)) = d :: S := List.filter_eq_self.mpr (fun x hx => decide_eq_true (hall x hx))
      have e3 : ((d :: S).filter fun d => decide (T d ≥ lo)) = d :: S := List.filter_eq_self.mpr (fun x hx => decide_eq_true (by have := hall x hx; omega))
      rw [e1, e2, e3, List.filter_nil, List.nil_append]
/-- Those up to the n-th are the first n. -/
theorem upto : ∀ (S : List Int) (n : Nat) (h : n < S.length), S.Pairwise (fun x y => T x < T y) → (S.filter fun d => decide (T d ≤ T S[n])) = S.take (n + 1)
  | d :: S, 0, h, hp => by
    obtain ⟨h1, h2⟩ := List.pairwise_cons.mp hp
    rw [List.filter_cons_of_pos (by simp), List.filter_eq_nil_iff.mpr (fun x hx => by have := h1 x hx; simp; omega)]
    simp
  | d :: S, n + 1, h, hp => by
    obtain ⟨h1, h2⟩ := List.pairwise_cons.mp hp
    have h' : n < S.length := by simpa using h
    have := h1 S[n] (List.getElem_mem h')
    rw [List.filter_cons_of_pos (by simp; omega), List.take_succ_cons]
    simp only [List.getElem_cons_succ]
    rw [upto S n h' h2]
end
theorem take_two {α : Type} (n : Nat) (X Y : List α) : (X.take n ++ Y.take n).take n = (X ++ Y).take n := by
  rw [List.take_append, List.take_append, List.take_take, List.take_take, List.length_take, Nat.min_self]
  congr 1
  by_cases h : X.length ≤ n
  · rw [Nat.min_eq_right h, Nat.min_eq_left (Nat.sub_le _ _)]
  · simp [show n - X.length = 0 by omega, show n - min n X.length = 0 by omega]
/-! ### the days ahead of the end -/
section
variable (cnt until_ first : Int)
theorem ahead_pre (till : Int) : ∀ (ds : List Int) (c : Nat), Times.ahead cnt until_ first till c ds <+: ds
  | [], c => List.prefix_refl _
  | d :: ds, c => by
    unfold Times.ahead
    split
    · exact List.nil_prefix
    · exact List.cons_prefix_cons.mpr ⟨rfl, ahead_pre till ds (c + 1)⟩
theorem ahead_mid (mid till : Int) (h : mid ≤ till) : ∀ (ds : List Int) (c : Nat), ds.Pairwise (fun x y => Expand.exTime first x < Expand.exTime first y) → Times.ahead cnt until_ first mid c ds = (Times.ahead cnt until_ first till c ds).filter fun d => decide (Expand.exTime first d < mid)
  | [], c, _ => rfl
  | d :: ds, c, hp => by
    obtain ⟨h1, h2⟩ := List.pairwise_cons.mp hp
    have sub : ∀ (ds : List Int) (c : Nat) (x : Int), x ∈ Times.ahead cnt until_ first till c ds → x ∈ ds := by
      intro ds
      induction ds with
      | nil => intro c x hx; simp [Times.ahead] at hx
      | cons y ds ih =>
        intro c x hx
        unfold Times.ahead at hx
        split at hx
        · cases hx
        · rcases List.mem_cons.mp hx with h | h
          · exact h ▸ List.mem_cons_self
          · exact List.mem_cons_of_mem _ (ih _ _ h)
    unfold Times.ahead Times.stops
    by_cases a : Expand.exTime first d ≥ till
    · rw [decide_eq_true a, decide_eq_true (show Expand.exTime first d ≥ mid by omega)]
      simp
    · rw [decide_eq_false a]
      by_cases b : Expand.exTime first d ≥ mid
      · rw [decide_eq_true b]
        simp only [Bool.true_or, if_true]
        split
        · rfl
        · rw [List.filter_eq_nil_iff.mpr]
          intro x hx
          rcases List.mem_cons.mp hx with h | h
          · subst h; simp; omega
          · have := h1 x (sub _ _ _ h); simp; omega
      · rw [decide_eq_false b]
        split
        · rfl
        · rw [List.filter_cons_of_pos (by simp; omega), ahead_mid mid till h ds (c + 1) h2]
theorem ahead_more (mid : Int) : ∀ (l r : List Int) (c : Nat), (∀ x, x ∈ r → Expand.exTime first x ≥ mid) → Times.ahead cnt until_ first mid c (l ++ r) = Times.ahead cnt until_ first mid c l
  | [], r, c, h => by
    cases r with
    | nil => rfl
    | cons x r =>
      rw [List.nil_append]
      unfold Times.ahead Times.stops
      rw [decide_eq_true (h x List.mem_cons_self)]
      simp
  | d :: l, r, c, h => by
    rw [List.cons_append]
    unfold Times.ahead
    rw [ahead_more mid l r (c + 1) h]
theorem ahead_until (till u : Int) (hu : u ≠ -1) : ∀ (ds : List Int) (c : Nat), ds.Pairwise (fun x y => Expand.exTime first x < Expand.exTime first y) → Times.ahead 0 u first till c ds = (Times.ahead 0 (-1) first till c ds).filter fun d => decide (Expand.exTime first d ≤ u)
  | [], c, _ => rfl
  | d :: ds, c, hp => by
    obtain ⟨h1, h2⟩ := List.pairwise_cons.mp hp
    have sub : ∀ (ds : List Int) (c : Nat) (x : Int), x ∈ Times.ahead 0 (-1) first till c ds → x ∈ ds := by
      intro ds
      induction ds with
      | nil => intro c x hx; simp [Times.ahead] at hx
      | cons y ds ih =>
        intro c x hx
        unfold Times.ahead at hx
        split at hx
        · cases hx
        · rcases List.mem_cons.mp hx with h | h
          · exact h ▸ List.mem_cons_self
          · exact List.mem_cons_of_mem _ (ih _ _ h)
    unfold Times.ahead Times.stops
    rw [beq_eq_false_iff_ne.mpr hu]
    simp only [Int.lt_irrefl, decide_false, Bool.false_and, Bool.or_false, Bool.not_false, Bool.true_and, gt_iff_lt, beq_self_eq_true, Bool.not_true]
    by_cases a : Expand.exTime first d ≥ till
    · simp [a]
    · by_cases b : Expand.exTime first d > u
      · simp only [decide_eq_false a, decide_eq_true b, Bool.false_or, if_true, Bool.false_eq_true, if_false]
        rw [List.filter_eq_nil_iff.mpr]
        intro x hx
        rcases List.mem_cons.mp hx with h | h
        · subst h; simp; omega
        · have := h1 x (sub _ _ _ h); simp; omega
      · simp only [decide_eq_false a, decide_eq_false b, Bool.false_or, Bool.false_eq_true, if_false]
        rw [List.filter_cons_of_pos (by simp; omega), ahead_until till u hu ds (c + 1) h2]
theorem ahead_count (till n : Int) (hn : n > 0) : ∀ (ds : List Int) (c : Nat), (c : Int) ≤ n → Times.ahead n (-1) first till c ds = (Times.ahead 0 (-1) first till c ds).take (n - c).toNat
  | [], c, _ => by simp [Times.ahead]
  | d :: ds, c, hc => by
    unfold Times.ahead Times.stops
    simp only [Int.lt_irrefl, decide_false, Bool.false_and, Bool.or_false, beq_self_eq_true, Bool.not_true, gt_iff_lt, decide_eq_true hn, Bool.true_and]
    by_cases a : Expand.exTime first d ≥ till
    · simp [a]
    · by_cases b : n < (c : Int) + 1
      · simp only [decide_eq_false a, decide_eq_true b, Bool.false_or, if_true, Bool.false_eq_true, if_false]
        rw [show (n - (c : Int)).toNat = 0 by omega]
        rfl
      · simp only [decide_eq_false a, decide_eq_false b, Bool.false_or, Bool.false_eq_true, if_false]
        rw [ahead_count till n hn ds (c + 1) (by omega), show (n - (c : Int)).toNat = (n - ((c + 1 : Nat) : Int)).toNat + 1 by omega, List.take_succ_cons]
end
/-! ### what does not hang on Count and Until -/
section
variable (r0 r1 r2 r3 q2 q3 : Int) (l7 l8 : List Int) (l9 : List S53)
theorem right_loop : ∀ k, (∀ z m a b, recur_Right.l0 k z m a b r0 r1 r2 r3 l7 l8 l9 = recur_Right.l0 k z m a b r0 r1 q2 q3 l7 l8 l9) ∧ (∀ z x m a b y u v, recur_Right.j4 k z x m a b y r0 r1 r2 r3 l7 l8 l9 u v = recur_Right.j4 k z x m a b y r0 r1 q2 q3 l7 l8 l9 u v)
  | 0 => ⟨fun _ _ _ _ => rfl, fun _ _ _ _ _ _ _ _ => rfl⟩
  | k + 1 => by
    obtain ⟨h1, h2⟩ := right_loop k
    exact ⟨fun z m a b => by simp only [recur_Right.l0, h2], fun z x m a b y u v => by simp only [recur_Right.j4, h1]⟩
theorem right_j2 (k : Nat) (z b : Bool) : recur_Right.j2 k z b r0 r1 r2 r3 l7 l8 l9 = recur_Right.j2 k z b r0 r1 q2 q3 l7 l8 l9 := by
  cases k with
  | zero => rfl
  | succ k => simp only [recur_Right.j2, (right_loop r0 r1 r2 r3 q2 q3 l7 l8 l9 k).1]
/-- Count and Until that may be, together. -/
def Ends : Prop := (0 ≤ r2 ∧ r2 ≤ 10000) ∧ (r3 = -1 ∨ ((0 ≤ r3 ∧ r3 ≤ 253402300799) ∧ r2 = 0))
theorem right_j1 (h : Ends r2 r3) (k : Nat) (z b : Bool) : recur_Right.j1 k z b r0 r1 r2 r3 l7 l8 l9 = recur_Right.j1 k z b r0 r1 0 (-1) l7 l8 l9 := by
  cases k with
  | zero => rfl
  | succ k =>
    simp only [recur_Right.j1, if_true, right_j2 r0 r1 r2 r3 0 (-1) l7 l8 l9]
    rcases h.2 with e | ⟨e1, e2⟩
    · rw [if_pos e]
    · rw [if_neg (show ¬ r3 = -1 by omega), when_f, decide_eq_true e1, if_pos e2]
      simp only [Option.bind_some, if_true]
theorem right_same (h : Ends r2 r3) (k : Nat) : recur_Right.f k r0 r1 r2 r3 l7 l8 l9 = recur_Right.f k r0 r1 0 (-1) l7 l8 l9 := by
  have j0 : ∀ k z, recur_Right.j0 k z r0 r1 r2 r3 l7 l8 l9 = recur_Right.j0 k z r0 r1 0 (-1) l7 l8 l9 := by
    intro k z
    cases k with
    | zero => rfl
    | succ k =>
      simp only [recur_Right.j0, right_j1 r0 r1 r2 r3 l7 l8 l9 h]
      rw [if_neg (show ¬ r2 < 0 by have := h.1; omega), if_neg (show ¬ (0 : Int) < 0 by omega), decide_eq_false (show ¬ r2 > 10000 by have := h.1; omega), decide_eq_false (show ¬ (0 : Int) > 10000 by omega)]
  unfold recur_Right.f
  rw [j0, j0]
theorem match_same (k : Nat) (a b : Int) : recur_match.f k r0 r1 r2 r3 l7 l8 l9 a b = recur_match.f k r0 r1 q2 q3 l7 l8 l9 a b := by
  have j0 : ∀ k x1 x2 x3 x4 x5 x6 x7 x8 x9 x10 x11 z, recur_match.j0 k x1 x2 x3 x4 x5 x6 x7 x8 x9 x10 x11 z r0 r1 r2 r3 l7 l8 l9 = recur_match.j0 k x1 x2 x3 x4 x5 x6 x7 x8 x9 x10 x11 z r0 r1 q2 q3 l7 l8 l9 := by
    intro k x1 x2 x3 x4 x5 x6 x7 x8 x9 x10 x11 z
    cases k with
    | zero => rfl
    | succ k => simp only [recur_match.j0, recur_Rule_on.f, recur_Rule_may.f]
  unfold recur_match.f
  simp only [j0]
theorem fits_same (a b : Int) : fits r0 r1 r2 r3 l7 l8 l9 a b = fits r0 r1 q2 q3 l7 l8 l9 a b := by
  have e : (fun k => recur_match.f k r0 r1 r2 r3 l7 l8 l9 a b) = fun k => recur_match.f k r0 r1 q2 q3 l7 l8 l9 a b := funext fun k => match_same r0 r1 r2 r3 q2 q3 l7 l8 l9 k a b
  unfold fits
  rw [e]
theorem days_same (s0 hi : Int) : daysTo r0 r1 r2 r3 l7 l8 l9 s0 hi = daysTo r0 r1 q2 q3 l7 l8 l9 s0 hi := by
  unfold daysTo
  simp only [fits_same r0 r1 r2 r3 q2 q3 l7 l8 l9]
/-! ### the days of a rule -/
theorem days_up (g : Mat.Good r0 r1 r2 r3 l9) (s0 hi : Int) : (daysTo r0 r1 r2 r3 l7 l8 l9 s0 hi).Pairwise (· < ·) := by
  unfold daysTo
  exact (span_up _ _ (by have := g.fine.step; split <;> omega) _ _).filter _
theorem days_mem (g : Mat.Good r0 r1 r2 r3 l9) (s0 hi : Int) (d : Int) (h : d ∈ daysTo r0 r1 r2 r3 l7 l8 l9 s0 hi) : s0 / 86400 ≤ d ∧ d ≤ 2932896 := by
  unfold daysTo at h
  have := span_mem _ _ (by have := g.fine.step; split <;> omega) _ _ _ (List.mem_filter.1 h).1
  omega
theorem days_len (s0 hi : Int) : (daysTo r0 r1 r2 r3 l7 l8 l9 s0 hi).length ≤ 3000000 := Nat.le_trans (List.length_filter_le _ _) (span_len _ _ _ _)
theorem time_up {s0 x y : Int} (h0 : 0 ≤ x) (h : x < y) (h1 : y ≤ 2932896) : Expand.exTime s0 x < Expand.exTime s0 y := by
  rw [time_eq h0 (by omega), time_eq (by omega) h1]
  omega
theorem days_times (g : Mat.Good r0 r1 r2 r3 l9) (s0 hi : Int) (hs : 0 ≤ s0) : (daysTo r0 r1 r2 r3 l7 l8 l9 s0 hi).Pairwise (fun x y => Expand.exTime s0 x < Expand.exTime s0 y) :=
  (days_up r0 r1 r2 r3 l7 l8 l9 g s0 hi).imp_of_mem (fun ha hb h => time_up (by have := days_mem r0 r1 r2 r3 l7 l8 l9 g s0 hi _ ha; omega) h (days_mem r0 r1 r2 r3 l7 l8 l9 g s0 hi _ hb).2)
/-- The days up to an earlier end are the first of those up to a later one; the others lie behind. -/
theorem days_split (g : Mat.Good r0 r1 r2 r3 l9) (s0 mid hi : Int) (hs : 0 ≤ s0) (hm : 0 ≤ mid) (h : mid ≤ hi) : ∃ r, daysTo r0 r1 r2 r3 l7 l8 l9 s0 hi = daysTo r0 r1 r2 r3 l7 l8 l9 s0 mid ++ r ∧ ∀ x, x ∈ r → Expand.exTime s0 x ≥ mid := by
  have hp : daysTo r0 r1 r2 r3 l7 l8 l9 s0 mid <+: daysTo r0 r1 r2 r3 l7 l8 l9 s0 hi := by
    unfold daysTo
    exact (span_prefix (if r0 = 1 then r1 else 1) (min (mid / 86400) 2932896) (min (hi / 86400) 2932896) (by omega) 3000000 (s0 / 86400)).filter _
  obtain ⟨r, hr⟩ := hp
  refine ⟨r, hr.symm, fun x hx => ?_⟩
  have hup := days_up r0 r1 r2 r3 l7 l8 l9 g s0 hi
  rw [← hr] at hup
  have hxm : x ∈ daysTo r0 r1 r2 r3 l7 l8 l9 s0 hi := by rw [← hr]; exact List.mem_append_right _ hx
  have hb := days_mem r0 r1 r2 r3 l7 l8 l9 g s0 hi x hxm
  have hnot : x ∉ daysTo r0 r1 r2 r3 l7 l8 l9 s0 mid := fun hin => by
    have := (List.pairwise_append.mp hup).2.2 x hin x hx
    omega
  rw [time_eq (by omega) hb.2]
  rcases Int.lt_or_le (mid / 86400) x with c | c
  · omega
  · exfalso
    apply hnot
    unfold daysTo at hxm ⊢
    rw [List.mem_filter] at hxm ⊢
    refine ⟨?_, hxm.2⟩
    exact span_in _ _ _ (by have := g.fine.step; split <;> omega) 3000000 _ x hxm.1 (by omega)
/-- What Expand tells where nothing is wrong. -/
theorem told_run (g : Mat.Good r0 r1 r2 r3 l9) (s0 lo hi : Int) (hs : 0 ≤ s0 ∧ s0 ≤ 253402300799) (hlo : 0 ≤ lo ∧ lo ≤ 253402300799) (hhi : 0 ≤ hi ∧ hi ≤ 253402300799) (hw : hi - s0 ≤ 631152000) :
    told r0 r1 r2 r3 l7 l8 l9 true s0 lo hi 1000 = ((((Times.ahead r2 r3 s0 hi 0 (daysTo r0 r1 r2 r3 l7 l8 l9 s0 hi)).filter fun d => decide (Expand.exTime s0 d ≥ lo)).map (Expand.exTime s0)).take 1000, 0) := by
  unfold told
  rw [if_neg (by decide), if_neg (fun h => h ⟨hs, hlo, hhi⟩), if_neg (fun h => h ⟨hw, by omega, by omega⟩)]
  have hR := run_take r2 r3 s0 lo hi 1000 (daysTo r0 r1 r2 r3 l7 l8 l9 s0 hi) 0 [] (by have := days_len r0 r1 r2 r3 l7 l8 l9 s0 hi; omega) (by simp)
  rw [List.nil_append] at hR
  exact congrArg (fun x => (x, (0 : Int))) hR
theorem told_zero (ok : Bool) (s0 lo hi most : Int) (h : (told r0 r1 r2 r3 l7 l8 l9 ok s0 lo hi most).2 = 0) : ok = true ∧ (0 ≤ s0 ∧ s0 ≤ 253402300799) ∧ (0 ≤ lo ∧ lo ≤ 253402300799) ∧ (0 ≤ hi ∧ hi ≤ 253402300799) ∧ hi - s0 ≤ 631152000 := by
  unfold told at h
  split at h
  · exact absurd h (show ¬ (3 : Int) = 0 by decide)
  · rename_i d1
    split at h
    · exact absurd h (show ¬ (110 : Int) = 0 by decide)
    · rename_i d2
      split at h
      · exact absurd h (show ¬ (1 : Int) = 0 by decide)
      · rename_i d3
        have d2 := Classical.not_not.mp d2
        exact ⟨by cases ok <;> simp_all, d2.1, d2.2.1, d2.2.2, (Classical.not_not.mp d3).1⟩
end
end Go.Proofs.YtbeihceeliifeaaGreatDoor.Sor

/- A local time's moments: they rise, and are those whose local time it is; and what the moment that is taken is, if there is one. -/
import Derived.Test.YtlplmkllmgdifaaShifts
import Derived.Test.YtlplmkllmgdifaaSorts
import Derived.Test.YtlplmkllmgdifaaPZx17
namespace Go.Proofs.Ytlplmkllmgdifaa.Momo
open Go.RowKit Go.Proofs.YtlplmkllmgdifaaW.PrintWords Go.Proofs.YtlplmkllmgdifaaW.PrintLast Go.Proofs.YtlplmkllmgdifaaW.PrintMore Go.Proofs.Ytlplmkllmgdifaa.PZ Go.Proofs.Ytlplmkllmgdifaa.Cal Go.Proofs.Ytlplmkllmgdifaa.Total Go.Proofs.Ytlplmkllmgdifaa.Shifts Go.Proofs.Ytlplmkllmgdifaa.Sorts

theorem ev_one {α : Type} {g : Nat → Option α} {a b : α} (h1 : Ev g a) (h2 : Ev g b) : a = b := by
  obtain ⟨K, h1⟩ := h1
  obtain ⟨L, h2⟩ := h2
  have e1 := h1 (max K L) (Nat.le_max_left _ _)
  have e2 := h2 (max K L) (Nat.le_max_right _ _)
  rw [e1] at e2
  exact Option.some.inj e2

/-! ### the zone's shifts -/
theorem shifts_loop (l : List S42) (hn : l.length ≤ 8) : ∀ (suf : List S42) (i : Nat) (acc : List Int), l.drop i = suf → acc.length ≤ i + 1 → Ev (fun k => zone_Zone_shifts.l0 k acc l (l.length : Int) (i : Int)) (acc ++ suf.map (fun o => o.f2)) := by
  intro suf
  induction suf with
  | nil =>
    intro i acc hd ha
    have hi := drop_nil hd
    refine Ev.step (f := fun _ => some (acc ++ [])) (fun k => ?_) (Ev.now _)
    simp only [zone_Zone_shifts.l0, List.append_nil]
    rw [if_neg (by omega)]
  | cons o suf ih =>
    intro i acc hd ha
    obtain ⟨hi, ho, hd'⟩ := get_drop (d := z42) hd
    have hw := wrapS hi (by omega)
    have ho' : rd_T42 l (i : Int) = o := ho
    have g := ih (i + 1) (acc ++ [o.f2]) hd' (by simp; omega)
    rw [List.append_assoc] at g
    refine Ev.step (fun k => ?_) g
    simp only [zone_Zone_shifts.l0, ho', hw]
    rw [if_pos (by omega), if_pos (by omega), if_pos (by omega), if_pos (by omega)]
theorem shifts_ev (s : ByteArray) (b : Int) (l : List S42) (hn : l.length ≤ 8) : Ev (fun k => zone_Zone_shifts.f k s b l) (b :: l.map (fun o => o.f2)) := shifts_loop l hn l 0 [b] rfl (by simp)

/-! ### is it among them -/
theorem index_loop (l : List Int) (a : Int) (hn : l.length ≤ 1000) : ∀ (suf : List Int) (i : Nat), l.drop i = suf → Fin (fun k => slices_Index_int64_int64.l0 k l a (l.length : Int) (i : Int)) (fun r => (0 ≤ r ↔ a ∈ suf)) := by
  intro suf
  induction suf with
  | nil =>
    intro i hd
    have hi := drop_nil hd
    refine fin_step (f := fun _ => some (-1)) (fun k => ?_) (fin_now ⟨fun h => absurd h (by decide), fun h => absurd h List.not_mem_nil⟩)
    simp only [slices_Index_int64_int64.l0]
    rw [if_neg (by omega)]
  | cons o suf ih =>
    intro i hd
    obtain ⟨hi, ho, hd'⟩ := get_drop (d := (0 : Int)) hd
    have hw := wrapS hi (by omega)
    have ho' : rd l (i : Int) = o := ho
    refine fin_step (fun k => by simp only [slices_Index_int64_int64.l0, ho', hw]; rw [if_pos (show (i : Int) < (l.length : Int) by omega), if_pos (show (0 : Int) ≤ (i : Int) by omega), if_pos (show (i : Int) < (l.length : Int) by omega)]) ?_
    refine fin_ite (fun c => fin_now ⟨fun _ => by rw [c]; exact List.mem_cons_self, fun _ => by omega⟩) (fun c => fin_mono (ih (i + 1) hd') (fun r hr => hr.trans ⟨List.mem_cons_of_mem _, fun h => ?_⟩))
    rcases List.mem_cons.mp h with h | h
    · exact absurd h c
    · exact h
theorem contains_ev (l : List Int) (a : Int) (hn : l.length ≤ 1000) : Ev (fun k => slices_Contains_int64_int64.f k l a) (decide (a ∈ l)) := by
  obtain ⟨r, h1, h2⟩ := index_loop l a hn l 0 rfl
  unfold slices_Contains_int64_int64.f
  refine Ev.bind h1 ?_
  rw [decide_eq_decide.mpr h2]
  exact Ev.now _

/-! ### their order -/
theorem u64_small {n : Nat} (hn : n ≤ 12) : IntKind.u64.wrap (n : Int) = (n : Int) := by
  simp [IntKind.wrap, IntKind.bits, IntKind.signed]
  omega
theorem len_small {n : Nat} (hn : n ≤ 12) : ∃ m, bits_Len.f (n : Int) = some m := by
  unfold bits_Len.f bits_Len64.f
  rw [if_pos (by omega)]
  exact ⟨_, rfl⟩
theorem pdq_fin (l : List Int) (m : Int) (hn : l.length ≤ 12) : Fin (fun k => slices_pdqsortOrdered_int64.f k l 0 (l.length : Int) m) (fun r => Rise r ∧ r.Perm l) := by
  have e1 : wrap64 ((l.length : Int) - 0) ≤ 12 := by rw [Int.sub_zero, wrapI (by omega) (by omega)]; omega
  obtain ⟨r, h1, h2⟩ := sort_one l hn
  refine ⟨r, Ev.congr (fun k => ?_) h1, h2⟩
  unfold slices_pdqsortOrdered_int64.f
  rw [if_pos e1]
theorem sort_fin (l : List Int) (hn : l.length ≤ 12) : Fin (fun k => slices_Sort_int64_int64.f k l) (fun r => Rise r ∧ r.Perm l) := by
  obtain ⟨m, hm⟩ := len_small hn
  obtain ⟨r, h1, h2⟩ := pdq_fin l m hn
  refine ⟨r, Ev.congr (fun k => ?_) h1, h2⟩
  unfold slices_Sort_int64_int64.f
  rw [u64_small hn, hm, Option.bind_some]
  cases slices_pdqsortOrdered_int64.f k l 0 (l.length : Int) m <;> rfl

/-- What is rising, and has no member twice, is strictly rising. -/
theorem strict {l : List Int} (h : Rise l) (hn : l.Nodup) : l.Pairwise (· < ·) := by
  unfold Rise at h
  unfold List.Nodup at hn
  exact (h.and hn).imp (fun ⟨h1, h2⟩ => by omega)

section
variable (s : ByteArray) (b : Int) (l : List S42) (hz : okZone b l) (sh : Int → Int) (hsh : ∀ t, Ev (fun k => zone_Zone_shift.f k s b l t) (sh t) ∧ Known b l (sh t))
/-- The moments of a local time. -/
structure MO (sh : Int → Int) (local_ : Int) (r : List Int) : Prop where
  rise : r.Pairwise (· < ·)
  len : r.length ≤ 9
  mem : ∀ t, t ∈ r ↔ (0 ≤ t ∧ t ≤ 253402300799 ∧ t + sh t = local_)
include hz hsh
theorem moments_loop (x : Int) (hx : 0 ≤ x ∧ x ≤ 253402300799) (N : List Int) (hN : N = b :: l.map (fun o => o.f2)) : ∀ (suf : List Int) (i : Nat) (acc : List Int), N.drop i = suf → acc.length ≤ i → i ≤ N.length → acc.Nodup →
    (∀ t, t ∈ acc → 0 ≤ t ∧ t ≤ 253402300799 ∧ t + sh t = x) → (∀ t, (0 ≤ t ∧ t ≤ 253402300799 ∧ t + sh t = x) → t ∈ acc ∨ sh t ∈ suf) →
    Fin (fun k => zone_Moments.l0 k x acc N (N.length : Int) (i : Int) s b l) (fun r => r.2 = 0 ∧ MO sh x r.1) := by
  have hNl : N.length = l.length + 1 := by rw [hN]; simp
  have hN9 : N.length ≤ 9 := by have := hz.n1; omega
  intro suf
  induction suf with
  | nil =>
    intro i acc hd ha hi hnd h1 h2
    have hi' := drop_nil hd
    refine fin_step (f := fun k => (slices_Sort_int64_int64.f k acc).bind fun t262 => some (t262, 0)) (fun k => ?_) ?_
    · simp only [zone_Moments.l0]
      rw [if_neg (by omega)]
    · refine fin_bind (sort_fin acc (by omega)) (fun r hr => fin_now ⟨rfl, strict hr.1 (hr.2.nodup_iff.mpr hnd), (by show r.length ≤ 9; have := hr.2.length_eq; omega), fun t => ?_⟩)
      show t ∈ r ↔ _
      rw [hr.2.mem_iff]
      exact ⟨h1 t, fun h => (h2 t h).resolve_right (fun h => absurd h List.not_mem_nil)⟩
  | cons n suf ih =>
    intro i acc hd ha hi hnd h1 h2
    obtain ⟨hi1, ho, hd'⟩ := get_drop (d := (0 : Int)) hd
    have hw := wrapS hi1 (by omega)
    have ho' : rd N (i : Int) = n := ho
    have hb : -86399 ≤ n ∧ n ≤ 86399 := by
      have hm : n ∈ N := by
        have : n ∈ N.drop i := by rw [hd]; exact List.mem_cons_self
        exact List.mem_of_mem_drop this
      rw [hN] at hm
      refine known_bound hz ?_
      rcases List.mem_cons.mp hm with h | h
      · exact .inl h
      · obtain ⟨o, ho, e⟩ := List.mem_map.mp h
        exact .inr ⟨o, ho, e.symm⟩
    have et : wrap64 (x - n) = x - n := wrapI (by omega) (by omega)
    have skip : (¬ (0 ≤ x - n ∧ x - n ≤ 253402300799 ∧ sh (x - n) = n) ∨ x - n ∈ acc) → Fin (fun k => zone_Moments.l0 k x acc N (N.length : Int) ((i + 1 : Nat) : Int) s b l) (fun r => r.2 = 0 ∧ MO sh x r.1) := by
      intro hs
      refine ih (i + 1) acc hd' (by omega) (by omega) hnd h1 (fun t ht => ?_)
      rcases h2 t ht with h | h
      · exact .inl h
      · rcases List.mem_cons.mp h with h | h
        · have e : t = x - n := by have := ht.2.2; omega
          rcases hs with hs | hs
          · exact absurd ⟨by omega, by omega, by rw [← e]; exact h⟩ hs
          · rw [e]; exact .inl hs
        · exact .inr h
    refine fin_step (fun k => by simp only [zone_Moments.l0, ho', hw, et, when_f, Option.bind_some, decide_eq_true_eq]; rw [if_pos (show (i : Int) < (N.length : Int) by omega), if_pos (show (0 : Int) ≤ (i : Int) by omega), if_pos (show (i : Int) < (N.length : Int) by omega)]) ?_
    refine fin_ite (fun c => ?_) (fun c => skip (.inl (fun h => c ⟨h.1, h.2.1⟩)))
    refine fin_bind (p := fun r => r = sh (x - n)) (fin_ev (hsh (x - n)).1 rfl) (fun r hr => ?_)
    subst hr
    refine fin_ite (fun c2 => ?_) (fun c2 => skip (.inl (fun h => c2 h.2.2)))
    refine fin_bind (p := fun r => r = decide (x - n ∈ acc)) (fin_ev (contains_ev acc (x - n) (by omega)) rfl) (fun r hr => ?_)
    subst hr
    refine fin_ite (fun c3 => skip (.inr (of_decide_eq_true c3))) (fun c3 => ?_)
    have c4 : ¬ x - n ∈ acc := fun h => c3 (decide_eq_true h)
    simp only [if_pos (show acc.length < 17592186044416 by omega)]
    refine ih (i + 1) (acc ++ [x - n]) hd' (by simp; omega) (by omega) ?_ (fun t ht => ?_) (fun t ht => ?_)
    · rw [List.nodup_append]
      refine ⟨hnd, List.pairwise_singleton _ _, fun a ha b hb e => ?_⟩
      rw [List.mem_singleton] at hb
      subst hb
      subst e
      exact c4 ha
    · rcases List.mem_append.mp ht with h | h
      · exact h1 t h
      · rw [List.mem_singleton] at h
        subst h
        exact ⟨c.1, c.2, by omega⟩
    · rcases h2 t ht with h | h
      · exact .inl (List.mem_append_left _ h)
      · rcases List.mem_cons.mp h with h | h
        · have e : t = x - n := by have := ht.2.2; omega
          exact .inl (List.mem_append_right _ (List.mem_singleton.mpr e))
        · exact .inr h
end

/-! ### a whole zone, right or not -/
/-- What is known of a zone's shifts. -/
structure Zo (s : ByteArray) (b : Int) (l : List S42) (R : Bool) (sh : Int → Int) : Prop where
  right : Ev (fun k => zone_Right.f k s b l) R
  ok : R = true → okZone b l
  shift : R = true → ∀ t, Ev (fun k => zone_Zone_shift.f k s b l t) (sh t) ∧ Known b l (sh t)
theorem zo (s : ByteArray) (b : Int) (l : List S42) (hs : s.size ≤ 9223372036854775807) (hn : l.length ≤ 9223372036854775807) (hl : ∀ o, o ∈ l → small o) : ∃ R sh, Zo s b l R sh := by
  obtain ⟨R, h1, h2⟩ := right_fin s b l hs hn hl
  cases R with
  | true =>
    have hz := h2 rfl
    obtain ⟨sh, h⟩ := Classical.skolem.mp (fun t => shift_fin s b t l hz)
    exact ⟨true, sh, h1, h2, fun _ => h⟩
  | false => exact ⟨false, fun _ => 0, h1, h2, fun h => by cases h⟩

section
variable {s : ByteArray} {b : Int} {l : List S42} {R : Bool} {sh : Int → Int} (Z : Zo s b l R sh)
/-- A moment's local time. -/
def loc (R : Bool) (sh : Int → Int) (t : Int) : Int × Int := if R = true then (if 0 ≤ t ∧ t ≤ 253402300799 then (if 0 ≤ t + sh t ∧ t + sh t ≤ 253402300799 then (t + sh t, 0) else (0, 110)) else (0, 110)) else (0, 3)
include Z
theorem bound (h : R = true) (t : Int) : -86399 ≤ sh t ∧ sh t ≤ 86399 := known_bound (Z.ok h) (Z.shift h t).2
theorem local_ev (t : Int) : Ev (fun k => zone_Local.f k s b l t) (loc R sh t) := by
  have hS : Ev (fun k => zone_Shift.f k s b l t) (if R = true then (if 0 ≤ t ∧ t ≤ 253402300799 then (sh t, 0) else (0, 110)) else (0, 3)) := by
    unfold zone_Shift.f
    refine Ev.bind Z.right ?_
    cases R with
    | true =>
      simp only [if_true, when_f, Option.bind_some, decide_eq_true_eq]
      by_cases c : 0 ≤ t ∧ t ≤ 253402300799
      · simp only [if_pos c]
        exact Ev.bind (Z.shift rfl t).1 (Ev.now _)
      · simp only [if_neg c]
        exact Ev.now _
    | false =>
      simp only [Bool.false_eq_true, if_false]
      exact Ev.now _
  unfold zone_Local.f
  refine Ev.bind hS ?_
  unfold loc
  cases R with
  | true =>
    simp only [if_true]
    by_cases c : 0 ≤ t ∧ t ≤ 253402300799
    · have hb := bound Z rfl t
      simp only [if_pos c, if_true, wrapI (n := t + sh t) (by omega) (by omega), when_f, Option.bind_some, decide_eq_true_eq]
      by_cases d : 0 ≤ t + sh t ∧ t + sh t ≤ 253402300799
      · simp only [if_pos d]
        exact Ev.now _
      · simp only [if_neg d]
        exact Ev.now _
    · simp only [if_neg c]
      exact Ev.now _
  | false =>
    simp only [Bool.false_eq_true, if_false]
    exact Ev.now _
/-- The moments of a local time: told, and what they are. -/
theorem moments_fin (x : Int) : Fin (fun k => zone_Moments.f k s b l x) (fun r => (R = true → 0 ≤ x ∧ x ≤ 253402300799 → r.2 = 0) ∧ (r.2 = 0 → R = true ∧ (0 ≤ x ∧ x ≤ 253402300799) ∧ MO sh x r.1) ∧ (r.2 ≠ 0 → r.1 = [])) := by
  unfold zone_Moments.f
  refine fin_bind (p := fun r => r = R) (fin_ev Z.right rfl) (fun r hr => ?_)
  subst hr
  refine fin_ite (fun c => ?_) (fun c => fin_now ⟨fun h => absurd h c, fun h => absurd h (by decide), fun _ => rfl⟩)
  have hz := Z.ok c
  simp only [when_f, Option.bind_some, decide_eq_true_eq]
  refine fin_ite (fun c2 => ?_) (fun c2 => fin_now ⟨fun _ h => absurd h c2, fun h => absurd h (by decide), fun _ => rfl⟩)
  refine fin_bind (p := fun r => r = b :: l.map (fun o => o.f2)) (fin_ev (shifts_ev s b l hz.n1) rfl) (fun N hN => ?_)
  refine fin_mono (moments_loop s b l hz sh (Z.shift c) x c2 N hN N 0 [] rfl (Nat.le_refl _) (Nat.zero_le _) List.nodup_nil (fun t ht => absurd ht List.not_mem_nil) (fun t ht => .inr ?_)) (fun r hr => ⟨fun _ _ => hr.1, fun _ => ⟨c, c2, hr.2⟩, fun h => absurd hr.1 h⟩)
  rw [hN]
  rcases (Z.shift c t).2 with h | ⟨o, ho, h⟩
  · rw [h]; exact List.mem_cons_self
  · rw [h]; exact List.mem_cons_of_mem _ (List.mem_map.mpr ⟨o, ho, rfl⟩)
/-- The moment that is taken, where there are some: the first. -/
theorem moment_fin (x : Int) {r : List Int × Int} (hr : Ev (fun k => zone_Moments.f k s b l x) r) (h2 : r.2 = 0 → R = true) : Fin (fun k => zone_Moment.f k s b l x) (fun q => r.2 = 0 → r.1 ≠ [] → q = (rd r.1 0, 0)) := by
  unfold zone_Moment.f
  refine fin_bind (p := fun q => q = r) (fin_ev hr rfl) (fun q hq => ?_)
  subst hq
  refine fin_ite (fun c => ?_) (fun c => fin_now (fun h => absurd h c))
  refine fin_ite (fun c1 => ?_) (fun c1 => ?_)
  · simp only [if_pos (show 0 < (q.1.length : Int) by omega)]
    exact fin_now (fun _ _ => rfl)
  have hq : q.1 = [] := List.length_eq_zero_iff.mp (by omega)
  refine fin_mono (p := fun _ => True) ?_ (fun _ _ _ h => absurd hq h)
  have hR := h2 c
  have hz := Z.ok hR
  refine fin_bind (changes_fin s b x l hz) (fun C hC => ?_)
  have lp : ∀ (suf : List S75) (i : Nat), C.drop i = suf → Fin (fun k => zone_Moment.l0 k x C (C.length : Int) (i : Int) s b l) (fun _ => True) := by
    intro suf
    induction suf with
    | nil =>
      intro i hd
      have hi := drop_nil hd
      refine fin_step (f := fun _ => some (0, 4)) (fun k => ?_) (fin_now trivial)
      simp only [zone_Moment.l0]
      rw [if_neg (by omega)]
    | cons o suf ih =>
      intro i hd
      obtain ⟨hi, ho, hd'⟩ := get_drop (d := z75) hd
      have hw := wrapS hi (by have := hC.2; omega)
      have ho' : rd_T75 C (i : Int) = o := ho
      have nxt := ih (i + 1) hd'
      refine fin_step (fun k => by simp only [zone_Moment.l0, ho', hw]; rw [if_pos (show (i : Int) < (C.length : Int) by omega), if_pos (show (0 : Int) ≤ (i : Int) by omega), if_pos (show (i : Int) < (C.length : Int) by omega)]) ?_
      refine fin_bind (p := fun _ => True) (fin_ev (Z.shift hR _).1 trivial) (fun w _ => fin_ite (fun _ => ?_) (fun _ => nxt))
      refine fin_bind (p := fun _ => True) (fin_ev (Z.shift hR _).1 trivial) (fun u _ => fin_ite (fun _ => ?_) (fun _ => nxt))
      simp only [when_f, Option.bind_some]
      exact fin_ite (fun _ => fin_now trivial) (fun _ => nxt)
  exact lp C 0 rfl
end
end Go.Proofs.Ytlplmkllmgdifaa.Momo

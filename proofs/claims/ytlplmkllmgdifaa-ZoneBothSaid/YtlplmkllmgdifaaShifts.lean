/- The shift at a moment: it comes to an end, and is the zone's Base or an onset's To. -/
import Derived.Test.YtlplmkllmgdifaaStable
import Derived.Test.YtlplmkllmgdifaaPZx12
namespace Go.Proofs.Ytlplmkllmgdifaa.Shifts
open Go.RowKit Go.Proofs.YtlplmkllmgdifaaW.PrintWords Go.Proofs.YtlplmkllmgdifaaW.PrintLast Go.Proofs.YtlplmkllmgdifaaW.PrintMore Go.Proofs.Ytlplmkllmgdifaa.PZ Go.Proofs.Ytlplmkllmgdifaa.Cal Go.Proofs.Ytlplmkllmgdifaa.Total Go.Proofs.Ytlplmkllmgdifaa.Stable

theorem of_loop (n a b : Int) (hn : n ≤ 10000000) : ∀ (q : Nat) (d : Int), n ≤ d + 7 * q → 0 ≤ d → d ≤ 10000000 → Fin (fun k => zone_Onset_of.l0 k d n a b) (fun _ => True) := by
  intro q
  induction q with
  | zero =>
    intro d h1 h0 hd
    have e : wrap64 (d + 7) = d + 7 := wrapI (by omega) (by omega)
    refine fin_step (f := fun _ => some (wrap64 (d + wrap64 (7 * wrap64 (b + 1))))) (fun k => ?_) (fin_now trivial)
    simp only [zone_Onset_of.l0, e]
    rw [if_neg (by omega)]
  | succ q ih =>
    intro d h1 h0 hd
    have e : wrap64 (d + 7) = d + 7 := wrapI (by omega) (by omega)
    refine fin_step (fun k => by simp only [zone_Onset_of.l0, e]; rfl) ?_
    exact fin_ite (fun c => ih (d + 7) (by omega) (by omega) (by omega)) (fun _ => fin_now trivial)
theorem of_fin (o : S42) (ho : okOn o) (h3 : o.f3 = true) (y : Int) (hy0 : 1970 ≤ y) (hy1 : y ≤ 9999) : Fin (fun k => zone_Onset_of.f k o.f0 o.f1 o.f2 true o.f4.f0 o.f4.f1 o.f4.f2 o.f4.f3 o.f4.f4 o.f4.f5 o.f4.f6 y) (fun _ => True) := by
  obtain ⟨m, d, e4, e6, hm0, hm1, ⟨d0, d1, _, _⟩, _⟩ := ho.rep h3
  have hbd := month_bound y m hm0
  have hcl := cum_le y (m.toNat - 1) (by omega)
  have hcn := cum_nonneg y (m.toNat - 1)
  have hb : 0 ≤ beforeZ y ∧ beforeZ y ≤ 2932532 := by unfold beforeZ; omega
  unfold zone_Onset_of.f
  rw [e4, e6]
  simp only [if_pos (show 0 < (([m] : List Int).length : Int) by simp), if_pos (show 0 < (([d] : List S79).length : Int) by simp)]
  refine fin_bind (p := fun x => x = (beforeZ y + 1 - 1 + cum y (m.toNat - 1), 0)) (fin_ev (days_ev y m 1 hy0 hy1 hm0 hm1 (Int.le_refl _) (by omega)) rfl) (fun x hx => ?_)
  subst hx
  generalize hD : beforeZ y + 1 - 1 + cum y (m.toNat - 1) = D
  have hD0 : 0 ≤ D ∧ D ≤ 2932896 := by omega
  simp only [weekday_f hD0.1 hD0.2, Option.bind_some]
  have hd : rd_T79 [d] 0 = d := rfl
  rw [hd]
  have e1 : wrap64 (d.f0 - (D + 3) % 7) = d.f0 - (D + 3) % 7 := wrapI (by omega) (by omega)
  have e2 : wrap64 (d.f0 - (D + 3) % 7 + 7) = d.f0 - (D + 3) % 7 + 7 := wrapI (by omega) (by omega)
  rw [e1, e2, tmodI (by omega)]
  have e3 : wrap64 (D + (d.f0 - (D + 3) % 7 + 7) % 7) = D + (d.f0 - (D + 3) % 7 + 7) % 7 := wrapI (by omega) (by omega)
  rw [e3]
  refine fin_ite (fun _ => fin_now trivial) (fun _ => ?_)
  refine fin_bind (p := fun x => x = monthZ y m) (fin_ev (length_ev y m hy0 hy1 hm0 hm1) rfl) (fun x hx => ?_)
  subst hx
  rw [wrapI (n := D + monthZ y m) (by omega) (by omega)]
  exact of_loop _ _ _ (by omega) 5 _ (by omega) (by omega) (by omega)

/-- What a step of a year adds. -/
def Adds (o : S42) (l r : List S75) : Prop := r = l ∨ ∃ x, r = l ++ [x] ∧ x.f1 = o.f2
theorem year_fin (o : S42) (ho : okOn o) (h3 : o.f3 = true) (l : List S75) (hl : l.length ≤ 1000) (y : Int) : Fin (fun k => zone_Onset_year.f k o.f0 o.f1 o.f2 true o.f4.f0 o.f4.f1 o.f4.f2 o.f4.f3 o.f4.f4 o.f4.f5 o.f4.f6 l y) (Adds o l) := by
  have j0 : ∀ z : Bool, (z = false → 1970 ≤ y ∧ y ≤ 9999) → Fin (fun k => zone_Onset_year.j0 k l y z o.f0 o.f1 o.f2 true o.f4.f0 o.f4.f1 o.f4.f2 o.f4.f3 o.f4.f4 o.f4.f5 o.f4.f6) (Adds o l) := by
    intro z hz
    cases z with
    | true =>
      refine fin_step (f := fun _ => some l) (fun k => ?_) (fin_now (.inl rfl))
      simp only [zone_Onset_year.j0]
      rfl
    | false =>
      obtain ⟨h0, h1⟩ := hz rfl
      refine fin_step (fun k => by simp only [zone_Onset_year.j0, Bool.false_eq_true, if_false, if_pos (show l.length < 8796093022208 by omega)]; rfl) ?_
      refine fin_bind (of_fin o ho h3 y h0 h1) (fun d _ => ?_)
      exact fin_ite (fun _ => fin_now (.inl rfl)) (fun _ => fin_ite (fun _ => fin_now (.inr ⟨_, rfl, rfl⟩)) (fun _ => fin_ite (fun _ => fin_now (.inl rfl)) (fun _ => fin_now (.inr ⟨_, rfl, rfl⟩))))
  unfold zone_Onset_year.f
  exact fin_ite (fun c => j0 true (fun h => by cases h)) (fun c => j0 _ (fun h => ⟨by omega, by have := of_decide_eq_false h; omega⟩))

/-- Each change leads to an onset's To. -/
def From (l : List S42) (r : List S75) : Prop := ∀ x, x ∈ r → ∃ o, o ∈ l ∧ x.f1 = o.f2
theorem from_adds {l : List S42} {o : S42} {r s : List S75} (ho : o ∈ l) (h : From l r) (ha : Adds o r s) : From l s := by
  rcases ha with rfl | ⟨x, rfl, hx⟩
  · exact h
  · intro z hz
    rcases List.mem_append.mp hz with hz | hz
    · exact h z hz
    · rw [List.mem_singleton] at hz
      subst hz
      exact ⟨o, ho, hx⟩
theorem len_adds {o : S42} {r s : List S75} (ha : Adds o r s) : s.length ≤ r.length + 1 := by
  rcases ha with rfl | ⟨x, rfl, hx⟩
  · omega
  · simp

theorem changes_loop (t : Int) (l : List S42) (hn : l.length ≤ 8) (hl : ∀ o, o ∈ l → okOn o) : ∀ (suf : List S42) (i : Nat) (acc : List S75), l.drop i = suf → i ≤ l.length → acc.length ≤ 4 * i → From l acc → Fin (fun k => zone_Zone_changes.l0 k t acc l (l.length : Int) (i : Int)) (fun r => From l r ∧ r.length ≤ 100) := by
  intro suf
  induction suf with
  | nil =>
    intro i acc hd hil ha hf
    have hi : l.length ≤ i := drop_nil hd
    refine fin_step (f := fun k => (zone_change_58.f k acc).bind fun t213 => some t213) (fun k => ?_) ?_
    · simp only [zone_Zone_changes.l0]
      rw [if_neg (by omega)]
    · exact fin_bind (stable_fin acc (by omega)) (fun r hr => fin_now ⟨fun x hx => hf x (hr.2 x hx), by rw [hr.1]; omega⟩)
  | cons o suf ih =>
    intro i acc hd hil ha hf
    obtain ⟨hi, ho, hd'⟩ := get_drop (d := z42) hd
    have hw := wrapS hi (by omega)
    have ho' : rd_T42 l (i : Int) = o := ho
    have hmem : o ∈ l := by
      have : o ∈ l.drop i := by rw [hd]; exact List.mem_cons_self
      exact List.mem_of_mem_drop this
    have hok := hl o hmem
    have h1 : Adds o acc (acc ++ [⟨wrap64 (o.f0 - o.f1), o.f2⟩]) := .inr ⟨_, rfl, rfl⟩
    have hf1 := from_adds hmem hf h1
    have hl1 : (acc ++ [(⟨wrap64 (o.f0 - o.f1), o.f2⟩ : S75)]).length ≤ 4 * i + 1 := by simp; omega
    generalize hA : acc ++ [(⟨wrap64 (o.f0 - o.f1), o.f2⟩ : S75)] = A1 at hf1 hl1
    have inner : o.f3 = true → ∀ y : Int, ∀ (q : Nat) (j : Nat) (B : List S75), j + q = 3 → B.length ≤ 4 * i + 1 + j → From l B → Fin (fun k => zone_Zone_changes.l1 k t B y l (l.length : Int) (i : Int) (j : Int) o.f0 o.f1 o.f2 true o.f4.f0 o.f4.f1 o.f4.f2 o.f4.f3 o.f4.f4 o.f4.f5 o.f4.f6) (fun r => From l r ∧ r.length ≤ 100) := by
      intro h3 y q
      induction q with
      | zero =>
        intro j B hj hB hFB
        refine fin_step (fun k => ?_) (ih (i + 1) B hd' (by omega) (by omega) hFB)
        simp only [zone_Zone_changes.l1, hw]
        rw [if_neg (by omega)]
      | succ q ihq =>
        intro j B hj hB hFB
        have e : wrap64 ((j : Int) + 1) = ((j + 1 : Nat) : Int) := by rw [wrapI (by omega) (by omega)]; omega
        refine fin_step (fun k => by simp only [zone_Zone_changes.l1, e]; rw [if_pos (show (j : Int) < 3 by omega)]) ?_
        refine fin_bind (year_fin o hok h3 B (by omega) _) (fun C hC => ?_)
        exact ihq (j + 1) C (by omega) (by have := len_adds hC; omega) (from_adds hmem hFB hC)
    have j1 : o.f3 = true → ∀ y : Int, Fin (fun k => zone_Zone_changes.j1 k t A1 y l (l.length : Int) (i : Int) o.f0 o.f1 o.f2 true o.f4.f0 o.f4.f1 o.f4.f2 o.f4.f3 o.f4.f4 o.f4.f5 o.f4.f6) (fun r => From l r ∧ r.length ≤ 100) := fun h3 y =>
      fin_step (fun k => by simp only [zone_Zone_changes.j1]; rfl) (inner h3 y 3 0 A1 rfl (by omega) hf1)
    refine fin_step (fun k => by simp only [zone_Zone_changes.l0, ho']; rw [if_pos (show (i : Int) < (l.length : Int) by omega), if_pos (show (0 : Int) ≤ (i : Int) by omega), if_pos (show (i : Int) < (l.length : Int) by omega), if_pos (show acc.length < 8796093022208 by omega), hA, Option.bind_some, hw]) ?_
    refine fin_ite (fun h3 => ?_) (fun _ => ih (i + 1) A1 hd' (by omega) (by omega) hf1)
    obtain ⟨y1, _, _, hy1⟩ := yearOf_ev t
    obtain ⟨y2, _, _, hy2⟩ := yearOf_ev o.f4.f3
    rw [h3]
    refine fin_bind (p := fun _ => True) (fin_ev hy1 trivial) (fun a _ => fin_ite (fun _ => j1 h3 _) (fun _ => fin_bind (p := fun _ => True) (fin_ev hy2 trivial) (fun b _ => j1 h3 _)))
theorem changes_fin (s : ByteArray) (b t : Int) (l : List S42) (h : okZone b l) : Fin (fun k => zone_Zone_changes.f k s b l t) (fun r => From l r ∧ r.length ≤ 100) :=
  changes_loop t l h.n1 h.all l 0 [] rfl (Nat.zero_le _) (Nat.zero_le _) (fun x hx => by cases hx)
/-- A shift of the zone. -/
def Known (b : Int) (l : List S42) (n : Int) : Prop := n = b ∨ ∃ o, o ∈ l ∧ n = o.f2
theorem shift_loop (b t : Int) (l : List S42) (C : List S75) (hC : From l C) (hn : C.length ≤ 9223372036854775807) : ∀ (suf : List S75) (i : Nat) (acc : Int), C.drop i = suf → Known b l acc → Fin (fun k => zone_Zone_shift.l0 k t acc C (C.length : Int) (i : Int)) (Known b l) := by
  intro suf
  induction suf with
  | nil =>
    intro i acc hd ha
    have hi : C.length ≤ i := drop_nil hd
    refine fin_step (f := fun _ => some acc) (fun k => ?_) (fin_now ha)
    simp only [zone_Zone_shift.l0]
    rw [if_neg (by omega)]
  | cons c suf ih =>
    intro i acc hd ha
    obtain ⟨hi, hc, hd'⟩ := get_drop (d := z75) hd
    have hw := wrapS hi hn
    have hc' : rd_T75 C (i : Int) = c := hc
    have hmem : c ∈ C := by
      have : c ∈ C.drop i := by rw [hd]; exact List.mem_cons_self
      exact List.mem_of_mem_drop this
    refine fin_step (fun k => by simp only [zone_Zone_shift.l0, hc', hw]; rw [if_pos (show (i : Int) < (C.length : Int) by omega), if_pos (show (0 : Int) ≤ (i : Int) by omega), if_pos (show (i : Int) < (C.length : Int) by omega)]) ?_
    exact fin_ite (fun _ => ih (i + 1) c.f1 hd' (.inr (hC c hmem))) (fun _ => ih (i + 1) acc hd' ha)
theorem shift_fin (s : ByteArray) (b t : Int) (l : List S42) (h : okZone b l) : Fin (fun k => zone_Zone_shift.f k s b l t) (Known b l) := by
  unfold zone_Zone_shift.f
  exact fin_bind (changes_fin s b t l h) (fun C hC => shift_loop b t l C hC.1 (by have := hC.2; omega) C 0 b rfl (.inl rfl))
/-- Shift: what it tells, and where it is right. -/
structure Told (b : Int) (l : List S42) (t : Int) (r : Int × Int) : Prop where
  zone : r.2 = 0 → okZone b l
  time : r.2 = 0 → 0 ≤ t ∧ t ≤ 253402300799
  known : r.2 = 0 → Known b l r.1
theorem known_bound {b : Int} {l : List S42} {n : Int} (h : okZone b l) (k : Known b l n) : -86399 ≤ n ∧ n ≤ 86399 := by
  rcases k with rfl | ⟨o, ho, rfl⟩
  · exact ⟨h.b0, h.b1⟩
  · exact ⟨(h.all o ho).t0, (h.all o ho).t1⟩
theorem Shift_fin (s : ByteArray) (b t : Int) (l : List S42) (hs : s.size ≤ 9223372036854775807) (hn : l.length ≤ 9223372036854775807) (hl : ∀ o, o ∈ l → small o) : Fin (fun k => zone_Shift.f k s b l t) (Told b l t) := by
  unfold zone_Shift.f
  refine fin_bind (right_fin s b l hs hn hl) (fun z hz => fin_ite (fun c => ?_) (fun _ => fin_now ⟨fun h => absurd h (by decide), fun h => absurd h (by decide), fun h => absurd h (by decide)⟩))
  have hok := hz c
  simp only [when_f, Option.bind_some]
  refine fin_ite (fun c2 => ?_) (fun _ => fin_now ⟨fun h => absurd h (by decide), fun h => absurd h (by decide), fun h => absurd h (by decide)⟩)
  exact fin_bind (shift_fin s b t l hok) (fun n hk => fin_now ⟨fun _ => hok, fun _ => of_decide_eq_true c2, fun _ => hk⟩)
end Go.Proofs.Ytlplmkllmgdifaa.Shifts

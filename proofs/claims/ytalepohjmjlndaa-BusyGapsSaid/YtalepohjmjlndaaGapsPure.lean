/- BusyGaps, without Go and memory: between what is told as free somebody is busy, or it is too short; and where it is told nobody is. -/
import Derived.Test.YtalepohjmjlndaaLists
import Derived.Test.YtalepohjmjlndaaPBx14
namespace Go.Proofs.Ytalepohjmjlndaa.GapsPure
open Go.RowKit Go.Proofs.YtalepohjmjlndaaW.PrintWords Go.Proofs.YtalepohjmjlndaaW.PrintLast Go.Proofs.YtalepohjmjlndaaW.PrintMore Go.Proofs.Ytalepohjmjlndaa.PB Go.Proofs.Ytalepohjmjlndaa.Base Go.Proofs.Ytalepohjmjlndaa.Lists

theorem row_ge : ∀ (l : List Math.Sp) (e k : Int), Math.Row e k l → ∀ s, s ∈ l → e ≤ s.a
  | s :: l, e, k, h, x, hx => by
    obtain ⟨h1, _, h3, _, h5⟩ := h
    rcases List.mem_cons.mp hx with rfl | hx
    · exact h1
    · have := row_ge l _ _ h5 x hx
      omega

/-- Each ends before what is behind it begins. -/
def Apart : List S44 → Prop
  | [] => True
  | s :: r => s.f0 < s.f1 ∧ (∀ u, u ∈ r → s.f1 ≤ u.f0) ∧ Apart r
theorem apart_row : ∀ (l : List S44) (e k : Int), Math.Row e k (l.map toSp) → Apart l
  | [], _, _, _ => trivial
  | s :: l, e, k, h => by
    obtain ⟨_, _, h3, _, h5⟩ := h
    exact ⟨h3, fun u hu => row_ge _ _ _ h5 (toSp u) (List.mem_map_of_mem hu), apart_row l _ _ h5⟩
theorem mem_clip (x y : Int) : ∀ (l : List S44) (v : S44), v ∈ clipL x y l ↔ ∃ u, u ∈ l ∧ mx u.f0 x < mn u.f1 y ∧ v = ⟨mx u.f0 x, mn u.f1 y, u.f2⟩
  | [], v => by simp [clipL]
  | s :: l, v => by
    have ih := mem_clip x y l v
    by_cases c : mx s.f0 x < mn s.f1 y
    · rw [clip_pos c, List.mem_cons, ih]
      constructor
      · rintro (rfl | ⟨u, hu, hr⟩)
        · exact ⟨s, List.mem_cons_self, c, rfl⟩
        · exact ⟨u, List.mem_cons_of_mem _ hu, hr⟩
      · rintro ⟨u, hu, hc, hv⟩
        rcases List.mem_cons.mp hu with rfl | hu
        · exact .inl hv
        · exact .inr ⟨u, hu, hc, hv⟩
    · rw [clip_neg c, ih]
      constructor
      · rintro ⟨u, hu, hr⟩
        exact ⟨u, List.mem_cons_of_mem _ hu, hr⟩
      · rintro ⟨u, hu, hc, hv⟩
        rcases List.mem_cons.mp hu with rfl | hu
        · exact absurd hc c
        · exact ⟨u, hu, hc, hv⟩
theorem mx_le {a b c : Int} : mx a b ≤ c ↔ a ≤ c ∧ b ≤ c := by unfold mx; split <;> omega
theorem le_mx {a b : Int} : a ≤ mx a b ∧ b ≤ mx a b := by unfold mx; split <;> omega
theorem mn_le {a b : Int} : mn a b ≤ a ∧ mn a b ≤ b := by unfold mn; split <;> omega
theorem lt_mn {a b c : Int} : c < mn a b ↔ c < a ∧ c < b := by unfold mn; split <;> omega
theorem mx_lt {a b c : Int} : mx a b < c ↔ a < c ∧ b < c := by unfold mx; split <;> omega
theorem apart_clip (x y : Int) : ∀ (l : List S44), Apart l → Apart (clipL x y l)
  | [], _ => trivial
  | s :: l, h => by
    obtain ⟨h1, h2, h3⟩ := h
    have ih := apart_clip x y l h3
    by_cases c : mx s.f0 x < mn s.f1 y
    · rw [clip_pos c]
      refine ⟨c, fun u hu => ?_, ih⟩
      obtain ⟨v, hv, _, rfl⟩ := (mem_clip _ _ _ _).mp hu
      have := h2 v hv
      have := (mn_le (a := s.f1) (b := y)).1
      have := (le_mx (a := v.f0) (b := x)).1
      show mn s.f1 y ≤ mx v.f0 x
      omega
    · rw [clip_neg c]
      exact ih

/-- Somebody is busy between. -/
def Hit (C : List S44) (p q : Int) : Prop := ∃ s, s ∈ C ∧ 2 ≤ s.f2 ∧ mx s.f0 p < mn s.f1 q
theorem any_iff (l : List S44) (p q : Int) : Lists.anyB (clipL p q l) = true ↔ Hit l p q := by
  unfold Lists.anyB Hit
  rw [List.any_eq_true]
  constructor
  · rintro ⟨v, hv, hk⟩
    obtain ⟨u, hu, hc, rfl⟩ := (mem_clip _ _ _ _).mp hv
    exact ⟨u, hu, of_decide_eq_true hk, hc⟩
  · rintro ⟨u, hu, hk, hc⟩
    exact ⟨⟨mx u.f0 p, mn u.f1 q, u.f2⟩, (mem_clip _ _ _ _).mpr ⟨u, hu, hc, rfl⟩, decide_eq_true hk⟩
theorem hit_clip (l : List S44) (x y p q : Int) (hx : x ≤ p) (hy : q ≤ y) : Hit l p q ↔ Hit (clipL x y l) p q := by
  constructor
  · rintro ⟨u, hu, hk, hc⟩
    rw [lt_mn, mx_lt, mx_lt] at hc
    have c : mx u.f0 x < mn u.f1 y := by rw [lt_mn, mx_lt, mx_lt]; omega
    refine ⟨_, (mem_clip _ _ _ _).mpr ⟨u, hu, c, rfl⟩, hk, ?_⟩
    show mx (mx u.f0 x) p < mn (mn u.f1 y) q
    rw [lt_mn, lt_mn, mx_lt, mx_lt, mx_lt, mx_lt, mx_lt, mx_lt]
    omega
  · rintro ⟨v, hv, hk, hc⟩
    obtain ⟨u, hu, c, rfl⟩ := (mem_clip _ _ _ _).mp hv
    refine ⟨u, hu, hk, ?_⟩
    have hc' : mx (mx u.f0 x) p < mn (mn u.f1 y) q := hc
    rw [lt_mn, lt_mn, mx_lt, mx_lt, mx_lt, mx_lt, mx_lt, mx_lt] at hc'
    rw [lt_mn, mx_lt, mx_lt]
    omega

section
variable {l : List S44} {x y least : Int} {G : List S44}

/-- What is asked of a clash between times within. -/
theorem clash_in (hr : rightB l = true) (hn : l.length ≤ 10000) (hs : spanB x y = true) {p q : Int} (h1 : x ≤ p) (h2 : p < q) (h3 : q ≤ y) : Ev (fun k => busy_Clash.f k l p q) (Lists.anyB (clipL p q l), 0) := by
  have h := Clash_ev l p q (by omega)
  have hxy := of_decide_eq_true hs
  have hf : fitsV l p q = 0 := by
    unfold fitsV
    rw [if_pos hr, if_pos (show spanB p q = true from decide_eq_true (by omega))]
  rw [if_pos hf] at h
  exact h

theorem fin_j (hr : rightB l = true) (hn : l.length ≤ 10000) (hs : spanB x y = true) {last p q : Int} {i : Nat} (h1 : x ≤ last) (h3 : p ≤ y) (hi : i < 9223372036854775807)
    (hj : last < p → Hit (clipL x y l) last p ∨ p - last < least) (nxt : Ev (fun k => posthornlaw24_BusyGaps.l0 k l y least G q ((i + 1 : Nat) : Int)) true) :
    Ev (fun k => posthornlaw24_BusyGaps.j1 k l y least G last (i : Int) p q) true := by
  have hxy := of_decide_eq_true hs
  have hw : wrap64 ((i : Int) + 1) = ((i + 1 : Nat) : Int) := by unfold wrap64; omega
  by_cases c : p > last
  · refine Ev.step (f := fun k => (busy_Clash.f k l last p).bind fun bt409 => (if bt409.2 = 0 then (if bt409.1 = true then (posthornlaw24_BusyGaps.l0 k l y least G q ((i + 1 : Nat) : Int)) else (if (wrap64 (p - last)) ≥ least then (some false) else (posthornlaw24_BusyGaps.l0 k l y least G q ((i + 1 : Nat) : Int)))) else (some false))) (fun k => ?_) ?_
    · simp only [posthornlaw24_BusyGaps.j1]
      rw [if_pos c, hw]
    · refine Ev.bind (clash_in hr hn hs h1 c h3) ?_
      simp only [if_true]
      by_cases a : Lists.anyB (clipL last p l) = true
      · simp only [if_pos a]
        exact nxt
      · have hnh : ¬ Hit (clipL x y l) last p := fun h => a ((any_iff _ _ _).mpr ((hit_clip l x y last p h1 h3).mpr h))
        have hlt : p - last < least := (hj c).resolve_left hnh
        have hw2 : wrap64 (p - last) = p - last := by unfold wrap64; omega
        simp only [if_neg a, hw2, if_neg (show ¬ p - last ≥ least by omega)]
        exact nxt
  · refine Ev.step (fun k => ?_) nxt
    simp only [posthornlaw24_BusyGaps.j1]
    rw [if_neg c, hw]

theorem emit (hr : rightB l = true) (hn : l.length ≤ 10000) (hs : spanB x y = true) (hG : G.length ≤ 100000) {last p q : Int} {i : Nat} {rest : List S44} (hd : G.drop i = ⟨p, q, 0⟩ :: rest) (h1 : x ≤ last) (h2 : last ≤ p) (hpq : p < q) (h3 : q ≤ y)
    (hleast : least ≤ q - p) (hno : ¬ Hit (clipL x y l) p q) (hj : last < p → Hit (clipL x y l) last p ∨ p - last < least) (nxt : Ev (fun k => posthornlaw24_BusyGaps.l0 k l y least G q ((i + 1 : Nat) : Int)) true) :
    Ev (fun k => posthornlaw24_BusyGaps.l0 k l y least G last (i : Int)) true := by
  have hxy := of_decide_eq_true hs
  obtain ⟨hi, hg, _⟩ := drop_cons hd
  have hw2 : wrap64 (q - p) = q - p := by unfold wrap64; omega
  refine Ev.step (f := fun k => (busy_Clash.f k l p q).bind fun bt406 => (if bt406.1 = true then (some false) else (if bt406.2 = 0 then (posthornlaw24_BusyGaps.j1 k l y least G last (i : Int) p q) else (some false)))) (fun k => ?_) ?_
  · simp only [posthornlaw24_BusyGaps.l0, hg]
    rw [if_pos (by omega), if_pos (by omega), if_pos (by omega), hw2, if_neg (by omega), if_neg (show ¬ p < last by omega)]
    simp only [if_true]
  · refine Ev.bind (clash_in hr hn hs (by omega) hpq h3) ?_
    have a : ¬ Lists.anyB (clipL p q l) = true := fun a => hno ((hit_clip l x y p q (by omega) h3).mp ((any_iff _ _ _).mp a))
    simp only [if_neg a, if_true]
    exact fin_j hr hn hs h1 (by omega) (by omega) hj nxt

theorem over {n : Nat} {last : Int} (hi : G.length < n) : Ev (fun k => posthornlaw24_BusyGaps.l0 k l y least G last (n : Int)) true := by
  refine Ev.step (f := fun k => (posthornlaw24_alive.f k).bind fun t403 => some t403) (fun k => ?_) (Ev.bind alive_ev (Ev.now _))
  simp only [posthornlaw24_BusyGaps.l0]
  rw [if_neg (by omega)]

theorem fin (hr : rightB l = true) (hn : l.length ≤ 10000) (hs : spanB x y = true) (hG : G.length ≤ 100000) {last : Int} {i : Nat} (hd : G.drop i = []) (hi : i ≤ G.length) (h1 : x ≤ last)
    (hj : last < y → Hit (clipL x y l) last y ∨ y - last < least) : Ev (fun k => posthornlaw24_BusyGaps.l0 k l y least G last (i : Int)) true := by
  have := drop_nil hd
  have hj' := fin_j (G := G) (q := y) (i := i) hr hn hs h1 (Int.le_refl _) (by omega) hj (over (by omega))
  refine Ev.step (fun k => ?_) hj'
  simp only [posthornlaw24_BusyGaps.l0]
  rw [if_pos (by omega), if_neg (by omega)]

theorem walk (hr : rightB l = true) (hn : l.length ≤ 10000) (hs : spanB x y = true) (hG : G.length ≤ 100000) (hleast : 1 ≤ least) : ∀ (suf : List S44) (i : Nat) (at_ last : Int), G.drop i = freeL least y suf at_ → i ≤ G.length →
    (∀ u, u ∈ clipL x y l → 2 ≤ u.f2 → u ∈ suf ∨ u.f1 ≤ at_) → (∀ u, u ∈ suf → at_ ≤ u.f0 ∧ u.f1 ≤ y) → Apart suf → (∀ u, u ∈ suf → u ∈ clipL x y l) → x ≤ last → last ≤ at_ → at_ ≤ y →
    (last = at_ ∨ ∃ s, s ∈ clipL x y l ∧ 2 ≤ s.f2 ∧ last ≤ s.f0 ∧ s.f0 < s.f1 ∧ s.f1 ≤ at_) → Ev (fun k => posthornlaw24_BusyGaps.l0 k l y least G last (i : Int)) true := by
  have hxy := of_decide_eq_true hs
  intro suf
  induction suf with
  | nil =>
    intro i at_ last hd hi hb _ _ _ h1 h2 h3 hJ
    have hw2 : wrap64 (y - at_) = y - at_ := by unfold wrap64; omega
    by_cases c : least ≤ wrap64 (y - at_)
    · have e : freeL least y [] at_ = [⟨at_, y, 0⟩] := if_pos c
      rw [e] at hd
      obtain ⟨hi', _, hd'⟩ := drop_cons hd
      refine emit hr hn hs hG hd h1 h2 (by omega) (Int.le_refl _) (by omega) ?_ ?_ (fin hr hn hs hG hd' (by omega) (by omega) (fun h => absurd h (by omega)))
      · rintro ⟨u, hu, hk, hc⟩
        rw [lt_mn, mx_lt, mx_lt] at hc
        rcases hb u hu hk with h | h
        · cases h
        · omega
      · intro hlt
        rcases hJ with h | ⟨s, hs1, hs2, hs3, hs4, hs5⟩
        · omega
        · exact .inl ⟨s, hs1, hs2, by rw [lt_mn, mx_lt, mx_lt]; omega⟩
    · have e : freeL least y [] at_ = [] := if_neg c
      rw [e] at hd
      refine fin hr hn hs hG hd hi h1 (fun hlt => ?_)
      rcases hJ with h | ⟨s, hs1, hs2, hs3, hs4, hs5⟩
      · exact .inr (by omega)
      · exact .inl ⟨s, hs1, hs2, by rw [lt_mn, mx_lt, mx_lt]; omega⟩
  | cons s suf ih =>
    intro i at_ last hd hi hb hge hap hin h1 h2 h3 hJ
    obtain ⟨g1, g2⟩ := hge s List.mem_cons_self
    obtain ⟨a1, a2, a3⟩ := hap
    have hsC := hin s List.mem_cons_self
    have hin' : ∀ u, u ∈ suf → u ∈ clipL x y l := fun u hu => hin u (List.mem_cons_of_mem _ hu)
    have hw2 : wrap64 (s.f0 - at_) = s.f0 - at_ := by unfold wrap64; omega
    by_cases c : 2 ≤ s.f2
    · have hb' : ∀ u, u ∈ clipL x y l → 2 ≤ u.f2 → u ∈ suf ∨ u.f1 ≤ s.f1 := by
        intro u hu hk
        rcases hb u hu hk with h | h
        · rcases List.mem_cons.mp h with rfl | h
          · exact .inr (Int.le_refl _)
          · exact .inl h
        · exact .inr (by omega)
      have hge' : ∀ u, u ∈ suf → s.f1 ≤ u.f0 ∧ u.f1 ≤ y := fun u hu => ⟨a2 u hu, (hge u (List.mem_cons_of_mem _ hu)).2⟩
      by_cases d : least ≤ wrap64 (s.f0 - at_)
      · have e : freeL least y (s :: suf) at_ = ⟨at_, s.f0, 0⟩ :: freeL least y suf s.f1 := by
          show (if 2 ≤ s.f2 then (if least ≤ wrap64 (s.f0 - at_) then _ else _) else _) = _
          rw [if_pos c, if_pos d]
        rw [e] at hd
        obtain ⟨hi', _, hd'⟩ := drop_cons hd
        refine emit hr hn hs hG hd h1 h2 (by omega) (by omega) (by omega) ?_ ?_ (ih (i + 1) s.f1 s.f0 hd' (by omega) hb' hge' a3 hin' (by omega) (by omega) g2 (.inr ⟨s, hsC, c, Int.le_refl _, a1, Int.le_refl _⟩))
        · rintro ⟨u, hu, hk, hc⟩
          rw [lt_mn, mx_lt, mx_lt] at hc
          rcases hb u hu hk with h | h
          · rcases List.mem_cons.mp h with rfl | h
            · omega
            · have := a2 u h
              omega
          · omega
        · intro hlt
          rcases hJ with h | ⟨s', hs1, hs2, hs3, hs4, hs5⟩
          · omega
          · exact .inl ⟨s', hs1, hs2, by rw [lt_mn, mx_lt, mx_lt]; omega⟩
      · have e : freeL least y (s :: suf) at_ = freeL least y suf s.f1 := by
          show (if 2 ≤ s.f2 then (if least ≤ wrap64 (s.f0 - at_) then _ else _) else _) = _
          rw [if_pos c, if_neg d]
        rw [e] at hd
        exact ih i s.f1 last hd hi hb' hge' a3 hin' h1 (by omega) g2 (.inr ⟨s, hsC, c, by omega, a1, Int.le_refl _⟩)
    · have e : freeL least y (s :: suf) at_ = freeL least y suf at_ := if_neg c
      rw [e] at hd
      refine ih i at_ last hd hi ?_ (fun u hu => hge u (List.mem_cons_of_mem _ hu)) a3 hin' h1 h2 h3 hJ
      intro u hu hk
      rcases hb u hu hk with h | h
      · rcases List.mem_cons.mp h with rfl | h
        · exact absurd hk c
        · exact .inl h
      · exact .inr h
end

theorem freeL_length (least y : Int) : ∀ (l : List S44) (at_ : Int), (freeL least y l at_).length ≤ l.length + 1
  | [], at_ => by unfold freeL; split <;> simp
  | s :: l, at_ => by
    have h1 := freeL_length least y l s.f1
    have h2 := freeL_length least y l at_
    unfold freeL
    split
    · split
      · simp; omega
      · simp; omega
    · simp; omega

theorem pure (l : List S44) (x y least : Int) : ∃ k, posthornlaw24_BusyGaps.f k l x y least = some true := by
  refine Ev.rounds (g := fun k => posthornlaw24_BusyGaps.f k l x y least) ?_
  unfold posthornlaw24_BusyGaps.f
  rw [many_f]
  simp only [Option.bind_some]
  by_cases hm : 120 < l.length ∧ l.length ≤ 4096 ∨ 4200 < l.length
  · rw [decide_eq_true hm]
    simp only [if_true]
    exact Ev.bind alive_ev (Ev.now _)
  · rw [decide_eq_false hm]
    simp only [Bool.false_eq_true, if_false]
    have hn : l.length ≤ 4200 := by omega
    have wrong : ∀ e : Int, e ≠ 0 → Ev (fun k => if e = 0 then (posthornlaw24_BusyGaps.l0 k l y least ([] : List S44) x 0) else ((posthornlaw24_alive.f k).bind fun t402 => (if t402 = true then (some ((([] : List S44).length : Int) == 0)) else (some false)))) true := by
      intro e he
      simp only [if_neg he]
      refine Ev.bind alive_ev ?_
      simp only [if_true]
      exact Ev.now _
    by_cases h : fitsV l x y = 0
    · by_cases c : least < 1
      · have ev : Ev (fun k => busy_Free.f k l x y least) ([], 1) := by
          unfold busy_Free.f
          refine Ev.bind (fits_ev l x y (by omega)) ?_
          simp only [h, if_true, if_pos c]
          exact Ev.now _
        exact Ev.bind ev (wrong 1 (by decide))
      · have hcl := clipL_length x y l
        have ev : Ev (fun k => busy_Free.f k l x y least) (freeL least y (clipL x y l) x, 0) := by
          unfold busy_Free.f
          refine Ev.bind (fits_ev l x y (by omega)) ?_
          simp only [h, if_true, if_neg c]
          refine Ev.bind (clip_ev l x y (by omega)) ?_
          simp only [if_pos (show (clipL x y l).length < 100000 by omega)]
          exact Ev.now _
        refine Ev.bind ev ?_
        simp only [if_true]
        have hr : rightB l = true := by
          unfold fitsV at h
          cases hr : rightB l with
          | false => rw [hr] at h; simp at h
          | true => rfl
        have hs : spanB x y = true := by
          unfold fitsV at h
          rw [if_pos hr] at h
          cases hs : spanB x y with
          | false => rw [hs] at h; simp at h
          | true => rfl
        have hxy := of_decide_eq_true hs
        have hrow : Math.Row (-1) 0 (l.map toSp) := by
          unfold rightB at hr
          rw [Bool.and_eq_true] at hr
          exact ((chain_iff _ _ _).mp hr.1).2
        have hlen := freeL_length least y (clipL x y l) x
        refine walk hr (by omega) hs (by omega) (by omega) (clipL x y l) 0 x x rfl (Nat.zero_le _) (fun u hu _ => .inl hu) (fun u hu => ?_) (apart_clip _ _ _ (apart_row _ _ _ hrow)) (fun u hu => hu) (Int.le_refl _) (Int.le_refl _) (by omega) (.inl rfl)
        obtain ⟨v, _, _, rfl⟩ := (mem_clip _ _ _ _).mp hu
        exact ⟨le_mx.2, mn_le.2⟩
    · have ev : Ev (fun k => busy_Free.f k l x y least) ([], fitsV l x y) := by
        unfold busy_Free.f
        refine Ev.bind (fits_ev l x y (by omega)) ?_
        simp only [if_neg h]
        exact Ev.now _
      exact Ev.bind ev (wrong _ h)
end Go.Proofs.Ytalepohjmjlndaa.GapsPure

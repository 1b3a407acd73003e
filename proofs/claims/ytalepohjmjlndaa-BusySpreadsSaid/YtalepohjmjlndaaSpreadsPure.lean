/- BusySpreads, without Go and memory: the document's way, time by time, comes to the same row. -/
import Derived.Test.YtalepohjmjlndaaLists
import Derived.Test.YtalepohjmjlndaaPBx11
namespace Go.Proofs.Ytalepohjmjlndaa.SpreadsPure
open Go.RowKit Go.Proofs.YtalepohjmjlndaaW.PrintWords Go.Proofs.YtalepohjmjlndaaW.PrintLast Go.Proofs.YtalepohjmjlndaaW.PrintMore Go.Proofs.Ytalepohjmjlndaa.PB Go.Proofs.Ytalepohjmjlndaa.Base Go.Proofs.Ytalepohjmjlndaa.Lists
open Math (Sp Row kmax)

theorem ev_step {α : Type} {g f : Nat → Option α} {r : α} (K : Nat) (h : ∀ k, K ≤ k → g (k + 1) = f k) (hf : Ev f r) : Ev g r := by
  obtain ⟨K', hK'⟩ := hf
  refine ⟨K + K' + 1, fun k hk => ?_⟩
  obtain ⟨j, rfl⟩ : ∃ j, k = j + 1 := ⟨k - 1, by omega⟩
  rw [h j (by omega)]
  exact hK' j (by omega)

/-! ### times -/
def putL (t : Int) : List Int → List Int
  | [] => [t]
  | x :: r => if x < t then x :: putL t r else if x = t then x :: r else t :: x :: r
/-- Times that rise strictly, from behind lo on. -/
def SI : Int → List Int → Prop
  | _, [] => True
  | lo, x :: r => lo < x ∧ SI x r
theorem put_si (t : Int) : ∀ (l : List Int) (lo : Int), SI lo l → lo < t → SI lo (putL t l)
  | [], _, _, h => ⟨h, trivial⟩
  | x :: r, lo, h, ht => by
    obtain ⟨h1, h2⟩ := h
    unfold putL
    by_cases c : x < t
    · rw [if_pos c]
      exact ⟨h1, put_si t r x h2 c⟩
    · rw [if_neg c]
      by_cases d : x = t
      · rw [if_pos d]
        exact ⟨h1, h2⟩
      · rw [if_neg d]
        exact ⟨ht, by omega, h2⟩
theorem put_mem (t : Int) : ∀ (l : List Int) (x : Int), x ∈ putL t l ↔ x = t ∨ x ∈ l
  | [], x => by simp [putL]
  | y :: r, x => by
    have ih := put_mem t r x
    unfold putL
    by_cases c : y < t
    · rw [if_pos c, List.mem_cons, ih, List.mem_cons]
      constructor
      · rintro (h | h | h)
        · exact .inr (.inl h)
        · exact .inl h
        · exact .inr (.inr h)
      · rintro (h | h | h)
        · exact .inr (.inl h)
        · exact .inl h
        · exact .inr (.inr h)
    · rw [if_neg c]
      by_cases d : y = t
      · rw [if_pos d, List.mem_cons]
        constructor
        · exact .inr
        · rintro (h | h)
          · exact .inl (h.trans d.symm)
          · exact h
      · rw [if_neg d]
        exact List.mem_cons
theorem put_length (t : Int) : ∀ (l : List Int), (putL t l).length ≤ l.length + 1
  | [] => Nat.le_refl _
  | x :: r => by
    have := put_length t r
    unfold putL
    split
    · simp; omega
    · split <;> simp
theorem si_mem : ∀ (l : List Int) (lo : Int), SI lo l → ∀ x, x ∈ l → lo < x
  | y :: r, lo, h, x, hx => by
    obtain ⟨h1, h2⟩ := h
    rcases List.mem_cons.mp hx with rfl | hx
    · exact h1
    · have := si_mem r y h2 x hx
      omega

theorem idrop_cons {l : List Int} {i : Nat} {s : Int} {suf : List Int} (h : l.drop i = s :: suf) : i < l.length ∧ rd l (i : Int) = s ∧ l.drop (i + 1) = suf := by
  have hi : i < l.length := by
    rcases Nat.lt_or_ge i l.length with h1 | h1
    · exact h1
    · rw [List.drop_eq_nil_of_le h1] at h; cases h
  rw [List.drop_eq_getElem_cons hi] at h
  injection h with h1 h2
  exact ⟨hi, by unfold rd; simp [hi, h1], h2⟩

theorem put_loop (l : List Int) (t : Int) (hn : l.length ≤ 100000) : ∀ (suf : List Int) (i : Nat), l.drop i = suf → i ≤ l.length → Ev (fun k => posthornref24_put.l0 k l t (i : Int)) (l.take i ++ putL t suf) := by
  intro suf
  induction suf with
  | nil =>
    intro i hd hi
    have := List.drop_eq_nil_iff.mp hd
    refine Ev.step (f := fun _ => some (l.take i ++ putL t [])) (fun k => ?_) (Ev.now _)
    have h1 : (l.take i).length ≤ l.length := by simp; omega
    simp only [posthornref24_put.l0, Option.bind_some, Int.toNat_natCast, hd, List.nil_append, List.append_nil, List.length_nil, Nat.add_zero, Nat.zero_add, List.length_append, List.length_singleton]
    rw [if_neg (by omega), if_pos (by omega), if_pos (by omega), if_pos (by omega), if_pos (by omega), if_pos (by omega)]
    rfl
  | cons x suf ih =>
    intro i hd hi
    obtain ⟨hi', hx, hd'⟩ := idrop_cons hd
    have hw : wrap64 ((i : Int) + 1) = ((i + 1 : Nat) : Int) := wrapS hi' (by omega)
    by_cases c : x < t
    · have e : l.take i ++ putL t (x :: suf) = l.take (i + 1) ++ putL t suf := by
        have hx' : l[i] = x := by
          have := hx
          unfold rd at this
          simpa [hi'] using this
        rw [List.take_succ_eq_append_getElem hi', hx', List.append_assoc]
        show _ ++ (if x < t then _ else _) = _
        rw [if_pos c]
        rfl
      rw [e]
      refine Ev.step (fun k => ?_) (ih (i + 1) hd' (by omega))
      simp only [posthornref24_put.l0]
      rw [if_pos (by omega), if_pos (by omega), hx, if_pos c, hw]
    · by_cases d : x = t
      · have e : l.take i ++ putL t (x :: suf) = l := by
          show _ ++ (if x < t then _ else if x = t then x :: suf else _) = _
          rw [if_neg c, if_pos d, ← hd, List.take_append_drop]
        rw [e]
        refine Ev.step (f := fun _ => some l) (fun k => ?_) (Ev.now _)
        simp only [posthornref24_put.l0]
        rw [if_pos (by omega), if_pos (by omega), hx, if_neg c, if_pos d]
      · have e : l.take i ++ putL t (x :: suf) = l.take i ++ [t] ++ l.drop i := by
          show _ ++ (if x < t then _ else if x = t then x :: suf else _) = _
          rw [if_neg c, if_neg d, hd, List.append_assoc]
          rfl
        rw [e]
        refine Ev.step (f := fun _ => some (l.take i ++ [t] ++ l.drop i)) (fun k => ?_) (Ev.now _)
        have h1 : (l.take i).length + (l.drop i).length = l.length := by simp; omega
        simp only [posthornref24_put.l0, Option.bind_some, Int.toNat_natCast, List.nil_append, List.length_nil, Nat.zero_add, List.length_append, List.length_singleton]
        rw [if_pos (by omega), if_pos (by omega), hx, if_neg c, if_neg d, if_pos (by omega), if_pos (by omega), if_pos (by omega), if_pos (by omega)]
theorem put_ev (l : List Int) (t : Int) (hn : l.length ≤ 100000) : Ev (fun k => posthornref24_put.f k l t) (putL t l) :=
  put_loop l t hn l 0 rfl (Nat.zero_le _)

def timesOf : List Int → List S44 → List Int
  | acc, [] => acc
  | acc, s :: r => timesOf (putL s.f1 (putL s.f0 acc)) r
theorem times_si : ∀ (l : List S44) (acc : List Int), (∀ s, s ∈ l → okB s = true) → SI (-1) acc → SI (-1) (timesOf acc l)
  | [], _, _, h => h
  | s :: r, acc, ho, h => by
    have hs := okB_ge (ho s List.mem_cons_self)
    exact times_si r _ (fun x hx => ho x (List.mem_cons_of_mem _ hx)) (put_si _ _ _ (put_si _ _ _ h (by omega)) (by omega))
theorem times_mem : ∀ (l : List S44) (acc : List Int) (x : Int), x ∈ timesOf acc l ↔ x ∈ acc ∨ ∃ s, s ∈ l ∧ (x = s.f0 ∨ x = s.f1)
  | [], acc, x => by simp [timesOf]
  | s :: r, acc, x => by
    unfold timesOf
    rw [times_mem r, put_mem, put_mem]
    constructor
    · rintro ((h | h | h) | ⟨u, hu, h⟩)
      · exact .inr ⟨s, List.mem_cons_self, .inr h⟩
      · exact .inr ⟨s, List.mem_cons_self, .inl h⟩
      · exact .inl h
      · exact .inr ⟨u, List.mem_cons_of_mem _ hu, h⟩
    · rintro (h | ⟨u, hu, h⟩)
      · exact .inl (.inr (.inr h))
      · rcases List.mem_cons.mp hu with rfl | hu
        · rcases h with h | h
          · exact .inl (.inr (.inl h))
          · exact .inl (.inl h)
        · exact .inr ⟨u, hu, h⟩
theorem times_length : ∀ (l : List S44) (acc : List Int), (timesOf acc l).length ≤ acc.length + 2 * l.length
  | [], _ => by simp [timesOf]
  | s :: r, acc => by
    have := times_length r (putL s.f1 (putL s.f0 acc))
    have := put_length s.f0 acc
    have := put_length s.f1 (putL s.f0 acc)
    unfold timesOf
    simp only [List.length_cons]
    omega

/-! ### the greatest kind -/
def up (acc m : Int) : Int := if acc < m then m else acc
theorem up_cons (acc t : Int) (s : Math.Sp) (l : List Math.Sp) : up acc (Math.kmax (s :: l) t) = if s.a ≤ t ∧ t < s.b ∧ acc < s.k then up s.k (Math.kmax l t) else up acc (Math.kmax l t) := by
  have := Math.kmax_nonneg l t
  unfold up
  conv => lhs; unfold Math.kmax
  by_cases c : s.a ≤ t ∧ t < s.b ∧ Math.kmax l t < s.k
  · rw [if_pos c]
    by_cases d : s.a ≤ t ∧ t < s.b ∧ acc < s.k
    · rw [if_pos d, if_pos d.2.2, if_neg (by omega)]
    · rw [if_neg d, if_neg (by omega), if_neg (by omega)]
  · rw [if_neg c]
    by_cases d : s.a ≤ t ∧ t < s.b ∧ acc < s.k
    · rw [if_pos d, if_pos (by omega)]
      split <;> omega
    · rw [if_neg d]
theorem kind_loop (l : List S44) (t : Int) (hn : l.length ≤ 1000000) : ∀ (suf : List S44) (i : Nat) (acc : Int), l.drop i = suf → 0 ≤ acc →
    Ev (fun k => posthornref24_kind.l0 k (l.map as8) t acc (i : Int)) (up acc (kmax (suf.map toSp) t)) := by
  have hl : (l.map as8).length = l.length := List.length_map ..
  have a0 : ∀ u : S44, (as8 u).f0 = u.f0 := fun _ => rfl
  have a1 : ∀ u : S44, (as8 u).f1 = u.f1 := fun _ => rfl
  have a2 : ∀ u : S44, (as8 u).f2 = u.f2 := fun _ => rfl
  intro suf
  induction suf with
  | nil =>
    intro i acc hd h0
    have := drop_nil hd
    have e : up acc (kmax (([] : List S44).map toSp) t) = acc := by unfold up; exact if_neg (by show ¬ acc < 0; omega)
    rw [e]
    refine Ev.step (f := fun _ => some acc) (fun k => ?_) (Ev.now _)
    simp only [posthornref24_kind.l0, hl]
    rw [if_neg (by omega)]
  | cons s suf ih =>
    intro i acc hd h0
    obtain ⟨hi, hs, hd'⟩ := drop_cons hd
    rw [List.map_cons, up_cons acc t _ _]
    have hw := wrapS hi (by omega)
    by_cases c : s.f0 ≤ t ∧ t < s.f1 ∧ acc < s.f2
    · rw [if_pos (show (toSp s).a ≤ t ∧ t < (toSp s).b ∧ acc < (toSp s).k from c)]
      refine Ev.step (fun k => ?_) (ih (i + 1) s.f2 hd' (by omega))
      simp only [posthornref24_kind.l0, hl, rd48_map, a0, a1, a2]
      rw [if_pos (by omega), if_pos (by omega), hs, if_pos c.1, if_pos c.2.1, if_pos c.2.2, hw]
    · rw [if_neg (show ¬ ((toSp s).a ≤ t ∧ t < (toSp s).b ∧ acc < (toSp s).k) from c)]
      refine Ev.step (fun k => ?_) (ih (i + 1) acc hd' h0)
      simp only [posthornref24_kind.l0, hl, rd48_map, a0, a1, a2]
      rw [if_pos (by omega), if_pos (by omega), hs, hw]
      by_cases c1 : s.f0 ≤ t
      · rw [if_pos c1]
        by_cases c2 : t < s.f1
        · rw [if_pos c2, if_neg (by omega)]
        · rw [if_neg c2]
      · rw [if_neg c1]
theorem kind_ev (l : List S44) (t : Int) (hn : l.length ≤ 1000000) : Ev (fun k => posthornref24_kind.f k (l.map as8) t) (kmax (l.map toSp) t) := by
  have h := kind_loop l t hn l 0 0 rfl (Int.le_refl _)
  have e : up 0 (kmax (l.map toSp) t) = kmax (l.map toSp) t := by
    have := Math.kmax_nonneg (l.map toSp) t
    unfold up
    split <;> omega
  rwa [e] at h
theorem kmax_const (t x : Int) : ∀ (l : List Sp), (∀ s, s ∈ l → (s.a ≤ x ↔ s.a ≤ t) ∧ (x < s.b ↔ t < s.b)) → kmax l x = kmax l t
  | [], _ => rfl
  | s :: l, h => by
    have ih := kmax_const t x l (fun u hu => h u (List.mem_cons_of_mem _ hu))
    obtain ⟨h1, h2⟩ := h s List.mem_cons_self
    unfold kmax
    rw [ih]
    by_cases c : s.a ≤ t ∧ t < s.b ∧ kmax l t < s.k
    · rw [if_pos c, if_pos ⟨h1.mpr c.1, h2.mpr c.2.1, c.2.2⟩]
    · rw [if_neg c, if_neg (fun d => c ⟨h1.mp d.1, h2.mp d.2.1, d.2.2⟩)]

/-! ### rows that grow -/
theorem row_ge : ∀ (l : List Sp) (e k : Int), Row e k l → ∀ s, s ∈ l → e ≤ s.a
  | s :: l, e, k, h, x, hx => by
    obtain ⟨h1, _, h3, _, h5⟩ := h
    rcases List.mem_cons.mp hx with rfl | hx
    · exact h1
    · have := row_ge l _ _ h5 x hx
      omega
theorem row_last : ∀ (o : List Sp) (s : Sp) (e k : Int), Row e k (o ++ [s]) → (∀ u, u ∈ o → u.b ≤ s.a) ∧ s.a < s.b ∧ 0 < s.k
  | [], s, e, k, h => ⟨fun _ hx => absurd hx (by simp), h.2.2.1, h.2.2.2.1⟩
  | v :: o, s, e, k, h => by
    obtain ⟨_, _, _, _, h5⟩ := h
    obtain ⟨i1, i2, i3⟩ := row_last o s _ _ h5
    refine ⟨fun u hu => ?_, i2, i3⟩
    rcases List.mem_cons.mp hu with rfl | hu
    · exact row_ge _ _ _ h5 s (by simp)
    · exact i1 u hu
theorem row_longer : ∀ (o : List Sp) (s : Sp) (e k t : Int), Row e k (o ++ [s]) → s.a < t → Row e k (o ++ [⟨s.a, t, s.k⟩])
  | [], s, e, k, t, h, ht => ⟨h.1, h.2.1, ht, h.2.2.2.1, trivial⟩
  | v :: o, s, e, k, t, h, ht => by
    obtain ⟨h1, h2, h3, h4, h5⟩ := h
    exact ⟨h1, h2, h3, h4, row_longer o s _ _ t h5 ht⟩
theorem row_snoc : ∀ (o : List Sp) (s u : Sp) (e k : Int), Row e k (o ++ [s]) → s.b ≤ u.a → (s.b = u.a → s.k ≠ u.k) → u.a < u.b → 0 < u.k → Row e k (o ++ [s] ++ [u])
  | [], s, u, e, k, h, h1, h2, h3, h4 => ⟨h.1, h.2.1, h.2.2.1, h.2.2.2.1, h1, h2, h3, h4, trivial⟩
  | v :: o, s, u, e, k, h, h1, h2, h3, h4 => by
    obtain ⟨g1, g2, g3, g4, g5⟩ := h
    exact ⟨g1, g2, g3, g4, row_snoc o s u _ _ g5 h1 h2 h3 h4⟩
theorem kmax_snoc (s : Sp) (x : Int) (hk : 0 < s.k) : ∀ (o : List Sp), (∀ u, u ∈ o → u.b ≤ s.a) → kmax (o ++ [s]) x = if s.a ≤ x ∧ x < s.b then s.k else kmax o x
  | [], _ => by
    show (if s.a ≤ x ∧ x < s.b ∧ 0 < s.k then s.k else 0) = if s.a ≤ x ∧ x < s.b then s.k else 0
    by_cases c : s.a ≤ x ∧ x < s.b
    · rw [if_pos c, if_pos ⟨c.1, c.2, hk⟩]
    · rw [if_neg c, if_neg (fun d => c ⟨d.1, d.2.1⟩)]
  | u :: o, h => by
    have ih := kmax_snoc s x hk o (fun v hv => h v (List.mem_cons_of_mem _ hv))
    have hu := h u List.mem_cons_self
    show (if u.a ≤ x ∧ x < u.b ∧ kmax (o ++ [s]) x < u.k then u.k else kmax (o ++ [s]) x) = _
    rw [ih]
    by_cases c : s.a ≤ x ∧ x < s.b
    · rw [if_pos c, if_pos c, if_neg (by omega)]
    · rw [if_neg c, if_neg c]
      rfl

def to8 (s : Sp) : S48 := ⟨s.a, s.b, s.k⟩
theorem rd48_last (o : List Sp) (s : Sp) : rd_T48 ((o ++ [s]).map to8) ((o.length : Nat) : Int) = to8 s := by
  unfold rd_T48
  simp
theorem set_last (o : List Sp) (s : Sp) (u : S48) : ((o ++ [s]).map to8).set o.length u = o.map to8 ++ [u] := by
  rw [List.map_append, List.set_append_right _ _ (by simp)]
  simp

theorem main_loop (l : List S44) (T : List Int) (hn : l.length ≤ 10000) (hT : T.length ≤ 100000) (hok : l.all okB = true) : ∀ (suf : List Int) (t : Int) (i : Nat) (out : List Sp), T.drop i = t :: suf → SI t suf → 0 ≤ t →
    (∀ s, s ∈ l.map toSp → (s.a ≤ t ∨ s.a ∈ suf) ∧ (s.b ≤ t ∨ s.b ∈ suf)) → Row (-1) 0 out → (∀ s, s ∈ out → s.b ≤ t) → (∀ x, x < t → kmax out x = kmax (l.map toSp) x) → out.length ≤ i →
    Ev (fun k => posthornref24_Spread.l1 k (l.map as8) T (out.map to8) (i : Int)) (if 1024 < (Math.spread (l.map toSp)).length then ([], 5) else ((Math.spread (l.map toSp)).map to8, 0)) := by
  obtain ⟨hk1, hk2⟩ := ok_of_all hok
  obtain ⟨sr, sk⟩ := Math.spread_row _ hk1 (-1) hk2
  intro suf
  induction suf with
  | nil =>
    intro t i out hd _ _ hend hrow hb hkm hlen
    obtain ⟨hi, _, hd'⟩ := idrop_cons hd
    have hlast : T.length ≤ i + 1 := List.drop_eq_nil_iff.mp hd'
    have hw : wrap64 ((i : Int) + 1) = ((i + 1 : Nat) : Int) := wrapS hi (by omega)
    have e : out = Math.spread (l.map toSp) := by
      refine Math.row_uniq _ _ _ _ _ _ hrow sr (fun x => ?_)
      rw [sk]
      by_cases c : x < t
      · exact hkm x c
      · rw [Math.kmax_out out x (fun s hs => by have := hb s hs; omega), Math.kmax_out (l.map toSp) x (fun s hs => by
          rcases (hend s hs).2 with h | h
          · omega
          · cases h)]
    rw [← e]
    have hl : (out.map to8).length = out.length := List.length_map ..
    refine Ev.step (f := fun _ => some (if 1024 < out.length then ([], 5) else (out.map to8, 0))) (fun k => ?_) (Ev.now _)
    simp only [posthornref24_Spread.l1, hw, hl]
    rw [if_neg (by omega)]
    by_cases c : 1024 < out.length
    · rw [if_pos c, if_pos (by omega)]
    · rw [if_neg c, if_neg (by omega)]
  | cons t2 r ih =>
    intro t i out hd hs h0 hend hrow hb hkm hlen
    obtain ⟨hi, ht, hd'⟩ := idrop_cons hd
    obtain ⟨hi2, ht2, _⟩ := idrop_cons hd'
    obtain ⟨hs1, hs2⟩ := hs
    have hw : wrap64 ((i : Int) + 1) = ((i + 1 : Nat) : Int) := wrapS hi (by omega)
    have hge : ∀ x, x ∈ t2 :: r → t2 ≤ x := by
      intro x hx
      rcases List.mem_cons.mp hx with rfl | hx
      · exact Int.le_refl _
      · have := si_mem r t2 hs2 x hx
        omega
    have hend' : ∀ s, s ∈ l.map toSp → (s.a ≤ t2 ∨ s.a ∈ r) ∧ (s.b ≤ t2 ∨ s.b ∈ r) := by
      intro s hs'
      obtain ⟨g1, g2⟩ := hend s hs'
      constructor
      · rcases g1 with h | h
        · exact .inl (by omega)
        · rcases List.mem_cons.mp h with h | h
          · exact .inl (by omega)
          · exact .inr h
      · rcases g2 with h | h
        · exact .inl (by omega)
        · rcases List.mem_cons.mp h with h | h
          · exact .inl (by omega)
          · exact .inr h
    have hflat : ∀ x, t ≤ x → x < t2 → kmax (l.map toSp) x = kmax (l.map toSp) t := by
      intro x h1 h2
      refine kmax_const t x _ (fun s hs' => ?_)
      obtain ⟨g1, g2⟩ := hend s hs'
      constructor
      · rcases g1 with h | h
        · omega
        · have := hge _ h; omega
      · rcases g2 with h | h
        · omega
        · have := hge _ h; omega
    have hkn := Math.kmax_nonneg (l.map toSp) t
    have hl : ∀ o : List Sp, (o.map to8).length = o.length := fun _ => List.length_map ..
    generalize hK : kmax (l.map toSp) t = K at hkn hflat
    have kind' : Ev (fun k => posthornref24_kind.f k (l.map as8) t) K := by rw [← hK]; exact kind_ev l t (by omega)
    -- what lies ahead of the next time
    have nxt := fun out' h1 h2 h3 h4 => ih t2 (i + 1) out' hd' hs2 (by omega) hend' h1 h2 h3 h4
    have plain : ∀ o : List Sp, Row (-1) 0 o → (∀ s, s ∈ o → s.b ≤ t) → (∀ x, x < t → kmax o x = kmax (l.map toSp) x) → 0 < K → Row (-1) 0 (o ++ [⟨t, t2, K⟩]) →
        o.length ≤ i → Ev (fun k => posthornref24_Spread.l1 k (l.map as8) T (o.map to8 ++ [(⟨t, t2, K⟩ : S48)]) ((i + 1 : Nat) : Int)) (if 1024 < (Math.spread (l.map toSp)).length then ([], 5) else ((Math.spread (l.map toSp)).map to8, 0)) := by
      intro o _ hb' hk' hp hr' hlen'
      have e : o.map to8 ++ [(⟨t, t2, K⟩ : S48)] = (o ++ [(⟨t, t2, K⟩ : Sp)]).map to8 := by simp [to8]
      rw [e]
      refine nxt _ hr' (fun s hs' => ?_) (fun x hx => ?_) (by simp; omega)
      · rcases List.mem_append.mp hs' with h | h
        · have := hb' s h; omega
        · rw [List.mem_singleton] at h
          subst h
          exact Int.le_refl _
      · rw [kmax_snoc ⟨t, t2, K⟩ x hp o hb']
        show (if t ≤ x ∧ x < t2 then K else _) = _
        by_cases c : t ≤ x
        · rw [if_pos ⟨c, hx⟩, hflat x c hx]
        · rw [if_neg (by omega)]
          exact hk' x (by omega)
    obtain ⟨K0, hK0'⟩ := kind'
    have hK0 : ∀ k, K0 ≤ k → posthornref24_kind.f k (l.map as8) t = some K := hK0'
    by_cases c0 : K = 0
    · refine ev_step K0 (fun k hk => ?_) (nxt out hrow (fun s hs' => by have := hb s hs'; omega) (fun x hx => ?_) (by omega))
      · simp only [posthornref24_Spread.l1, hw]
        rw [if_pos (by omega), if_pos (by omega), if_pos (by omega), ht, hK0 k hk]
        simp only [Option.bind_some]
        rw [if_pos c0]
      · by_cases c : x < t
        · exact hkm x c
        · rw [hflat x (by omega) hx, c0, Math.kmax_out out x (fun s hs' => by have := hb s hs'; omega)]
    · have hp : 0 < K := by omega
      rcases List.eq_nil_or_concat out with rfl | ⟨o, s, rfl⟩
      · refine ev_step K0 (fun k hk => ?_) (plain [] hrow hb hkm hp ⟨by show -1 ≤ t; omega, fun h => by have h' : -1 = t := h; omega, hs1, hp, trivial⟩ (by simp))
        simp only [posthornref24_Spread.l1, hw]
        rw [if_pos (by omega), if_pos (by omega), if_pos (by omega), ht, hK0 k hk]
        simp only [Option.bind_some]
        rw [if_neg c0, if_neg (by simp), if_pos (by omega), if_pos (by simp), ht2]
      · rw [List.concat_eq_append] at hrow hb hkm hlen ⊢
        obtain ⟨l1, l2, l3⟩ := row_last o s _ _ hrow
        have hsb := hb s (by simp)
        have hlen8 : ((((o ++ [s]).map to8).length : Nat) : Int) = (o.length : Int) + 1 := by simp
        have hlen' : o.length + 1 ≤ i := by simpa using hlen
        have hw3 : wrap64 ((o.length : Int) + 1 - 1) = ((o.length : Nat) : Int) := by unfold wrap64; omega
        by_cases c1 : s.b = t ∧ s.k = K
        · obtain ⟨c1, c2⟩ := c1
          have e : (o ++ [s]).map to8 = o.map to8 ++ [to8 s] := by simp
          have n' := nxt (o ++ [⟨s.a, t2, s.k⟩]) (row_longer o s _ _ t2 hrow (by omega)) (fun u hu => ?_) (fun x hx => ?_) (by simp; omega)
          · refine ev_step K0 (fun k hk => ?_) n'
            simp only [posthornref24_Spread.l1, hw, hlen8, hw3, rd48_last, Int.toNat_natCast, set_last]
            rw [if_pos (by omega), if_pos (by omega), if_pos (by omega), ht, hK0 k hk]
            simp only [Option.bind_some]
            rw [if_neg c0, if_pos (by omega), if_pos (by omega), if_pos (by omega), if_pos (show (to8 s).f1 = t from c1), if_pos (show (to8 s).f2 = K from c2), if_pos (by omega), ht2]
            simp [to8]
          · rcases List.mem_append.mp hu with h | h
            · have := hb u (by simp [h]); omega
            · rw [List.mem_singleton] at h
              subst h
              exact Int.le_refl _
          · rw [kmax_snoc ⟨s.a, t2, s.k⟩ x l3 o l1]
            show (if s.a ≤ x ∧ x < t2 then s.k else _) = _
            by_cases c : x < t
            · have h1 := hkm x c
              rw [kmax_snoc s x l3 o l1] at h1
              rw [← h1]
              by_cases d : s.a ≤ x
              · rw [if_pos (by omega), if_pos (by omega)]
              · rw [if_neg (by omega), if_neg (by omega)]
            · rw [if_pos (by omega), hflat x (by omega) hx, c2]
        · refine ev_step K0 (fun k hk => ?_) (plain (o ++ [s]) hrow hb hkm hp (row_snoc o s ⟨t, t2, K⟩ _ _ hrow hsb (fun h1 h2 => c1 ⟨h1, h2⟩) hs1 hp) hlen)
          have hl8 : ((o ++ [s]).map to8).length = o.length + 1 := by simp
          simp only [posthornref24_Spread.l1, hw, hlen8, hw3, rd48_last, Int.toNat_natCast]
          rw [if_pos (by omega), if_pos (by omega), if_pos (by omega), ht, hK0 k hk]
          simp only [Option.bind_some]
          rw [if_neg c0, if_pos (by omega), if_pos (by omega), if_pos (by omega)]
          by_cases d1 : s.b = t
          · rw [if_pos (show (to8 s).f1 = t from d1), if_neg (show ¬ (to8 s).f2 = K from fun h => c1 ⟨d1, h⟩), if_pos (by omega), if_pos (by rw [hl8]; omega), ht2]
          · rw [if_neg (show ¬ (to8 s).f1 = t from d1), if_pos (by omega), if_pos (by rw [hl8]; omega), ht2]

theorem outer (l : List S44) (hn : l.length ≤ 10000) (r : List S48 × Int) : ∀ (suf : List S44) (i : Nat) (acc : List Int), l.drop i = suf → acc.length ≤ 2 * i → i ≤ l.length →
    (suf.all okB = true → Ev (fun k => posthornref24_Spread.l1 k (l.map as8) (timesOf acc suf) ([] : List S48) 0) r) → (suf.all okB = false → r = ([], 3)) →
    Ev (fun k => posthornref24_Spread.l0 k (l.map as8) acc (i : Int)) r := by
  have hl : (l.map as8).length = l.length := List.length_map ..
  have a0 : ∀ u : S44, (as8 u).f0 = u.f0 := fun _ => rfl
  have a1 : ∀ u : S44, (as8 u).f1 = u.f1 := fun _ => rfl
  intro suf
  induction suf with
  | nil =>
    intro i acc hd _ _ h _
    have := drop_nil hd
    refine Ev.step (fun k => ?_) (h rfl)
    simp only [posthornref24_Spread.l0, hl]
    rw [if_neg (by omega)]
    rfl
  | cons s suf ih =>
    intro i acc hd ha hi0 h h'
    obtain ⟨hi, hs, hd'⟩ := drop_cons hd
    have hw := wrapS hi (by omega)
    have one' : posthornref24_one.f (as8 s).f0 (as8 s).f1 (as8 s).f2 = some (okB s) := one_f s
    cases hb : okB s with
    | false =>
      rw [h' (by simp [hb])]
      refine Ev.step (f := fun _ => some ([], 3)) (fun k => ?_) (Ev.now _)
      simp only [posthornref24_Spread.l0, hl, rd48_map]
      rw [if_pos (by omega), if_pos (by omega), hs, one', hb]
      rfl
    | true =>
      have p1 := put_length s.f0 acc
      have p2 := put_length s.f1 (putL s.f0 acc)
      obtain ⟨K1, hK1'⟩ := put_ev acc s.f0 (by omega)
      obtain ⟨K2, hK2'⟩ := put_ev (putL s.f0 acc) s.f1 (by omega)
      have hK1 : ∀ k, K1 ≤ k → posthornref24_put.f k acc s.f0 = some (putL s.f0 acc) := hK1'
      have hK2 : ∀ k, K2 ≤ k → posthornref24_put.f k (putL s.f0 acc) s.f1 = some (putL s.f1 (putL s.f0 acc)) := hK2'
      refine ev_step (K1 + K2) (fun k hk => ?_) (ih (i + 1) (putL s.f1 (putL s.f0 acc)) hd' (by omega) (by omega) (fun hx => h (by simp [hb, hx])) (fun hx => h' (by simp [hx])))
      simp only [posthornref24_Spread.l0, hl, rd48_map]
      rw [if_pos (by omega), if_pos (by omega), hs, one', hb]
      simp only [Option.bind_some, if_true]
      rw [a0, a1, hK1 k (by omega)]
      simp only [Option.bind_some]
      rw [hK2 k (by omega)]
      simp only [Option.bind_some]
      rw [hw]

/-- What both sides' Spread comes to. -/
theorem rSpread_ev (l : List S44) (hn : l.length ≤ 10000) : ∃ a e, busy_Spread.f l = some (a, e) ∧ a.length ≤ 1024 ∧ Ev (fun k => posthornref24_Spread.f k (l.map as8)) (a.map as8, e) := by
  have hl : (l.map as8).length = l.length := List.length_map ..
  unfold busy_Spread.f posthornref24_Spread.f
  by_cases h1 : 4096 < l.length
  · refine ⟨_, _, if_pos h1, by simp, ?_⟩
    simp only [hl, if_pos (show (l.length : Int) > 4096 by omega)]
    exact Ev.now _
  · rw [if_neg h1]
    simp only [hl, if_neg (show ¬ (l.length : Int) > 4096 by omega)]
    by_cases h2 : l.all okB = true
    · rw [if_pos h2]
      have hall := List.all_eq_true.mp h2
      have lm : ((Math.spread (l.map toSp)).map ofSp).length = (Math.spread (l.map toSp)).length := List.length_map ..
      have e8 : ((Math.spread (l.map toSp)).map ofSp).map as8 = (Math.spread (l.map toSp)).map to8 := by rw [List.map_map]; rfl
      have hT := times_length l []
      have hsi := times_si l [] hall trivial
      have key : Ev (fun k => posthornref24_Spread.l1 k (l.map as8) (timesOf [] l) ([] : List S48) 0) (if 1024 < (Math.spread (l.map toSp)).length then ([], 5) else ((Math.spread (l.map toSp)).map to8, 0)) := by
        cases hc : timesOf [] l with
        | nil =>
          have hnil : l = [] := by
            cases l with
            | nil => rfl
            | cons s r =>
              have := (times_mem (s :: r) [] s.f0).mpr (.inr ⟨s, List.mem_cons_self, .inl rfl⟩)
              rw [hc] at this
              cases this
          subst hnil
          refine Ev.step (f := fun _ => some ([], 0)) (fun k => ?_) (Ev.now _)
          simp only [posthornref24_Spread.l1]
          rw [if_neg (by unfold wrap64; simp), if_neg (by simp)]
        | cons t suf =>
          rw [hc] at hsi
          have hmem := times_mem l []
          rw [hc] at hmem
          have ends : ∀ x, x ∈ t :: suf → x ≤ t ∨ x ∈ suf := by
            intro x hx
            rcases List.mem_cons.mp hx with rfl | hx
            · exact .inl (Int.le_refl _)
            · exact .inr hx
          have := main_loop l (t :: suf) hn (by rw [← hc]; simp at hT; omega) h2 suf t 0 [] rfl hsi.2 (by have := hsi.1; omega) (fun s hs => ?_) trivial (fun _ h => by cases h) (fun x hx => ?_) (Nat.le_refl _)
          · exact this
          · obtain ⟨u, hu, rfl⟩ := List.mem_map.mp hs
            exact ⟨ends _ ((hmem _).mpr (.inr ⟨u, hu, .inl rfl⟩)), ends _ ((hmem _).mpr (.inr ⟨u, hu, .inr rfl⟩))⟩
          · refine (Math.kmax_ahead _ x (fun s hs => ?_)).symm
            obtain ⟨u, hu, rfl⟩ := List.mem_map.mp hs
            have hm := (hmem u.f0).mpr (.inr ⟨u, hu, .inl rfl⟩)
            show x < u.f0
            rcases List.mem_cons.mp hm with h | h
            · omega
            · have := si_mem _ _ hsi.2 _ h
              omega
      have hout := fun r h => outer l hn r l 0 [] rfl (by simp) (Nat.zero_le _) (fun _ => h) (fun h => by rw [h2] at h; cases h)
      by_cases h3 : 1024 < ((Math.spread (l.map toSp)).map ofSp).length
      · refine ⟨_, _, if_pos h3, by simp, hout _ ?_⟩
        rw [if_pos (by omega)] at key
        exact key
      · refine ⟨_, _, if_neg h3, by omega, hout _ ?_⟩
        rw [if_neg (by omega)] at key
        rw [e8]
        exact key
    · refine ⟨_, _, if_neg h2, by simp, ?_⟩
      exact outer l hn _ l 0 [] rfl (by simp) (Nat.zero_le _) (fun h => absurd h h2) (fun _ => rfl)

theorem pure (l : List S44) (x y : Int) : ∃ k, posthornlaw24_BusySpreads.f k l x y = some true := by
  refine Ev.rounds (g := fun k => posthornlaw24_BusySpreads.f k l x y) ?_
  unfold posthornlaw24_BusySpreads.f
  rw [many_f]
  simp only [Option.bind_some]
  by_cases hm : 120 < l.length ∧ l.length ≤ 4096 ∨ 4200 < l.length
  · rw [decide_eq_true hm]
    simp only [if_true]
    exact Ev.bind alive_ev (Ev.now _)
  · rw [decide_eq_false hm]
    simp only [Bool.false_eq_true, if_false]
    have hn : l.length ≤ 4200 := by omega
    obtain ⟨a, e, hs, hal, hr⟩ := rSpread_ev l (by omega)
    have hc := clipL_length x y l
    have clip' : ∃ c f, c.length ≤ 10000 ∧ Ev (fun k => busy_Clip.f k l x y) (c, f) ∧ Ev (fun k => posthornref24_Clip.f k (l.map as8) x y) (c.map as8, f) := by
      have h1 := Clip_ev l x y (by omega)
      have h2 := rClip_ev l x y (by omega)
      by_cases h : fitsV l x y = 0
      · rw [if_pos h] at h1 h2
        exact ⟨_, _, by omega, h1, h2⟩
      · rw [if_neg h] at h1 h2
        exact ⟨[], _, by simp, h1, h2⟩
    obtain ⟨c, f, hcl, hc1, hc2⟩ := clip'
    refine Ev.bind (as_ev l (by omega)) ?_
    rw [hs]
    simp only [Option.bind_some]
    refine Ev.bind hr (Ev.bind hc1 (Ev.bind hc2 (Ev.bind alive_ev ?_)))
    simp only [if_true]
    refine Ev.bind (right_ev l (by omega)) (Ev.bind (rright_ev l (by omega)) ?_)
    simp only [beq_self_eq_true, if_true]
    refine Ev.bind (as_ev a (by omega)) (Ev.bind (same_ev _ (by simp; omega)) ?_)
    simp only [if_true]
    refine Ev.bind (as_ev c (by omega)) (Ev.bind (same_ev _ (by simp; omega)) ?_)
    simp only [if_true]
    exact Ev.bind (as_ev l (by omega)) (Ev.bind (same_ev _ (by simp; omega)) (Ev.now _))
end Go.Proofs.Ytalepohjmjlndaa.SpreadsPure

/- Plain lists: rows of spans, and what a sweep over times makes of a step function. No Go and no memory here. -/
namespace Go.Proofs.Ytalepohjmjlndaa.Math

structure Sp where
  a : Int
  b : Int
  k : Int

/-- The greatest kind at a moment. -/
def kmax : List Sp → Int → Int
  | [], _ => 0
  | s :: l, t => if s.a ≤ t ∧ t < s.b ∧ kmax l t < s.k then s.k else kmax l t

/-- A row: it begins at e or later; where it begins at e, its kind is not k. -/
def Row : Int → Int → List Sp → Prop
  | _, _, [] => True
  | e, k, s :: l => e ≤ s.a ∧ (e = s.a → k ≠ s.k) ∧ s.a < s.b ∧ 0 < s.k ∧ Row s.b s.k l

theorem kmax_nonneg : ∀ (l : List Sp) (t : Int), 0 ≤ kmax l t
  | [], _ => Int.le_refl _
  | s :: l, t => by
    have := kmax_nonneg l t
    unfold kmax
    split <;> omega

theorem row_lt : ∀ (l : List Sp) (e k t : Int), Row e k l → t < e → kmax l t = 0
  | [], _, _, _, _, _ => rfl
  | s :: l, e, k, t, h, ht => by
    obtain ⟨h1, _, h3, _, h5⟩ := h
    unfold kmax
    rw [if_neg (by omega)]
    exact row_lt l s.b s.k t h5 (by omega)

theorem row_cons {s : Sp} {l : List Sp} {e k t : Int} (h : Row e k (s :: l)) (ht : t < s.b) : kmax (s :: l) t = if s.a ≤ t then s.k else 0 := by
  obtain ⟨_, _, _, h4, h5⟩ := h
  have h0 := row_lt l s.b s.k t h5 ht
  unfold kmax
  rw [h0]
  by_cases c : s.a ≤ t
  · rw [if_pos c, if_pos ⟨c, ht, h4⟩]
  · rw [if_neg c, if_neg (by omega)]

theorem row_cons_ge {s : Sp} {l : List Sp} {t : Int} (ht : s.b ≤ t) : kmax (s :: l) t = kmax l t := by
  conv => lhs; unfold kmax
  rw [if_neg (by omega)]

theorem row_at : ∀ (l : List Sp) (e k : Int), Row e k l → 0 < k → kmax l e ≠ k
  | [], _, _, _, hk => by unfold kmax; omega
  | s :: l, e, k, h, hk => by
    have h' := h
    obtain ⟨h1, h2, h3, _, _⟩ := h
    rw [row_cons h' (by omega)]
    by_cases c : s.a ≤ e
    · rw [if_pos c]
      have := h2 (by omega)
      omega
    · rw [if_neg c]
      omega

/-- Rows with the same greatest kind at each moment are one. -/
theorem row_uniq : ∀ (xs ys : List Sp) (e k e' k' : Int), Row e k xs → Row e' k' ys → (∀ t, kmax xs t = kmax ys t) → xs = ys
  | [], [], _, _, _, _, _, _, _ => rfl
  | [], s :: l, _, _, _, _, _, h, ht => by
    have h' := h
    obtain ⟨_, _, h3, h4, _⟩ := h
    have := ht s.a
    rw [row_cons h' (by omega), if_pos (Int.le_refl _)] at this
    unfold kmax at this
    omega
  | s :: l, [], _, _, _, _, h, _, ht => by
    have h' := h
    obtain ⟨_, _, h3, h4, _⟩ := h
    have := ht s.a
    rw [row_cons h' (by omega), if_pos (Int.le_refl _)] at this
    have h0 : kmax [] s.a = 0 := rfl
    omega
  | s :: l, u :: m, e, k, e', k', hs, hu, ht => by
    have hs' := hs
    have hu' := hu
    obtain ⟨_, _, s3, s4, s5⟩ := hs
    obtain ⟨_, _, u3, u4, u5⟩ := hu
    have ea : s.a = u.a := by
      rcases Int.lt_trichotomy s.a u.a with c | c | c
      · have := ht s.a
        rw [row_cons hs' (by omega), row_cons hu' (by omega), if_pos (Int.le_refl _), if_neg (by omega)] at this
        omega
      · exact c
      · have := ht u.a
        rw [row_cons hs' (by omega), row_cons hu' (by omega), if_pos (Int.le_refl _), if_neg (by omega)] at this
        omega
    have ek : s.k = u.k := by
      have := ht s.a
      rw [row_cons hs' (by omega), row_cons hu' (by omega), if_pos (Int.le_refl _), if_pos (by omega)] at this
      exact this
    have eb : s.b = u.b := by
      rcases Int.lt_trichotomy s.b u.b with c | c | c
      · have := ht s.b
        rw [row_cons_ge (Int.le_refl _), row_cons hu' c, if_pos (by omega)] at this
        exact absurd (this.trans ek.symm) (row_at l s.b s.k s5 s4)
      · exact c
      · have := ht u.b
        rw [row_cons hs' c, row_cons_ge (Int.le_refl _), if_pos (by omega)] at this
        exact absurd (this.symm.trans ek) (row_at m u.b u.k u5 u4)
    have el : l = m := by
      refine row_uniq l m _ _ _ _ s5 u5 (fun t => ?_)
      by_cases c : t < s.b
      · rw [row_lt l _ _ t s5 c, row_lt m _ _ t u5 (by omega)]
      · have := ht t
        rwa [row_cons_ge (by omega), row_cons_ge (by omega)] at this
    cases s
    cases u
    simp only at ea eb ek
    subst ea eb ek el
    rfl

/-! ### steps -/
/-- What holds at t: the last step's, or what held before. -/
def val : List (Int × Int) → Int → Int → Int
  | [], now, _ => now
  | x :: r, now, t => if x.1 ≤ t then val r x.2 t else now
def sweep : List (Int × Int) → Int → Int → List Sp
  | [], _, _ => []
  | x :: r, now, at_ => if x.2 = now then sweep r now at_ else if 0 < now then ⟨at_, x.1, now⟩ :: sweep r x.2 x.1 else sweep r x.2 x.1
theorem sweep_cons (x : Int × Int) (r : List (Int × Int)) (now at_ : Int) : sweep (x :: r) now at_ = if x.2 = now then sweep r now at_ else if 0 < now then ⟨at_, x.1, now⟩ :: sweep r x.2 x.1 else sweep r x.2 x.1 := rfl
/-- Times rise, from behind lo on; no kind is below 0. -/
def Inc : Int → List (Int × Int) → Prop
  | _, [] => True
  | lo, x :: r => lo < x.1 ∧ 0 ≤ x.2 ∧ Inc x.1 r
/-- At the end there is nothing. -/
def Ends : List (Int × Int) → Int → Prop
  | [], now => now = 0
  | x :: r, _ => Ends r x.2

theorem val_lt : ∀ (st : List (Int × Int)) (now lo t : Int), Inc lo st → t ≤ lo → val st now t = now
  | [], _, _, _, _, _ => rfl
  | x :: r, now, lo, t, h, ht => by
    obtain ⟨h1, _, _⟩ := h
    unfold val
    rw [if_neg (by omega)]

theorem inc_lower : ∀ (st : List (Int × Int)) (lo lo' : Int), Inc lo st → lo' ≤ lo → Inc lo' st
  | [], _, _, _, _ => trivial
  | _ :: _, _, _, h, ht => ⟨by have := h.1; omega, h.2.1, h.2.2⟩

theorem sweep_row : ∀ (st : List (Int × Int)) (now at_ : Int), Inc at_ st → 0 ≤ now →
    (0 < now → ∀ kk, kk ≠ now → Row at_ kk (sweep st now at_)) ∧ (now = 0 → ∀ lo a0 kk, lo ≤ at_ → Row lo kk (sweep st 0 a0))
  | [], _, _, _, _ => ⟨fun _ _ _ => trivial, fun _ _ _ _ _ => trivial⟩
  | x :: r, now, at_, h, hn => by
    obtain ⟨h1, h2, h3⟩ := h
    have ih := sweep_row r x.2 x.1 h3 h2
    have ih0 := sweep_row r now at_ (inc_lower r _ _ h3 (by omega)) hn
    constructor
    · intro hp kk hk
      unfold sweep
      by_cases c : x.2 = now
      · rw [if_pos c]
        exact ih0.1 hp kk hk
      · rw [if_neg c, if_pos hp]
        refine ⟨Int.le_refl _, fun _ => hk, h1, hp, ?_⟩
        by_cases c0 : x.2 = 0
        · have := ih.2 c0 x.1 x.1 now (Int.le_refl _)
          rwa [c0]
        · exact ih.1 (by omega) now (by omega)
    · intro e lo a0 kk hl
      subst e
      unfold sweep
      by_cases c : x.2 = 0
      · rw [if_pos c]
        exact ih0.2 rfl lo a0 kk hl
      · rw [if_neg c, if_neg (by omega)]
        have hr : ∀ kk', kk' ≠ x.2 → Row x.1 kk' (sweep r x.2 x.1) := ih.1 (by omega)
        have h0 := hr 0 (by omega)
        revert h0
        generalize sweep r x.2 x.1 = z
        intro h0
        cases z with
        | nil => trivial
        | cons s l =>
          obtain ⟨g1, _, g3, g4, g5⟩ := h0
          exact ⟨by omega, fun e' => by omega, g3, g4, g5⟩

theorem sweep_kmax : ∀ (st : List (Int × Int)) (now at_ : Int), Inc at_ st → 0 ≤ now → Ends st now →
    (0 < now → ∀ t, kmax (sweep st now at_) t = if t < at_ then 0 else val st now t) ∧ (now = 0 → ∀ a0 t, kmax (sweep st 0 a0) t = val st 0 t)
  | [], now, _, _, _, he => ⟨fun hp => by unfold Ends at he; omega, fun _ _ _ => rfl⟩
  | x :: r, now, at_, h, hn, he => by
    have hI : Inc at_ (x :: r) := h
    obtain ⟨h1, h2, h3⟩ := h
    have ih := sweep_kmax r x.2 x.1 h3 h2 he
    have rw_ := sweep_row r x.2 x.1 h3 h2
    have hr1 := inc_lower r _ at_ h3 (by omega)
    constructor
    · intro hp t
      conv => rhs; unfold val
      by_cases c : x.2 = now
      · have hs : sweep (x :: r) now at_ = sweep r now at_ := by rw [sweep_cons, if_pos c]
        rw [hs, (sweep_kmax r now at_ hr1 hn (c ▸ he)).1 hp t]
        by_cases ct : t < at_
        · rw [if_pos ct, if_pos ct]
        · rw [if_neg ct, if_neg ct]
          by_cases cx : x.1 ≤ t
          · rw [if_pos cx, c]
          · rw [if_neg cx]
            exact val_lt r now x.1 t h3 (by omega)
      · have hs : sweep (x :: r) now at_ = ⟨at_, x.1, now⟩ :: sweep r x.2 x.1 := by rw [sweep_cons, if_neg c, if_pos hp]
        rw [hs]
        have hR : Row at_ 0 (⟨at_, x.1, now⟩ :: sweep r x.2 x.1) := by
          have := (sweep_row (x :: r) now at_ hI hn).1 hp 0 (by omega)
          rwa [hs] at this
        by_cases cx : x.1 ≤ t
        · rw [row_cons_ge cx, if_neg (by omega), if_pos cx]
          by_cases c0 : x.2 = 0
          · rw [c0]
            exact ih.2 c0 x.1 t
          · rw [ih.1 (by omega) t, if_neg (by omega)]
        · rw [row_cons hR (by show t < x.1; omega)]
          show (if at_ ≤ t then now else 0) = _
          by_cases ct : t < at_
          · rw [if_neg (by omega), if_pos ct]
          · rw [if_pos (by omega), if_neg ct, if_neg cx]
    · intro e a0 t
      subst e
      conv => rhs; unfold val
      by_cases c : x.2 = 0
      · have hs : sweep (x :: r) 0 a0 = sweep r 0 a0 := by rw [sweep_cons, if_pos c]
        rw [hs, (sweep_kmax r 0 at_ hr1 hn (c ▸ he)).2 rfl a0 t]
        by_cases cx : x.1 ≤ t
        · rw [if_pos cx, c]
        · rw [if_neg cx]
          exact val_lt r 0 x.1 t h3 (by omega)
      · have hs : sweep (x :: r) 0 a0 = sweep r x.2 x.1 := by rw [sweep_cons, if_neg c, if_neg (by omega)]
        rw [hs, ih.1 (by omega) t]
        by_cases cx : x.1 ≤ t
        · rw [if_neg (by omega), if_pos cx]
        · rw [if_pos (by omega), if_neg cx]

/-! ### edges, counted -/
structure Ed where
  t : Int
  k : Int
  m : Int

/-- How many of kind k lie open at t. -/
def cnt : List Ed → Int → Int → Int
  | [], _, _ => 0
  | e :: r, k, t => (if e.k = k ∧ e.t ≤ t then e.m else 0) + cnt r k t

def edges : List Sp → List Ed
  | [] => []
  | s :: l => ⟨s.a, s.k, 1⟩ :: ⟨s.b, s.k, -1⟩ :: edges l

def top4 (c1 c2 c3 : Int) : Int := if 0 < c3 then 3 else if 0 < c2 then 2 else if 0 < c1 then 1 else 0

def ok (s : Sp) : Prop := s.a < s.b ∧ 1 ≤ s.k ∧ s.k ≤ 3

theorem cnt_nonneg : ∀ (l : List Sp) (k t : Int), (∀ s, s ∈ l → ok s) → 0 ≤ cnt (edges l) k t
  | [], _, _, _ => Int.le_refl _
  | s :: l, k, t, h => by
    have ih := cnt_nonneg l k t (fun x hx => h x (List.mem_cons_of_mem _ hx))
    obtain ⟨h1, _, _⟩ := h s List.mem_cons_self
    simp only [edges, cnt]
    split <;> split <;> omega

theorem cnt_pos : ∀ (l : List Sp) (k t : Int), (∀ s, s ∈ l → ok s) → (0 < cnt (edges l) k t ↔ ∃ s, s ∈ l ∧ s.k = k ∧ s.a ≤ t ∧ t < s.b)
  | [], _, _, _ => by simp [edges, cnt]
  | s :: l, k, t, h => by
    have hl : ∀ x, x ∈ l → ok x := fun x hx => h x (List.mem_cons_of_mem _ hx)
    have ih := cnt_pos l k t hl
    have hn := cnt_nonneg l k t hl
    obtain ⟨h1, _, _⟩ := h s List.mem_cons_self
    have e : cnt (edges (s :: l)) k t = (if s.k = k ∧ s.a ≤ t ∧ t < s.b then 1 else 0) + cnt (edges l) k t := by
      simp only [edges, cnt]
      split <;> split <;> split <;> omega
    rw [e]
    constructor
    · intro hp
      by_cases c : s.k = k ∧ s.a ≤ t ∧ t < s.b
      · exact ⟨s, List.mem_cons_self, c⟩
      · rw [if_neg c] at hp
        obtain ⟨x, hx, hr⟩ := ih.mp (by omega)
        exact ⟨x, List.mem_cons_of_mem _ hx, hr⟩
    · rintro ⟨x, hx, hr⟩
      rcases List.mem_cons.mp hx with rfl | hx
      · rw [if_pos hr]; omega
      · have := ih.mpr ⟨x, hx, hr⟩
        split <;> omega

theorem kmax_ge : ∀ (l : List Sp) (t : Int) (s : Sp), s ∈ l → s.a ≤ t → t < s.b → s.k ≤ kmax l t
  | u :: l, t, s, h, h1, h2 => by
    rcases List.mem_cons.mp h with rfl | h
    · unfold kmax
      split <;> omega
    · have := kmax_ge l t s h h1 h2
      unfold kmax
      split <;> omega

theorem kmax_mem : ∀ (l : List Sp) (t : Int), kmax l t = 0 ∨ ∃ s, s ∈ l ∧ s.k = kmax l t ∧ s.a ≤ t ∧ t < s.b
  | [], _ => .inl rfl
  | u :: l, t => by
    unfold kmax
    split
    · rename_i c
      exact .inr ⟨u, List.mem_cons_self, rfl, c.1, c.2.1⟩
    · rcases kmax_mem l t with h | ⟨s, h, hr⟩
      · exact .inl h
      · exact .inr ⟨s, List.mem_cons_of_mem _ h, hr⟩

theorem top_kmax (l : List Sp) (t : Int) (h : ∀ s, s ∈ l → ok s) : top4 (cnt (edges l) 1 t) (cnt (edges l) 2 t) (cnt (edges l) 3 t) = kmax l t := by
  have h1 := cnt_pos l 1 t h
  have h2 := cnt_pos l 2 t h
  have h3 := cnt_pos l 3 t h
  have hm := kmax_mem l t
  have hn := kmax_nonneg l t
  have hle : kmax l t ≤ 3 := by
    rcases hm with e | ⟨s, hs, e, _⟩
    · omega
    · have := (h s hs).2.2
      omega
  have up : ∀ k, 0 < cnt (edges l) k t → k ≤ kmax l t := by
    intro k hk
    obtain ⟨s, hs, e, c⟩ := (cnt_pos l k t h).mp hk
    have := kmax_ge l t s hs c.1 c.2
    omega
  have dn : 0 < kmax l t → 0 < cnt (edges l) (kmax l t) t := by
    intro hk
    rcases hm with e | ⟨s, hs, e, c⟩
    · omega
    · exact (cnt_pos l (kmax l t) t h).mpr ⟨s, hs, e, c⟩
  have u1 := up 1
  have u2 := up 2
  have u3 := up 3
  unfold top4
  have hc : kmax l t = 0 ∨ kmax l t = 1 ∨ kmax l t = 2 ∨ kmax l t = 3 := by omega
  rcases hc with e | e | e | e <;> rw [e] at dn u1 u2 u3 ⊢ <;> (split; omega; split; omega; split <;> omega)

theorem cnt_perm {E F : List Ed} (h : E.Perm F) (k t : Int) : cnt E k t = cnt F k t := by
  induction h with
  | nil => rfl
  | cons x _ ih => simp only [cnt, ih]
  | swap x y l => simp only [cnt]; omega
  | trans _ _ h1 h2 => exact h1.trans h2

/-! ### the program's sweep over sorted edges -/
/-- What is counted behind an edge. -/
def upd (k m : Int) (e : Ed) (c : Int) : Int := if e.k = k then c + m else c
def next (e : Ed) (r : List Ed) : Bool := match r with | [] => false | f :: _ => f.t == e.t
def prog : List Ed → Int → Int → Int → Int → Int → List Sp
  | [], _, _, _, _, _ => []
  | e :: r, c1, c2, c3, now, at_ =>
    if next e r = true then prog r (upd 1 e.m e c1) (upd 2 e.m e c2) (upd 3 e.m e c3) now at_
    else if top4 (upd 1 e.m e c1) (upd 2 e.m e c2) (upd 3 e.m e c3) = now then prog r (upd 1 e.m e c1) (upd 2 e.m e c2) (upd 3 e.m e c3) now at_
    else if 0 < now then ⟨at_, e.t, now⟩ :: prog r (upd 1 e.m e c1) (upd 2 e.m e c2) (upd 3 e.m e c3) (top4 (upd 1 e.m e c1) (upd 2 e.m e c2) (upd 3 e.m e c3)) e.t
    else prog r (upd 1 e.m e c1) (upd 2 e.m e c2) (upd 3 e.m e c3) (top4 (upd 1 e.m e c1) (upd 2 e.m e c2) (upd 3 e.m e c3)) e.t
def steps : List Ed → Int → Int → Int → List (Int × Int)
  | [], _, _, _ => []
  | e :: r, c1, c2, c3 =>
    if next e r = true then steps r (upd 1 e.m e c1) (upd 2 e.m e c2) (upd 3 e.m e c3)
    else (e.t, top4 (upd 1 e.m e c1) (upd 2 e.m e c2) (upd 3 e.m e c3)) :: steps r (upd 1 e.m e c1) (upd 2 e.m e c2) (upd 3 e.m e c3)
/-- Sorted by time. -/
def Srt : List Ed → Prop
  | [] => True
  | e :: r => (∀ f, f ∈ r → e.t ≤ f.t) ∧ Srt r

theorem prog_steps : ∀ (E : List Ed) (c1 c2 c3 now at_ : Int), prog E c1 c2 c3 now at_ = sweep (steps E c1 c2 c3) now at_
  | [], _, _, _, _, _ => rfl
  | e :: r, c1, c2, c3, now, at_ => by
    unfold prog steps
    by_cases h : next e r = true
    · rw [if_pos h, if_pos h]
      exact prog_steps r _ _ _ _ _
    · rw [if_neg h, if_neg h]
      unfold sweep
      rw [prog_steps r, prog_steps r]

theorem top4_nonneg (a b c : Int) : 0 ≤ top4 a b c := by
  unfold top4
  split <;> (try split) <;> (try split) <;> omega

theorem steps_inc : ∀ (E : List Ed) (c1 c2 c3 lo : Int), Srt E → (∀ f, f ∈ E → lo < f.t) → Inc lo (steps E c1 c2 c3)
  | [], _, _, _, _, _, _ => trivial
  | e :: r, c1, c2, c3, lo, hs, hl => by
    obtain ⟨h1, h2⟩ := hs
    have hlr : ∀ f, f ∈ r → lo < f.t := fun f hf => hl f (List.mem_cons_of_mem _ hf)
    unfold steps
    by_cases h : next e r = true
    · rw [if_pos h]
      exact steps_inc r _ _ _ lo h2 hlr
    · rw [if_neg h]
      refine ⟨hl e List.mem_cons_self, top4_nonneg _ _ _, steps_inc r _ _ _ _ h2 ?_⟩
      show ∀ f, f ∈ r → e.t < f.t
      cases r with
      | nil => intro f hf; cases hf
      | cons g r' =>
        have hg : ¬ g.t = e.t := by simpa [next] using h
        have hge := h1 g List.mem_cons_self
        intro f hf
        rcases List.mem_cons.mp hf with rfl | hf
        · omega
        · have := h2.1 f hf
          omega

theorem cnt_cons_upd (e : Ed) (r : List Ed) (k c t : Int) (ht : e.t ≤ t) : upd k e.m e c + cnt r k t = c + cnt (e :: r) k t := by
  simp only [upd, cnt]
  by_cases h : e.k = k
  · rw [if_pos h, if_pos ⟨h, ht⟩]; omega
  · rw [if_neg h, if_neg (by omega)]; omega

theorem cnt_lt (E : List Ed) (k t : Int) (h : ∀ f, f ∈ E → t < f.t) : cnt E k t = 0 := by
  induction E with
  | nil => rfl
  | cons e r ih =>
    have := h e List.mem_cons_self
    simp only [cnt]
    rw [if_neg (by omega), ih (fun f hf => h f (List.mem_cons_of_mem _ hf))]
    rfl

theorem steps_val : ∀ (E : List Ed) (c1 c2 c3 : Int), Srt E → ∀ t now, now = top4 c1 c2 c3 →
    val (steps E c1 c2 c3) now t = top4 (c1 + cnt E 1 t) (c2 + cnt E 2 t) (c3 + cnt E 3 t)
  | [], c1, c2, c3, _, t, now, e => by simp [steps, val, cnt, e]
  | e :: r, c1, c2, c3, hs, t, now, he => by
    have hs' := hs
    obtain ⟨h1, h2⟩ := hs
    by_cases ht : e.t ≤ t
    · rw [← cnt_cons_upd e r 1 c1 t ht, ← cnt_cons_upd e r 2 c2 t ht, ← cnt_cons_upd e r 3 c3 t ht]
      unfold steps
      by_cases h : next e r = true
      · rw [if_pos h]
        -- the next one is at the same time: what held before is of no matter
        cases r with
        | nil => simp [next] at h
        | cons g r' =>
          have hg : g.t = e.t := by simpa [next] using h
          have hany : ∀ (E : List Ed) (d1 d2 d3 : Int), Srt E → (∃ f, f ∈ E ∧ f.t ≤ t) → ∀ n1 n2, val (steps E d1 d2 d3) n1 t = val (steps E d1 d2 d3) n2 t := by
            intro E
            induction E with
            | nil => intro _ _ _ _ hx; obtain ⟨f, hf, _⟩ := hx; cases hf
            | cons f F ihF =>
              intro d1 d2 d3 hS hx n1 n2
              unfold steps
              by_cases hn : next f F = true
              · rw [if_pos hn]
                refine ihF _ _ _ hS.2 ?_ n1 n2
                cases F with
                | nil => simp [next] at hn
                | cons g' F' =>
                  have hg' : g'.t = f.t := by simpa [next] using hn
                  obtain ⟨x, hx1, hx2⟩ := hx
                  rcases List.mem_cons.mp hx1 with rfl | hx1
                  · exact ⟨g', List.mem_cons_self, by omega⟩
                  · exact ⟨x, hx1, hx2⟩
              · rw [if_neg hn]
                have hf : f.t ≤ t := by
                  obtain ⟨x, hx1, hx2⟩ := hx
                  rcases List.mem_cons.mp hx1 with rfl | hx1
                  · exact hx2
                  · have := hS.1 x hx1; omega
                unfold val
                rw [if_pos hf, if_pos hf]
          rw [hany (g :: r') _ _ _ h2 ⟨g, List.mem_cons_self, by omega⟩ now _]
          exact steps_val (g :: r') _ _ _ h2 t _ rfl
      · rw [if_neg h]
        unfold val
        rw [if_pos ht]
        exact steps_val r _ _ _ h2 t _ rfl
    · have hlt : ∀ f, f ∈ e :: r → t < f.t := by
        intro f hf
        rcases List.mem_cons.mp hf with rfl | hf
        · omega
        · have := h1 f hf; omega
      rw [cnt_lt _ 1 t hlt, cnt_lt _ 2 t hlt, cnt_lt _ 3 t hlt, val_lt _ now t t (steps_inc (e :: r) c1 c2 c3 t hs' hlt) (Int.le_refl _), he]
      simp

theorem ends_of_val : ∀ (st : List (Int × Int)) (now lo : Int), Inc lo st → (∀ T, (∀ x, x ∈ st → x.1 ≤ T) → lo ≤ T → val st now T = 0) → Ends st now
  | [], now, lo, _, h => h lo (fun _ hx => by cases hx) (Int.le_refl _)
  | x :: r, now, lo, hI, h => by
    obtain ⟨h1, _, h3⟩ := hI
    refine ends_of_val r x.2 x.1 h3 (fun T hT hl => ?_)
    have := h T (fun y hy => by rcases List.mem_cons.mp hy with rfl | hy; exact hl; exact hT y hy) (by omega)
    unfold val at this
    rwa [if_pos hl] at this

theorem kmax_out (l : List Sp) (T : Int) (h : ∀ s, s ∈ l → s.b ≤ T) : kmax l T = 0 := by
  induction l with
  | nil => rfl
  | cons s l ih =>
    have := h s List.mem_cons_self
    unfold kmax
    rw [if_neg (by omega)]
    exact ih (fun x hx => h x (List.mem_cons_of_mem _ hx))
theorem kmax_ahead (l : List Sp) (T : Int) (h : ∀ s, s ∈ l → T < s.a) : kmax l T = 0 := by
  induction l with
  | nil => rfl
  | cons s l ih =>
    have := h s List.mem_cons_self
    unfold kmax
    rw [if_neg (by omega)]
    exact ih (fun x hx => h x (List.mem_cons_of_mem _ hx))

theorem mem_edges : ∀ (l : List Sp) (e : Ed), e ∈ edges l → ∃ s, s ∈ l ∧ (e.t = s.a ∨ e.t = s.b)
  | s :: l, e, h => by
    simp only [edges, List.mem_cons] at h
    rcases h with rfl | rfl | h
    · exact ⟨s, List.mem_cons_self, .inl rfl⟩
    · exact ⟨s, List.mem_cons_self, .inr rfl⟩
    · obtain ⟨x, hx, hr⟩ := mem_edges l e h
      exact ⟨x, List.mem_cons_of_mem _ hx, hr⟩

/-- WHAT THE PROGRAM's SWEEP COMES TO. -/
theorem prog_row (l : List Sp) (E : List Ed) (h : ∀ s, s ∈ l → ok s) (hp : E.Perm (edges l)) (hs : Srt E) (lo : Int) (hlo : ∀ s, s ∈ l → lo < s.a) :
    Row lo 0 (prog E 0 0 0 0 0) ∧ ∀ t, kmax (prog E 0 0 0 0 0) t = kmax l t := by
  have hE : ∀ f, f ∈ E → lo < f.t := by
    intro f hf
    obtain ⟨s, hs1, hs2⟩ := mem_edges l f (hp.mem_iff.mp hf)
    have := hlo s hs1
    have := (h s hs1).1
    omega
  have hI := steps_inc E 0 0 0 lo hs hE
  have hv : ∀ t, val (steps E 0 0 0) 0 t = kmax l t := by
    intro t
    rw [steps_val E 0 0 0 hs t 0 rfl, cnt_perm hp, cnt_perm hp, cnt_perm hp, ← top_kmax l t h]
    simp
  have hend : Ends (steps E 0 0 0) 0 := by
    refine ends_of_val _ _ _ hI (fun T hT hl => ?_)
    -- the last time: nothing begins behind it, nothing lies open
    have key : ∀ T', T ≤ T' → val (steps E 0 0 0) 0 T' = val (steps E 0 0 0) 0 T := by
      have g : ∀ (st : List (Int × Int)) (now : Int), (∀ x, x ∈ st → x.1 ≤ T) → ∀ T', T ≤ T' → val st now T' = val st now T := by
        intro st
        induction st with
        | nil => intro _ _ _ _; rfl
        | cons x r ih =>
          intro now hx T' hT'
          have := hx x List.mem_cons_self
          unfold val
          rw [if_pos (by omega), if_pos this]
          exact ih _ (fun y hy => hx y (List.mem_cons_of_mem _ hy)) T' hT'
      exact g _ _ hT
    obtain ⟨M, hM⟩ : ∃ M, ∀ s, s ∈ l → s.b ≤ M := by
      clear h hp hlo hE hv key hT
      induction l with
      | nil => exact ⟨0, fun _ h => by cases h⟩
      | cons s l ih =>
        obtain ⟨M, hM⟩ := ih
        refine ⟨if M < s.b then s.b else M, fun x hx => ?_⟩
        rcases List.mem_cons.mp hx with rfl | hx
        · split <;> omega
        · have := hM x hx
          split <;> omega
    have := key (if M < T then T else M) (by split <;> omega)
    rw [← this, hv]
    exact kmax_out l _ (fun s hs' => by have := hM s hs'; split <;> omega)
  rw [prog_steps]
  refine ⟨(sweep_row _ 0 lo hI (Int.le_refl _)).2 rfl lo 0 0 (Int.le_refl _), fun t => ?_⟩
  rw [(sweep_kmax _ 0 lo hI (Int.le_refl _) hend).2 rfl 0 t, hv]

/-! ### sorted, some way -/
def ins (e : Ed) : List Ed → List Ed
  | [] => [e]
  | f :: r => if e.t ≤ f.t then e :: f :: r else f :: ins e r
def isort : List Ed → List Ed
  | [] => []
  | e :: r => ins e (isort r)
theorem ins_perm (e : Ed) : ∀ (l : List Ed), (ins e l).Perm (e :: l)
  | [] => List.Perm.refl _
  | f :: r => by
    unfold ins
    split
    · exact List.Perm.refl _
    · exact ((ins_perm e r).cons f).trans (List.Perm.swap e f r)
theorem ins_srt (e : Ed) : ∀ (l : List Ed), Srt l → Srt (ins e l)
  | [], _ => by
    show (∀ x : Ed, x ∈ ([] : List Ed) → e.t ≤ x.t) ∧ True
    exact ⟨(fun _ h => by cases h), trivial⟩
  | f :: r, h => by
    obtain ⟨h1, h2⟩ := h
    unfold ins
    split
    · rename_i c
      show (∀ x : Ed, x ∈ f :: r → e.t ≤ x.t) ∧ (∀ x : Ed, x ∈ r → f.t ≤ x.t) ∧ Srt r
      refine ⟨fun x hx => ?_, h1, h2⟩
      rcases List.mem_cons.mp hx with rfl | hx
      · exact c
      · have := h1 x hx; omega
    · rename_i c
      show (∀ x : Ed, x ∈ ins e r → f.t ≤ x.t) ∧ Srt (ins e r)
      refine ⟨fun x hx => ?_, ins_srt e r h2⟩
      rcases List.mem_cons.mp ((ins_perm e r).mem_iff.mp hx) with rfl | hx
      · omega
      · exact h1 x hx
theorem isort_perm : ∀ (l : List Ed), (isort l).Perm l
  | [] => List.Perm.refl _
  | e :: r => (ins_perm e (isort r)).trans ((isort_perm r).cons e)
theorem isort_srt : ∀ (l : List Ed), Srt (isort l)
  | [] => trivial
  | e :: r => ins_srt e _ (isort_srt r)
/-- What spans come to, spread out. -/
def spread (l : List Sp) : List Sp := prog (isort (edges l)) 0 0 0 0 0
theorem spread_row (l : List Sp) (h : ∀ s, s ∈ l → ok s) (lo : Int) (hlo : ∀ s, s ∈ l → lo < s.a) : Row lo 0 (spread l) ∧ ∀ t, kmax (spread l) t = kmax l t :=
  prog_row l _ h (isort_perm _) (isort_srt _) lo hlo
theorem spread_any (l : List Sp) (E : List Ed) (h : ∀ s, s ∈ l → ok s) (hp : E.Perm (edges l)) (hs : Srt E) (lo : Int) (hlo : ∀ s, s ∈ l → lo < s.a) : prog E 0 0 0 0 0 = spread l := by
  obtain ⟨h1, h2⟩ := prog_row l E h hp hs lo hlo
  obtain ⟨h3, h4⟩ := spread_row l h lo hlo
  exact row_uniq _ _ _ _ _ _ h1 h3 (fun t => (h2 t).trans (h4 t).symm)

end Go.Proofs.Ytalepohjmjlndaa.Math

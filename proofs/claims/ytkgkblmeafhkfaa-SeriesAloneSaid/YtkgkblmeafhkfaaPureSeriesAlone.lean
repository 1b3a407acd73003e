/- SeriesAlone: its plain law. -/
import Derived.Test.YtkgkblmeafhkfaaCore
import Derived.Test.YtkgkblmeafhkfaaAlive
import Derived.Test.YtkgkblmeafhkfaaPSx21
set_option linter.unusedVariables false
namespace Go.Proofs.Ytkgkblmeafhkfaa.PureAlone
open Go.RowKit Go.Proofs.YtkgkblmeafhkfaaW.PrintWords Go.Proofs.YtkgkblmeafhkfaaW.PrintLast Go.Proofs.YtkgkblmeafhkfaaW.PrintMore Go.Proofs.Ytkgkblmeafhkfaa.PS Go.Proofs.Ytkgkblmeafhkfaa.Cal Go.Proofs.Ytkgkblmeafhkfaa.Base Go.Proofs.Ytkgkblmeafhkfaa.Match Go.Proofs.Ytkgkblmeafhkfaa.Times Go.Proofs.Ytkgkblmeafhkfaa.Insts Go.Proofs.Ytkgkblmeafhkfaa.Core

theorem ev_one {α : Type} {g : Nat → Option α} {a b : α} (h1 : Ev g a) (h2 : Ev g b) : a = b := by
  obtain ⟨K1, h1⟩ := h1
  obtain ⟨K2, h2⟩ := h2
  have e1 := h1 (max K1 K2) (Nat.le_max_left _ _)
  have e2 := h2 (max K1 K2) (Nat.le_max_right _ _)
  exact Option.some.inj (e1.symm.trans e2)
theorem great_some (s0 s1 : Int) (s2 : Bool) (r0 r1 r2 r3 : Int) (l7 l8 : List Int) (l9 : List S78) (l10 l11 : List Int) (l12 : List S39) (t : Int) : ∃ b, posthornlaw23_Great.f s0 s1 s2 r0 r1 r2 r3 l7 l8 l9 l10 l11 l12 t = some b := by
  unfold posthornlaw23_Great.f posthornlaw21_Great.f
  split <;> simp only [Option.bind_some] <;> repeat' (first | exact ⟨_, rfl⟩ | split)
theorem great_late {s0 s1 : Int} {s2 : Bool} {r0 r1 r2 r3 : Int} {l7 l8 : List Int} {l9 : List S78} {l10 l11 : List Int} {l12 : List S39} {t : Int} (h : posthornlaw23_Great.f s0 s1 s2 r0 r1 r2 r3 l7 l8 l9 l10 l11 l12 t = some false) : t ≤ 4294967296 := by
  rcases Int.lt_or_le 4294967296 t with c | c
  · exfalso
    revert h
    unfold posthornlaw23_Great.f posthornlaw21_Great.f
    have e : decide (t > 4294967296) = true := decide_eq_true c
    split <;> simp only [Option.bind_some] <;> repeat' (first | (simp only [e]; done) | (simp [e]; done) | split)
  · exact c

/-! ### one change put into its place -/
def put1 (c : S39) : Bool → List S39 → List S39
  | b, [] => if b = true then [] else [c]
  | b, x :: xs => if b = true then (if x.f0 = c.f0 then put1 c true xs else x :: put1 c true xs)
    else if x.f0 ≥ c.f0 then (if x.f0 = c.f0 then c :: put1 c true xs else c :: x :: put1 c true xs) else x :: put1 c false xs
theorem put1_mem (c : S39) : ∀ (l : List S39) (b : Bool) (x : S39), x ∈ put1 c b l ↔ (b = false ∧ x = c) ∨ (x ∈ l ∧ x.f0 ≠ c.f0) := by
  intro l
  induction l with
  | nil => intro b x; cases b <;> simp [put1]
  | cons y l ih =>
    intro b x
    unfold put1
    cases b with
    | true =>
      by_cases e : y.f0 = c.f0
      · rw [if_pos rfl, if_pos e, ih]
        constructor
        · rintro (⟨h, _⟩ | ⟨h, h'⟩)
          · cases h
          · exact .inr ⟨List.mem_cons_of_mem _ h, h'⟩
        · rintro (⟨h, _⟩ | ⟨h, h'⟩)
          · cases h
          · rcases List.mem_cons.1 h with rfl | h
            · exact absurd e h'
            · exact .inr ⟨h, h'⟩
      · rw [if_pos rfl, if_neg e, List.mem_cons, ih, List.mem_cons]
        constructor
        · rintro (rfl | ⟨h, _⟩ | ⟨h, h'⟩)
          · exact .inr ⟨.inl rfl, e⟩
          · cases h
          · exact .inr ⟨.inr h, h'⟩
        · rintro (⟨h, _⟩ | ⟨rfl | h, h'⟩)
          · cases h
          · exact .inl rfl
          · exact .inr (.inr ⟨h, h'⟩)
    | false =>
      rw [if_neg (by decide)]
      by_cases g : y.f0 ≥ c.f0
      · rw [if_pos g]
        by_cases e : y.f0 = c.f0
        · rw [if_pos e, List.mem_cons, ih, List.mem_cons]
          constructor
          · rintro (rfl | ⟨h, _⟩ | ⟨h, h'⟩)
            · exact .inl ⟨rfl, rfl⟩
            · cases h
            · exact .inr ⟨.inr h, h'⟩
          · rintro (⟨_, rfl⟩ | ⟨rfl | h, h'⟩)
            · exact .inl rfl
            · exact absurd e h'
            · exact .inr (.inr ⟨h, h'⟩)
        · rw [if_neg e, List.mem_cons, List.mem_cons, ih, List.mem_cons]
          constructor
          · rintro (rfl | rfl | ⟨h, _⟩ | ⟨h, h'⟩)
            · exact .inl ⟨rfl, rfl⟩
            · exact .inr ⟨.inl rfl, e⟩
            · cases h
            · exact .inr ⟨.inr h, h'⟩
          · rintro (⟨_, rfl⟩ | ⟨rfl | h, h'⟩)
            · exact .inl rfl
            · exact .inr (.inl rfl)
            · exact .inr (.inr (.inr ⟨h, h'⟩))
      · rw [if_neg g, List.mem_cons, ih, List.mem_cons]
        constructor
        · rintro (rfl | ⟨_, rfl⟩ | ⟨h, h'⟩)
          · exact .inr ⟨.inl rfl, by omega⟩
          · exact .inl ⟨rfl, rfl⟩
          · exact .inr ⟨.inr h, h'⟩
        · rintro (⟨_, rfl⟩ | ⟨rfl | h, h'⟩)
          · exact .inr (.inl ⟨rfl, rfl⟩)
          · exact .inl rfl
          · exact .inr (.inr ⟨h, h'⟩)
theorem put1_len (c : S39) : ∀ (l : List S39) (b : Bool), (put1 c b l).length ≤ l.length + 1 ∧ (b = true → (put1 c b l).length ≤ l.length) := by
  intro l
  induction l with
  | nil => intro b; cases b <;> simp [put1]
  | cons y l ih =>
    intro b
    have h1 := (ih true).2 rfl
    have h2 := (ih false).1
    unfold put1
    cases b with
    | true =>
      rw [if_pos rfl]
      split <;> simp <;> omega
    | false =>
      rw [if_neg (by decide)]
      refine ⟨?_, fun h => by cases h⟩
      split
      · split <;> simp <;> omega
      · simp; omega
/-- Only what is told of c's original changes. -/
theorem put1_other {c : S39} {l12 : List S39} (h1 : (l12.map (·.f0)).Pairwise (· < ·)) (h2 : ((put1 c false l12).map (·.f0)).Pairwise (· < ·)) (t : Int) (ht : t ≠ c.f0) : changeOf (put1 c false l12) t = changeOf l12 t := by
  cases h : changeOf l12 t with
  | none =>
    rw [changeOf_none] at h ⊢
    intro x hx
    rcases (put1_mem c l12 false x).1 hx with ⟨_, rfl⟩ | ⟨hx, _⟩
    · exact fun e => ht e.symm
    · exact h x hx
  | some d =>
    obtain ⟨hd, rfl⟩ := changeOf_some h
    exact changeOf_mem h2 ((put1_mem c l12 false d).2 (.inr ⟨hd, ht⟩))
theorem put1_own {c : S39} {l12 : List S39} (h2 : ((put1 c false l12).map (·.f0)).Pairwise (· < ·)) : changeOf (put1 c false l12) c.f0 = some c :=
  changeOf_mem h2 ((put1_mem c l12 false c).2 (.inl ⟨rfl, rfl⟩))

/-! ### Set -/
section
variable (s0 s1 : Int) (s2 : Bool) (r0 r1 r2 r3 : Int) (l7 l8 : List Int) (l9 : List S78) (l10 l11 : List Int) (l12 : List S39) (c : S39)
/-- What Set says at its end. -/
def setEnd (R : Bool) (out : List S39) : Int × Int × Bool × Int × Int × Int × Int × List Int × List Int × (List S78) × List Int × List Int × (List S39) × Int :=
  if R = true then (s0, s1, s2, r0, r1, r2, r3, l7, l8, l9, l10, l11, out, 0) else (0, 0, false, 0, 0, 0, 0, ([] : List Int), ([] : List Int), ([] : List S78), ([] : List Int), ([] : List Int), ([] : List S39), 3)
theorem set_loop (hn : l12.length ≤ 256) (out : List S39) (R : Bool) (hR : Ev (fun k => series_Right.f k s0 s1 s2 r0 r1 r2 r3 l7 l8 l9 l10 l11 out) R) :
    ∀ (suf : List S39) (i : Nat) (b : Bool) (acc : List S39), l12.drop i = suf → acc ++ put1 c b suf = out → acc.length ≤ 2 * i → i ≤ l12.length →
      Ev (fun k => series_Set.l0 k b l12 (l12.length : Int) (i : Int) c.f0 c.f1 c.f2 c.f3 s0 s1 s2 r0 r1 r2 r3 l7 l8 l9 l10 l11 acc) (setEnd s0 s1 s2 r0 r1 r2 r3 l7 l8 l9 l10 l11 R out) := by
  have fin : ∀ o, o = out → Ev (fun k => (series_Right.f k s0 s1 s2 r0 r1 r2 r3 l7 l8 l9 l10 l11 o).bind fun t => if t = true then some (s0, s1, s2, r0, r1, r2, r3, l7, l8, l9, l10, l11, o, (0 : Int)) else some (0, 0, false, 0, 0, 0, 0, ([] : List Int), ([] : List Int), ([] : List S78), ([] : List Int), ([] : List Int), ([] : List S39), 3)) (setEnd s0 s1 s2 r0 r1 r2 r3 l7 l8 l9 l10 l11 R out) := by
    intro o ho
    subst ho
    refine Ev.bind hR ?_
    unfold setEnd
    cases R
    · exact Ev.now _
    · exact Ev.now _
  intro suf
  induction suf with
  | nil =>
    intro i b acc hd ha hl hil
    have h1 := drop_nil hd
    cases b with
    | true =>
      refine Ev.step (fun k => by simp only [series_Set.l0, if_true]; rw [if_neg (show ¬ ((i : Int) < (l12.length : Int)) by omega)]) (fin acc ?_)
      rw [← ha]; simp [put1]
    | false =>
      have hi : acc.length < 4398046511104 := by omega
      refine Ev.step (fun k => by simp only [series_Set.l0, Bool.false_eq_true, if_false, if_pos hi, Option.bind_some]; rw [if_neg (show ¬ ((i : Int) < (l12.length : Int)) by omega)]) (fin (acc ++ [c]) ?_)
      rw [← ha]; simp [put1]
  | cons o suf ih =>
    intro i b acc hd ha hl hil
    obtain ⟨hi, ho, hd'⟩ := get_drop (d := z39) hd
    have hw := wrapS hi (by omega)
    have ho' : rd_T39 l12 (i : Int) = o := ho
    have q1 : acc.length < 4398046511104 := by omega
    have q2 : (acc ++ [c]).length < 4398046511104 := by simp; omega
    have nxt := ih (i + 1)
    have step : ∀ p : Bool, Ev (fun k => series_Set.j2 k b l12 (l12.length : Int) (i : Int) p c.f0 c.f1 c.f2 c.f3 s0 s1 s2 r0 r1 r2 r3 l7 l8 l9 l10 l11 acc o.f0 o.f1 o.f2 o.f3) (setEnd s0 s1 s2 r0 r1 r2 r3 l7 l8 l9 l10 l11 R out) →
        (p = (if b = true then false else decide (o.f0 ≥ c.f0))) → Ev (fun k => series_Set.l0 k b l12 (l12.length : Int) (i : Int) c.f0 c.f1 c.f2 c.f3 s0 s1 s2 r0 r1 r2 r3 l7 l8 l9 l10 l11 acc) (setEnd s0 s1 s2 r0 r1 r2 r3 l7 l8 l9 l10 l11 R out) := by
      intro p hp hpe
      subst hpe
      refine Ev.step (fun k => ?_) hp
      simp only [series_Set.l0, ho']
      rw [if_pos (show (i : Int) < (l12.length : Int) by omega), if_pos (show (0 : Int) ≤ (i : Int) by omega), if_pos (show (i : Int) < (l12.length : Int) by omega)]
      cases b <;> rfl
    unfold put1 at ha
    cases b with
    | true =>
      refine step false ?_ rfl
      by_cases e : o.f0 = c.f0
      · rw [if_pos rfl, if_pos e] at ha
        refine Ev.step (fun k => by simp only [series_Set.j2, Bool.false_eq_true, if_false, if_pos e, hw]) (nxt true acc hd' ha (by omega) (by omega))
      · rw [if_pos rfl, if_neg e] at ha
        refine Ev.step (fun k => by simp only [series_Set.j2, Bool.false_eq_true, if_false, if_neg e, if_pos q1, hw]) (nxt true (acc ++ [o]) hd' (by rw [← ha]; simp) (by simp; omega) (by omega))
    | false =>
      rw [if_neg (by decide)] at ha
      by_cases g : o.f0 ≥ c.f0
      · rw [if_pos g] at ha
        refine step true ?_ (by rw [if_neg (by decide), decide_eq_true g])
        by_cases e : o.f0 = c.f0
        · rw [if_pos e] at ha
          refine Ev.step (fun k => by simp only [series_Set.j2, if_true, if_pos q1, Option.bind_some, if_pos e, hw]) (nxt true (acc ++ [c]) hd' (by rw [← ha]; simp) (by simp; omega) (by omega))
        · rw [if_neg e] at ha
          refine Ev.step (fun k => by simp only [series_Set.j2, if_true, if_pos q1, Option.bind_some, if_neg e, if_pos q2, hw]) (nxt true (acc ++ [c] ++ [o]) hd' (by rw [← ha]; simp) (by simp; omega) (by omega))
      · rw [if_neg g] at ha
        have e : ¬ o.f0 = c.f0 := by omega
        refine step false ?_ (by rw [if_neg (by decide), decide_eq_false g])
        refine Ev.step (fun k => by simp only [series_Set.j2, Bool.false_eq_true, if_false, if_neg e, if_pos q1, hw]) (nxt false (acc ++ [o]) hd' (by rw [← ha]; simp) (by simp; omega) (by omega))
/-- Set: whatever it is asked, an answer; and if all is well, the series but for the one change. -/
theorem set_fin (hs : Short l7 l8 l9 l10 l11 l12) (hc0 : -9223372036854775808 ≤ c.f0 ∧ c.f0 ≤ 4294967296) : Fin (fun k => series_Set.f k s0 s1 s2 r0 r1 r2 r3 l7 l8 l9 l10 l11 l12 c.f0 c.f1 c.f2 c.f3)
    (fun p => (p.2.2.2.2.2.2.2.2.2.2.2.2.2 ≠ 0 ∧ Short p.2.2.2.2.2.2.2.1 p.2.2.2.2.2.2.2.2.1 p.2.2.2.2.2.2.2.2.2.1 p.2.2.2.2.2.2.2.2.2.2.1 p.2.2.2.2.2.2.2.2.2.2.2.1 p.2.2.2.2.2.2.2.2.2.2.2.2.1) ∨ (p = (s0, s1, s2, r0, r1, r2, r3, l7, l8, l9, l10, l11, put1 c false l12, 0) ∧ okSeries s0 s1 s2 r0 r1 r2 r3 l7 l8 l9 l10 l11 l12 ∧ Ev (fun k => series_Right.f k s0 s1 s2 r0 r1 r2 r3 l7 l8 l9 l10 l11 l12) true ∧
      okSeries s0 s1 s2 r0 r1 r2 r3 l7 l8 l9 l10 l11 (put1 c false l12) ∧ Ev (fun k => series_Right.f k s0 s1 s2 r0 r1 r2 r3 l7 l8 l9 l10 l11 (put1 c false l12)) true)) := by
  obtain ⟨b, hb, hok⟩ := sright_fin s0 s1 s2 r0 r1 r2 r3 l7 l8 l9 l10 l11 l12 hs
  have bad : ∀ e : Int, e ≠ 0 → ((0, 0, false, 0, 0, 0, 0, [], [], [], [], [], [], e) : Int × Int × Bool × Int × Int × Int × Int × List Int × List Int × (List S78) × List Int × List Int × (List S39) × Int).2.2.2.2.2.2.2.2.2.2.2.2.2 ≠ 0 ∧ Short ([] : List Int) [] ([] : List S78) [] [] ([] : List S39) := fun e he => ⟨he, by simp, by simp, by simp, by simp, by simp, by simp⟩
  have ow : wrap64 (c.f0 + 1) = c.f0 + 1 := wrapI (by omega) (by omega)
  -- the originals, whatever they are
  have ho : Fin (fun k => series_Originals.f k s0 s1 s2 r0 r1 r2 r3 l7 l8 l9 l10 l11 l12 c.f0 (wrap64 (c.f0 + 1))) (fun _ => True) := by
    cases b with
    | false =>
      unfold series_Originals.f
      refine fin_bind (fin_ev hb (p := fun x => x = false) rfl) (fun x hx => ?_)
      subst hx
      simp only [Bool.false_eq_true, if_false]
      exact fin_now trivial
    | true =>
      by_cases w1 : 0 ≤ c.f0 ∧ c.f0 ≤ 253402300799
      · exact fin_mono (toriginals_fin s0 s1 s2 r0 r1 r2 r3 l7 l8 l9 l10 l11 l12 hs (hok rfl) hb c.f0 (wrap64 (c.f0 + 1)) w1 (by rw [ow]; omega)) (fun _ _ => trivial)
      · unfold series_Originals.f
        refine fin_bind (fin_ev hb (p := fun x => x = true) rfl) (fun x hx => ?_)
        subst hx
        have d1 : decide (0 ≤ c.f0 ∧ c.f0 ≤ 253402300799) = false := decide_eq_false w1
        simp only [when_f, Option.bind_some, if_true, d1, Bool.false_eq_true, if_false]
        refine fin_step (f := fun _ => some (([] : List Int), 110)) (fun k => ?_) (fin_now trivial)
        simp only [series_Originals.j0]
        rfl
  unfold series_Set.f
  refine fin_bind ho (fun bt _ => fin_bind (fin_ev hb (p := fun x => x = b) rfl) (fun x hx => ?_))
  subst hx
  cases x with
  | false =>
    simp only [Bool.false_eq_true, if_false]
    exact fin_now (.inl (bad 3 (by decide)))
  | true =>
    have ok := hok rfl
    simp only [if_true, when_f, Option.bind_some]
    have j0t : Fin (fun k => series_Set.j0 k bt.1 bt.2 true s0 s1 s2 r0 r1 r2 r3 l7 l8 l9 l10 l11 l12 c.f0 c.f1 c.f2 c.f3) (fun p => (p.2.2.2.2.2.2.2.2.2.2.2.2.2 ≠ 0 ∧ Short p.2.2.2.2.2.2.2.1 p.2.2.2.2.2.2.2.2.1 p.2.2.2.2.2.2.2.2.2.1 p.2.2.2.2.2.2.2.2.2.2.1 p.2.2.2.2.2.2.2.2.2.2.2.1 p.2.2.2.2.2.2.2.2.2.2.2.2.1) ∨ (p = (s0, s1, s2, r0, r1, r2, r3, l7, l8, l9, l10, l11, put1 c false l12, 0) ∧ okSeries s0 s1 s2 r0 r1 r2 r3 l7 l8 l9 l10 l11 l12 ∧ Ev (fun k => series_Right.f k s0 s1 s2 r0 r1 r2 r3 l7 l8 l9 l10 l11 l12) true ∧
      okSeries s0 s1 s2 r0 r1 r2 r3 l7 l8 l9 l10 l11 (put1 c false l12) ∧ Ev (fun k => series_Right.f k s0 s1 s2 r0 r1 r2 r3 l7 l8 l9 l10 l11 (put1 c false l12)) true)) := by
      refine fin_step (f := fun _ => some (0, 0, false, 0, 0, 0, 0, [], [], [], [], [], [], 4)) (fun k => ?_) (fin_now (.inl (bad 4 (by decide))))
      simp only [series_Set.j0, if_true]
    by_cases w1 : 0 ≤ c.f0 ∧ c.f0 ≤ 253402300799
    · rw [decide_eq_true w1]
      simp only [if_true]
      by_cases w2 : (c.f0 == 253402300799) = true
      · rw [w2]; exact j0t
      · rw [Bool.eq_false_iff.mpr w2]
        refine fin_step (fun k => by simp only [series_Set.j0, Bool.false_eq_true, if_false]; rfl) ?_
        refine fin_ite (fun e0 => fin_ite (fun _ => fin_now (.inl (bad 4 (by decide)))) (fun _ => ?_)) (fun e0 => fin_now (.inl (bad bt.2 e0)))
        have h12 : l12.length ≤ 256 := by have := ok.origs.few; rwa [List.length_map] at this
        have hs' : Short l7 l8 l9 l10 l11 (put1 c false l12) := ⟨hs.a, hs.b, hs.c, hs.d, hs.e, by have := (put1_len c l12 false).1; omega⟩
        obtain ⟨R, hR, hokR⟩ := sright_fin s0 s1 s2 r0 r1 r2 r3 l7 l8 l9 l10 l11 (put1 c false l12) hs'
        refine fin_ev (set_loop s0 s1 s2 r0 r1 r2 r3 l7 l8 l9 l10 l11 l12 c h12 (put1 c false l12) R hR l12 0 false [] rfl rfl (by simp) (Nat.zero_le _)) ?_
        cases R with
        | true => exact .inr ⟨rfl, ok, hb, hokR rfl, hR⟩
        | false => exact .inl (bad 3 (by decide))
    · rw [decide_eq_false w1]
      simp only [Bool.false_eq_true, if_false]
      exact j0t

/-! ### errors do not hang on the changes -/
theorem originals_same (l12' : List S39) (lo hi : Int) (k : Nat) : series_Series_originals.f k s0 s1 s2 r0 r1 r2 r3 l7 l8 l9 l10 l11 l12 lo hi = series_Series_originals.f k s0 s1 s2 r0 r1 r2 r3 l7 l8 l9 l10 l11 l12' lo hi := by
  have hj : ∀ ex, series_Series_originals.j0 k lo hi 0 ex s0 s1 s2 r0 r1 r2 r3 l7 l8 l9 l10 l11 l12 = series_Series_originals.j0 k lo hi 0 ex s0 s1 s2 r0 r1 r2 r3 l7 l8 l9 l10 l11 l12' := by
    intro ex
    cases k with
    | zero => simp only [series_Series_originals.j0]
    | succ k => simp only [series_Series_originals.j0]
  unfold series_Series_originals.f series_Series_originals.pre
  simp only [hj]
/-- The error of Instances, if the series may be: out of the window's and that of the originals. -/
def errOf (fr till : Int) (e : Int) : Int := if (0 ≤ fr ∧ fr ≤ 253402300799) ∧ (0 ≤ till ∧ till ≤ 253402300799) then (if mn (wrap64 (till + 2592000)) 253402300799 - s0 > 631152000 then 1 else e) else 110
theorem inst_err (hs : Short l7 l8 l9 l10 l11 l12) (ok : okSeries s0 s1 s2 r0 r1 r2 r3 l7 l8 l9 l10 l11 l12) (hr : Ev (fun k => series_Right.f k s0 s1 s2 r0 r1 r2 r3 l7 l8 l9 l10 l11 l12) true) (fr till : Int) (v : List Int × Int)
    (hv : (0 ≤ fr ∧ fr ≤ 253402300799) → (0 ≤ till ∧ till ≤ 253402300799) → ¬ mn (wrap64 (till + 2592000)) 253402300799 - s0 > 631152000 → Ev (fun k => series_Series_originals.f k s0 s1 s2 r0 r1 r2 r3 l7 l8 l9 l10 l11 l12 (mx (wrap64 (fr - 2592000)) 0) (mn (wrap64 (till + 2592000)) 253402300799)) v) :
    Fin (fun k => series_Instances.f k s0 s1 s2 r0 r1 r2 r3 l7 l8 l9 l10 l11 l12 fr till) (fun p => p.2 = errOf s0 fr till v.2) := by
  have jt : ¬ ((0 ≤ fr ∧ fr ≤ 253402300799) ∧ (0 ≤ till ∧ till ≤ 253402300799)) → Fin (fun k => series_Instances.j0 k fr till true s0 s1 s2 r0 r1 r2 r3 l7 l8 l9 l10 l11 l12) (fun p => p.2 = errOf s0 fr till v.2) := fun hw => by
    refine fin_step (f := fun _ => some ([], 110)) (fun k => ?_) (fin_now (by unfold errOf; rw [if_neg hw]))
    simp only [series_Instances.j0]
    rfl
  unfold series_Instances.f
  refine fin_bind (fin_ev hr (p := fun x => x = true) rfl) (fun x hx => ?_)
  subst hx
  simp only [if_true, when_f, Option.bind_some]
  refine fin_ite (fun c1 => ?_) (fun c1 => jt (fun hw => c1 (decide_eq_true hw.1)))
  have hf := of_decide_eq_true c1
  by_cases c2 : 0 ≤ till ∧ till ≤ 253402300799
  · rw [decide_eq_true c2]
    simp only [Bool.not_true]
    refine fin_step (fun k => by simp only [series_Instances.j0, Bool.false_eq_true, if_false]; rfl) ?_
    refine fin_bind (fin_ev hr (p := fun x => x = true) rfl) (fun x hx => ?_)
    subst hx
    simp only [if_true]
    have hb1 := lo_bd fr hf.1 hf.2
    have hb2 := hi_bd till c2.1 c2.2
    -- Originals
    have hO : Fin (fun k => series_Originals.f k s0 s1 s2 r0 r1 r2 r3 l7 l8 l9 l10 l11 l12 (mx (wrap64 (fr - 2592000)) 0) (mn (wrap64 (till + 2592000)) 253402300799)) (fun p => p.2 = errOf s0 fr till v.2) := by
      unfold series_Originals.f
      refine fin_bind (fin_ev hr (p := fun x => x = true) rfl) (fun x hx => ?_)
      subst hx
      have d1 := decide_eq_true hb1
      have d2 := decide_eq_true hb2
      simp only [when_f, Option.bind_some, if_true, d1, d2, Bool.not_true]
      have ew : wrap64 (mn (wrap64 (till + 2592000)) 253402300799 - s0) = mn (wrap64 (till + 2592000)) 253402300799 - s0 := wrapI (by have := ok.start; have := hb2; omega) (by have := ok.start; have := hb2; omega)
      have he : errOf s0 fr till v.2 = if mn (wrap64 (till + 2592000)) 253402300799 - s0 > 631152000 then 1 else v.2 := by unfold errOf; rw [if_pos ⟨hf, c2⟩]
      refine fin_step (f := fun k => if mn (wrap64 (till + 2592000)) 253402300799 - s0 > 631152000 then some ([], 1) else (series_Series_originals.f k s0 s1 s2 r0 r1 r2 r3 l7 l8 l9 l10 l11 l12 (mx (wrap64 (fr - 2592000)) 0) (mn (wrap64 (till + 2592000)) 253402300799)).bind fun bt => some (bt.1, bt.2)) (fun k => ?_) ?_
      · simp only [series_Originals.j0, Bool.false_eq_true, if_false, ew]
      · refine fin_ite (fun c => fin_now (by rw [he, if_pos c])) (fun c => ?_)
        exact fin_bind (fin_ev (hv hf c2 c) (p := fun x => x = v) rfl) (fun p hp => by subst hp; exact fin_now (by rw [he, if_neg c]))
    obtain ⟨o, ho, hoe⟩ := hO
    obtain ⟨o', ho', told⟩ := toriginals_fin s0 s1 s2 r0 r1 r2 r3 l7 l8 l9 l10 l11 l12 hs ok hr _ _ hb1 hb2
    obtain rfl := ev_one ho ho'
    refine fin_bind (fin_ev ho (p := fun x => x = o) rfl) (fun x hx => ?_)
    subst hx
    refine fin_ite (fun e => ?_) (fun e => fin_now hoe)
    obtain ⟨-, h2, h3⟩ := told.2 e
    have hos := (origs_spec s0 s2 r0 r1 r2 r3 l7 l8 l9 l10 l11 (mx (wrap64 (fr - 2592000)) 0) (mn (wrap64 (till + 2592000)) 253402300799)).1
    rw [← h2] at hos
    exact fin_ev (list_loop s0 s1 s2 r0 r1 r2 r3 l7 l8 l9 l10 l11 l12 fr till (by have := ok.origs.few; rwa [List.length_map] at this) ok.origs.up x.1 (by omega) hos x.1 0 [] rfl rfl (Nat.le_refl _)) (by rw [← hoe]; exact e.symm)
  · rw [decide_eq_false c2]
    exact jt (fun hw => c2 hw.2)
theorem err_same (hs : Short l7 l8 l9 l10 l11 l12) (ok : okSeries s0 s1 s2 r0 r1 r2 r3 l7 l8 l9 l10 l11 l12) (hr : Ev (fun k => series_Right.f k s0 s1 s2 r0 r1 r2 r3 l7 l8 l9 l10 l11 l12) true)
    {l12' : List S39} (hs' : Short l7 l8 l9 l10 l11 l12') (ok' : okSeries s0 s1 s2 r0 r1 r2 r3 l7 l8 l9 l10 l11 l12') (hr' : Ev (fun k => series_Right.f k s0 s1 s2 r0 r1 r2 r3 l7 l8 l9 l10 l11 l12') true)
    (fr till : Int) {p q : List S37 × Int} (hp : Ev (fun k => series_Instances.f k s0 s1 s2 r0 r1 r2 r3 l7 l8 l9 l10 l11 l12 fr till) p) (hq : Ev (fun k => series_Instances.f k s0 s1 s2 r0 r1 r2 r3 l7 l8 l9 l10 l11 l12' fr till) q) : q.2 = p.2 := by
  have hO : ∃ v : List Int × Int, (0 ≤ fr ∧ fr ≤ 253402300799) → (0 ≤ till ∧ till ≤ 253402300799) → ¬ mn (wrap64 (till + 2592000)) 253402300799 - s0 > 631152000 → Ev (fun k => series_Series_originals.f k s0 s1 s2 r0 r1 r2 r3 l7 l8 l9 l10 l11 l12 (mx (wrap64 (fr - 2592000)) 0) (mn (wrap64 (till + 2592000)) 253402300799)) v := by
    by_cases h : (0 ≤ fr ∧ fr ≤ 253402300799) ∧ (0 ≤ till ∧ till ≤ 253402300799) ∧ ¬ mn (wrap64 (till + 2592000)) 253402300799 - s0 > 631152000
    · obtain ⟨v, hv, -⟩ := originals_fin s0 s1 s2 r0 r1 r2 r3 l7 l8 l9 l10 l11 l12 hs ok _ _ (lo_bd fr h.1.1 h.1.2) (hi_bd till h.2.1.1 h.2.1.2) (by omega)
      exact ⟨v, fun _ _ _ => hv⟩
    · exact ⟨([], 0), fun h1 h2 h3 => absurd ⟨h1, h2, h3⟩ h⟩
  obtain ⟨v, hv⟩ := hO
  obtain ⟨a, ha, ea⟩ := inst_err s0 s1 s2 r0 r1 r2 r3 l7 l8 l9 l10 l11 l12 hs ok hr fr till v hv
  obtain ⟨b, hb, eb⟩ := inst_err s0 s1 s2 r0 r1 r2 r3 l7 l8 l9 l10 l11 l12' hs' ok' hr' fr till v (fun h1 h2 h3 => by
    have := hv h1 h2 h3
    simp only [originals_same s0 s1 s2 r0 r1 r2 r3 l7 l8 l9 l10 l11 l12 l12'] at this
    exact this)
  rw [ev_one hp ha, ev_one hq hb, ea, eb]
end

/-! ### the lists that are compared -/
theorem al (f : Bool → Option Bool) (h : f true = some true) : Ev (fun k => (posthornlaw23_alive.f k).bind f) true := by
  have := Ev.bind (f := fun _ b => f b) Alive.alive_ev (r := true) (by simp only [h]; exact Ev.now _)
  exact this
theorem rd37 {l : List S37} {i : Nat} (h : i < l.length) : rd_T37 l (i : Int) = l[i] := by simp [rd_T37, h]
def conv (x : S37) : S62 := ⟨x.f0, x.f1, x.f2, x.f3⟩
theorem asAll_ev (l : List S37) (hn : l.length ≤ 2000) : Ev (fun k => posthornlaw23_AsAll.f k l) (l.map conv) := by
  have go : ∀ (suf : List S37) (i : Nat) (acc : List S62), l.drop i = suf → acc ++ suf.map conv = l.map conv → acc.length ≤ i → Ev (fun k => posthornlaw23_AsAll.l0 k l acc (i : Int)) (l.map conv) := by
    intro suf
    induction suf with
    | nil =>
      intro i acc hd ha hl
      have := drop_nil hd
      rw [List.map_nil, List.append_nil] at ha
      subst ha
      refine Ev.step (f := fun _ => some (l.map conv)) (fun k => by simp only [posthornlaw23_AsAll.l0]; rw [if_neg (show ¬ ((i : Int) < (l.length : Int)) by omega)]) (Ev.now _)
    | cons o suf ih =>
      intro i acc hd ha hl
      obtain ⟨hi, ho, hd'⟩ := get_drop (d := z37) hd
      have hw := wrapS hi (by omega)
      have ho' : rd_T37 l (i : Int) = o := ho
      refine Ev.step (fun k => by simp only [posthornlaw23_AsAll.l0, ho', hw]; rw [if_pos (show (i : Int) < (l.length : Int) by omega), if_pos (show (0 : Int) ≤ (i : Int) by omega), if_pos (show acc.length < 4398046511104 by omega)]; rfl) (ih (i + 1) (acc ++ [conv o]) hd' (by rw [← ha]; simp) (by simp; omega))
  exact go l 0 [] rfl rfl (by simp)
theorem same_ev (l : List S62) (hn : l.length ≤ 2000) : Ev (fun k => posthornref23_Same.f k l l) true := by
  have go : ∀ (suf : List S62) (i : Nat), l.drop i = suf → Ev (fun k => posthornref23_Same.l0 k l l (i : Int)) true := by
    intro suf
    induction suf with
    | nil =>
      intro i hd
      have := drop_nil hd
      refine Ev.step (f := fun _ => some true) (fun k => by simp only [posthornref23_Same.l0]; rw [if_neg (show ¬ ((i : Int) < (l.length : Int)) by omega)]) (Ev.now _)
    | cons o suf ih =>
      intro i hd
      obtain ⟨hi, ho, hd'⟩ := get_drop (d := z62) hd
      have hw := wrapS hi (by omega)
      refine Ev.step (fun k => by simp only [posthornref23_Same.l0, hw]; rw [if_pos (show (i : Int) < (l.length : Int) by omega), if_pos (show (0 : Int) ≤ (i : Int) by omega), if_pos (show (i : Int) < (l.length : Int) by omega), if_neg (by simp)]) (ih (i + 1) hd')
  unfold posthornref23_Same.f
  simp only [if_true]
  exact go l 0 rfl
theorem few_own (c0 : Int) : ∀ l : List S37, (l.map (·.f0)).Pairwise (· ≠ ·) → l.length ≤ (l.filter (fun x => !(x.f0 == c0))).length + 1 := by
  intro l
  induction l with
  | nil => intro _; simp
  | cons x l ih =>
    intro h
    rw [List.map_cons, List.pairwise_cons] at h
    by_cases e : x.f0 = c0
    · have : l.filter (fun x => !(x.f0 == c0)) = l := List.filter_eq_self.2 (fun y hy => by
        have := h.1 y.f0 (List.mem_map_of_mem hy)
        simp only [Bool.not_eq_true', beq_eq_false_iff_ne, ne_eq]
        omega)
      rw [List.filter_cons_of_neg (by simp [e]), this]
      simp
    · rw [List.filter_cons_of_pos (by simp [e])]
      have := ih h.2
      simp only [List.length_cons]
      omega
section
variable (c : S39) (a b : List S37)
theorem alone_l1 (X Y : List S37) (hb : b.length ≤ 2000) (hX : X.length ≤ 2000) (hY : b.filter (fun x => !(x.f0 == c.f0)) = Y) (hXY : X = Y) (hap : (b.map (·.f0)).Pairwise (· ≠ ·))
    (hc : ∀ x, x ∈ b → x.f0 = c.f0 → c.f3 = false ∧ x.f1 = c.f1 ∧ wrap64 (x.f2 - x.f1) = c.f2 ∧ x.f3 = true) :
    ∀ (suf : List S37) (i : Nat) (acc : List S37), b.drop i = suf → acc ++ suf.filter (fun x => !(x.f0 == c.f0)) = Y → acc.length ≤ i → Ev (fun k => posthornlaw23_SeriesAlone.l1 k b 0 X acc (i : Int) c.f0 c.f1 c.f2 c.f3) true := by
  intro suf
  induction suf with
  | nil =>
    intro i acc hd ha hl
    have := drop_nil hd
    rw [List.filter_nil, List.append_nil] at ha
    subst ha
    subst hXY
    refine Ev.step (fun k => by simp only [posthornlaw23_SeriesAlone.l1, if_true]; rw [if_neg (show ¬ ((i : Int) < (b.length : Int)) by omega)]) ?_
    refine Ev.bind Alive.alive_ev ?_
    simp only [if_true]
    refine Ev.bind (asAll_ev X hX) ?_
    refine Ev.bind (asAll_ev X hX) ?_
    refine Ev.bind (same_ev _ (by rw [List.length_map]; exact hX)) ?_
    simp only [if_true]
    have h1 := few_own c.f0 b hap
    rw [hY] at h1
    have hd : decide (wrap64 ((b.length : Int) - (X.length : Int)) ≤ 1) = true := decide_eq_true (by unfold wrap64; omega)
    rw [hd]
    exact Ev.now _
  | cons o suf ih =>
    intro i acc hd ha hl
    obtain ⟨hi, ho, hd'⟩ := get_drop (d := z37) hd
    have hw := wrapS hi (by omega)
    have ho' : rd_T37 b (i : Int) = o := ho
    have hm : o ∈ b := List.mem_of_mem_drop (hd ▸ List.mem_cons_self)
    by_cases e : o.f0 = c.f0
    · obtain ⟨q1, q2, q3, q4⟩ := hc o hm e
      rw [List.filter_cons_of_neg (by simp [e])] at ha
      refine Ev.step (fun k => by simp only [posthornlaw23_SeriesAlone.l1, ho', hw, if_pos e, q1, Bool.false_eq_true, if_false, if_pos q2, if_pos q3, q4, if_true]; rw [if_pos (show (i : Int) < (b.length : Int) by omega), if_pos (show (0 : Int) ≤ (i : Int) by omega)]) (ih (i + 1) acc hd' ha (by omega))
    · rw [List.filter_cons_of_pos (by simp [e])] at ha
      refine Ev.step (fun k => by simp only [posthornlaw23_SeriesAlone.l1, ho', hw, if_neg e]; rw [if_pos (show (i : Int) < (b.length : Int) by omega), if_pos (show (0 : Int) ≤ (i : Int) by omega), if_pos (show acc.length < 4398046511104 by omega)]) (ih (i + 1) (acc ++ [o]) hd' (by rw [← ha]; simp) (by simp; omega))
theorem alone_l0 (X : List S37) (ha' : a.length ≤ 2000) (nxt : Ev (fun k => posthornlaw23_SeriesAlone.l1 k b 0 X [] 0 c.f0 c.f1 c.f2 c.f3) true) :
    ∀ (suf : List S37) (i : Nat) (acc : List S37), a.drop i = suf → acc ++ suf.filter (fun x => !(x.f0 == c.f0)) = X → acc.length ≤ i → Ev (fun k => posthornlaw23_SeriesAlone.l0 k a b 0 acc (i : Int) c.f0 c.f1 c.f2 c.f3) true := by
  intro suf
  induction suf with
  | nil =>
    intro i acc hd ha hl
    have := drop_nil hd
    rw [List.filter_nil, List.append_nil] at ha
    subst ha
    exact Ev.step (fun k => by simp only [posthornlaw23_SeriesAlone.l0]; rw [if_neg (show ¬ ((i : Int) < (a.length : Int)) by omega)]) nxt
  | cons o suf ih =>
    intro i acc hd ha hl
    obtain ⟨hi, ho, hd'⟩ := get_drop (d := z37) hd
    have hw := wrapS hi (by omega)
    have ho' : rd_T37 a (i : Int) = o := ho
    by_cases e : o.f0 = c.f0
    · rw [List.filter_cons_of_neg (by simp [e])] at ha
      refine Ev.step (fun k => by simp only [posthornlaw23_SeriesAlone.l0, ho', hw, if_pos e]; rw [if_pos (show (i : Int) < (a.length : Int) by omega), if_pos (show (0 : Int) ≤ (i : Int) by omega)]) (ih (i + 1) acc hd' ha (by omega))
    · rw [List.filter_cons_of_pos (by simp [e])] at ha
      refine Ev.step (fun k => by simp only [posthornlaw23_SeriesAlone.l0, ho', hw, if_neg e]; rw [if_pos (show (i : Int) < (a.length : Int) by omega), if_pos (show (0 : Int) ≤ (i : Int) by omega), if_pos (show acc.length < 4398046511104 by omega)]) (ih (i + 1) (acc ++ [o]) hd' (by rw [← ha]; simp) (by simp; omega))
end
section
variable (s0 s1 : Int) (s2 : Bool) (r0 r1 r2 r3 : Int) (l7 l8 : List Int) (l9 : List S78) (l10 l11 : List Int) (l12 : List S39) (c : S39) (fr till : Int)
/-- What is told of c's original is c. -/
theorem told_own (ok' : okSeries s0 s1 s2 r0 r1 r2 r3 l7 l8 l9 l10 l11 (put1 c false l12)) {x : S37} (hx : x ∈ instsOf s0 s1 s2 r0 r1 r2 r3 l7 l8 l9 l10 l11 (put1 c false l12) fr till) (e : x.f0 = c.f0) :
    c.f3 = false ∧ x.f1 = c.f1 ∧ wrap64 (x.f2 - x.f1) = c.f2 ∧ x.f3 = true := by
  have hcm : c ∈ put1 c false l12 := (put1_mem c l12 false c).2 (.inl ⟨rfl, rfl⟩)
  obtain ⟨-, h2, -⟩ := insts_one s0 s1 s2 r0 r1 r2 r3 l7 l8 l9 l10 l11 (put1 c false l12) ok'.origs.up hx
  obtain ⟨q1, q2, q3⟩ := h2 c hcm e.symm
  obtain ⟨-, hk⟩ := (insts_mem s0 s1 s2 r0 r1 r2 r3 l7 l8 l9 l10 l11 (put1 c false l12)).1 hx
  have hch := put1_own (c := c) (l12 := l12) ok'.origs.up
  unfold keep at hk
  split at hk
  · have hx := congrArg S37.f2 (Option.some.inj hk)
    simp only at hx
    rw [e] at hx
    unfold instOf at hx
    rw [hch] at hx
    simp only at hx
    have hok := (ok'.changes c hcm).2 q1
    refine ⟨q1, q3, ?_, q2⟩
    rw [← hx, q3]
    unfold wrap64
    omega
  · cases hk
theorem pure (hs : Short l7 l8 l9 l10 l11 l12) (hc0 : -9223372036854775808 ≤ c.f0) : ∃ k, posthornlaw23_SeriesAlone.f k s0 s1 s2 r0 r1 r2 r3 l7 l8 l9 l10 l11 l12 c.f0 c.f1 c.f2 c.f3 fr till = some true := by
  obtain ⟨g3, hg3⟩ := great_some s0 s1 s2 r0 r1 r2 r3 l7 l8 l9 l10 l11 l12 till
  obtain ⟨g2, hg2⟩ := great_some s0 s1 s2 r0 r1 r2 r3 l7 l8 l9 l10 l11 l12 fr
  obtain ⟨g1, hg1⟩ := great_some s0 s1 s2 r0 r1 r2 r3 l7 l8 l9 l10 l11 l12 c.f0
  have j0t : Ev (fun k => posthornlaw23_SeriesAlone.j0 k fr till true s0 s1 s2 r0 r1 r2 r3 l7 l8 l9 l10 l11 l12 c.f0 c.f1 c.f2 c.f3) true := by
    refine Ev.step (fun k => by simp only [posthornlaw23_SeriesAlone.j0, if_true]; rfl) ?_
    exact al _ rfl
  have j0f : c.f0 ≤ 4294967296 → Ev (fun k => posthornlaw23_SeriesAlone.j0 k fr till false s0 s1 s2 r0 r1 r2 r3 l7 l8 l9 l10 l11 l12 c.f0 c.f1 c.f2 c.f3) true := by
    intro hle
    refine Ev.step (fun k => by simp only [posthornlaw23_SeriesAlone.j0, Bool.false_eq_true, if_false]; rfl) ?_
    obtain ⟨t, ht, hset⟩ := set_fin s0 s1 s2 r0 r1 r2 r3 l7 l8 l9 l10 l11 l12 c hs ⟨hc0, hle⟩
    obtain ⟨p, hp, told⟩ := instances_fin s0 s1 s2 r0 r1 r2 r3 l7 l8 l9 l10 l11 l12 hs fr till
    refine Ev.bind ht ?_
    refine Ev.bind hp ?_
    rcases hset with ⟨he, hs'⟩ | ⟨rfl, ok, hr, ok', hr'⟩
    · obtain ⟨q, hq, told'⟩ := instances_fin t.1 t.2.1 t.2.2.1 t.2.2.2.1 t.2.2.2.2.1 t.2.2.2.2.2.1 t.2.2.2.2.2.2.1 t.2.2.2.2.2.2.2.1 t.2.2.2.2.2.2.2.2.1 t.2.2.2.2.2.2.2.2.2.1 t.2.2.2.2.2.2.2.2.2.2.1 t.2.2.2.2.2.2.2.2.2.2.2.1 t.2.2.2.2.2.2.2.2.2.2.2.2.1 hs' fr till
      refine Ev.bind hq ?_
      simp only [if_neg he]
      refine Ev.step (fun k => by simp only [posthornlaw23_SeriesAlone.j1, if_true, if_neg he]; rfl) ?_
      refine Ev.bind Alive.alive_ev ?_
      simp only [if_true]
      exact Ev.now _
    · have h12 : l12.length ≤ 256 := by have := ok.origs.few; rwa [List.length_map] at this
      have hs' : Short l7 l8 l9 l10 l11 (put1 c false l12) := ⟨hs.a, hs.b, hs.c, hs.d, hs.e, by have := (put1_len c l12 false).1; omega⟩
      obtain ⟨q, hq, told'⟩ := instances_fin s0 s1 s2 r0 r1 r2 r3 l7 l8 l9 l10 l11 (put1 c false l12) hs' fr till
      have heq := err_same s0 s1 s2 r0 r1 r2 r3 l7 l8 l9 l10 l11 l12 hs ok hr hs' ok' hr' fr till hp hq
      refine Ev.bind hq ?_
      simp only [if_true]
      by_cases e : p.2 = 0
      · have e' : q.2 = 0 := heq.trans e
        rw [show (p.2 != 0) = false from by simp [e], e']
        refine Ev.step (fun k => by simp only [posthornlaw23_SeriesAlone.j1, Bool.false_eq_true, if_false]; rfl) ?_
        have hsame := insts_alone s0 s1 s2 r0 r1 r2 r3 l7 l8 l9 l10 l11 l12 c (put1 c false l12) (fun t ht => put1_other ok.origs.up ok'.origs.up t ht) fr till
        rw [← told.eq e, ← told'.eq e'] at hsame
        have hap : (q.1.map (·.f0)).Pairwise (· ≠ ·) := by rw [told'.eq e']; exact insts_apart s0 s1 s2 r0 r1 r2 r3 l7 l8 l9 l10 l11 (put1 c false l12) fr till
        have hpl := told.few e
        have hX : (p.1.filter (fun x => !(x.f0 == c.f0))).length ≤ 2000 := Nat.le_trans (List.length_filter_le _ _) hpl
        refine alone_l0 c p.1 q.1 (p.1.filter (fun x => !(x.f0 == c.f0))) hpl ?_ p.1 0 [] rfl rfl (by simp)
        refine alone_l1 c q.1 _ (q.1.filter (fun x => !(x.f0 == c.f0))) (told'.few e') hX rfl hsame.symm hap (fun x hx hxe => ?_) q.1 0 [] rfl rfl (by simp)
        rw [told'.eq e'] at hx
        exact told_own s0 s1 s2 r0 r1 r2 r3 l7 l8 l9 l10 l11 l12 c fr till ok' hx hxe
      · rw [show (p.2 != 0) = true from by simp [e]]
        refine Ev.step (fun k => by simp only [posthornlaw23_SeriesAlone.j1, if_true]; rfl) ?_
        refine Ev.bind Alive.alive_ev ?_
        simp only [if_true]
        refine al _ ?_
        simp [heq]
  refine Ev.rounds (g := fun k => posthornlaw23_SeriesAlone.f k s0 s1 s2 r0 r1 r2 r3 l7 l8 l9 l10 l11 l12 c.f0 c.f1 c.f2 c.f3 fr till) ?_
  unfold posthornlaw23_SeriesAlone.f
  simp only [hg3, hg2, hg1, Option.bind_some]
  cases g3 with
  | true => exact j0t
  | false =>
    simp only [Bool.false_eq_true, if_false]
    cases g2 with
    | true => exact j0t
    | false =>
      simp only [Bool.false_eq_true, if_false]
      cases g1 with
      | true => exact j0t
      | false => exact j0f (great_late hg1)
end
end Go.Proofs.Ytkgkblmeafhkfaa.PureAlone

/- BusyRows, without Go and memory: what is spread is a row, spread again it stays, and the order of what came in is of no matter. -/
import Derived.Test.YtalepohjmjlndaaLists
import Derived.Test.YtalepohjmjlndaaPBx12
import Derived.Laws.Bits128
namespace Go.Proofs.Ytalepohjmjlndaa.RowsPure
open Go.RowKit Go.Proofs.YtalepohjmjlndaaW.PrintWords Go.Proofs.YtalepohjmjlndaaW.PrintLast Go.Proofs.YtalepohjmjlndaaW.PrintMore Go.Proofs.Ytalepohjmjlndaa.PB Go.Proofs.Ytalepohjmjlndaa.Base Go.Proofs.Ytalepohjmjlndaa.Lists
open Math (Sp Row kmax)

theorem and4095 (n : Int) : Go.bits .and .i64 n 4095 = n % 4096 := by
  have h127 : (BitVec.ofInt 64 4095).toNat = 2 ^ 12 - 1 := by decide
  have key : (BitVec.ofInt 64 n &&& BitVec.ofInt 64 4095).toNat = (n % ((2 ^ 64 : Nat) : Int)).toNat % 2 ^ 12 := by
    rw [BitVec.toNat_and, BitVec.toNat_ofInt, h127, Nat.and_two_pow_sub_one_eq_mod]
  show IntKind.i64.wrap ((BitVec.ofInt 64 n &&& BitVec.ofInt 64 4095).toNat : Nat) = n % 4096
  rw [key, IntKind.wrap_i64]
  omega

theorem row_ge : ∀ (l : List Sp) (e k : Int), Row e k l → ∀ s, s ∈ l → e ≤ s.a
  | s :: l, e, k, h, x, hx => by
    obtain ⟨h1, _, h3, _, h5⟩ := h
    rcases List.mem_cons.mp hx with rfl | hx
    · exact h1
    · have := row_ge l _ _ h5 x hx
      omega
theorem row_mem : ∀ (l : List Sp) (e k : Int), Row e k l → ∀ s, s ∈ l → s.a < s.b ∧ 0 < s.k ∧ kmax l s.a = s.k ∧ kmax l (s.b - 1) = s.k
  | s :: l, e, k, h, x, hx => by
    have h' := h
    obtain ⟨h1, _, h3, h4, h5⟩ := h
    rcases List.mem_cons.mp hx with rfl | hx
    · refine ⟨h3, h4, ?_, ?_⟩
      · rw [Math.row_cons h' h3, if_pos (Int.le_refl _)]
      · rw [Math.row_cons h' (by omega), if_pos (by omega)]
    · obtain ⟨i1, i2, i3, i4⟩ := row_mem l _ _ h5 x hx
      have := row_ge l _ _ h5 x hx
      exact ⟨i1, i2, by rw [Math.row_cons_ge this]; exact i3, by rw [Math.row_cons_ge (by omega)]; exact i4⟩

theorem spread_okB {l : List S44} (h : l.all okB = true) : ∀ s, s ∈ Math.spread (l.map toSp) → okB (ofSp s) = true := by
  obtain ⟨h1, h2⟩ := ok_of_all h
  obtain ⟨hr, hk⟩ := Math.spread_row _ h1 (-1) h2
  intro s hs
  obtain ⟨m1, m2, m3, m4⟩ := row_mem _ _ _ hr s hs
  rw [hk] at m3 m4
  have src : ∀ t, kmax (l.map toSp) t = s.k → ∃ u : S44, u ∈ l ∧ okB u = true ∧ u.f2 = s.k ∧ u.f0 ≤ t ∧ t < u.f1 := by
    intro t ht
    rcases Math.kmax_mem (l.map toSp) t with h0 | ⟨u, hu, hk, hc⟩
    · omega
    · obtain ⟨v, hv, rfl⟩ := List.mem_map.mp hu
      exact ⟨v, hv, List.all_eq_true.mp h v hv, hk.trans ht, hc⟩
  obtain ⟨u, _, hu, ku, au, bu⟩ := src _ m3
  obtain ⟨v, _, hv, kv, av, bv⟩ := src _ m4
  have gu := okB_ge hu
  have gv := okB_ge hv
  exact decide_eq_true (p := 0 ≤ s.a ∧ s.a ≤ 253402300799 ∧ 0 ≤ s.b ∧ s.b ≤ 253402300799 ∧ s.a < s.b ∧ 1 ≤ s.k ∧ s.k ≤ 3) (by omega)

theorem spread_all {l : List S44} (h : l.all okB = true) : ((Math.spread (l.map toSp)).map ofSp).all okB = true := by
  rw [List.all_eq_true]
  intro x hx
  obtain ⟨s, hs, rfl⟩ := List.mem_map.mp hx
  exact spread_okB h s hs
theorem spread_right {l : List S44} (h : l.all okB = true) (hn : ((Math.spread (l.map toSp)).map ofSp).length ≤ 1024) : rightB ((Math.spread (l.map toSp)).map ofSp) = true := by
  obtain ⟨h1, h2⟩ := ok_of_all h
  unfold rightB
  rw [decide_eq_true hn, Bool.and_true, chain_iff, map_to_of]
  exact ⟨List.all_eq_true.mp (spread_all h), (Math.spread_row _ h1 (-1) h2).1⟩

theorem kmax_mono {l m : List Sp} (h : ∀ s, s ∈ l → s ∈ m) (t : Int) : kmax l t ≤ kmax m t := by
  rcases Math.kmax_mem l t with h0 | ⟨s, hs, hk, ha, hb⟩
  · have := Math.kmax_nonneg m t
    omega
  · have := Math.kmax_ge m t s (h s hs) ha hb
    omega
/-- Lists with the same greatest kinds are spread alike. -/
theorem spread_same {l m : List S44} (hl : l.all okB = true) (hm : m.all okB = true) (h : ∀ t, kmax (m.map toSp) t = kmax (l.map toSp) t) : Math.spread (m.map toSp) = Math.spread (l.map toSp) := by
  obtain ⟨h1, h2⟩ := ok_of_all hl
  obtain ⟨g1, g2⟩ := ok_of_all hm
  obtain ⟨hr, hk⟩ := Math.spread_row _ h1 (-1) h2
  obtain ⟨gr, gk⟩ := Math.spread_row _ g1 (-1) g2
  exact Math.row_uniq _ _ _ _ _ _ gr hr (fun t => by rw [gk, hk, h])
theorem Spread_same {l m a : List S44} (hs : busy_Spread.f l = some (a, 0)) (hm : m.all okB = true) (hlen : m.length ≤ 4096) (h : ∀ t, kmax (m.map toSp) t = kmax (l.map toSp) t) : busy_Spread.f m = some (a, 0) := by
  obtain ⟨h1, _, h3, h4⟩ := spread_ok hs
  unfold busy_Spread.f
  rw [if_neg (by omega), if_pos hm, spread_same h1 hm h, ← h3, if_neg (by omega)]

/-! ### turned round -/
def rot (l : List S44) (c n : Nat) : List S44 := (List.range n).map fun i => rd_T44 l (((i + c) % l.length : Nat) : Int)
theorem rot_succ (l : List S44) (c n : Nat) : rot l c (n + 1) = rot l c n ++ [rd_T44 l (((n + c) % l.length : Nat) : Int)] := by
  unfold rot
  rw [List.range_succ, List.map_append]
  rfl
theorem rot_len (l : List S44) (c n : Nat) : (rot l c n).length = n := by simp [rot]
theorem rot_mem (l : List S44) (c : Nat) (s : S44) : s ∈ rot l c l.length ↔ s ∈ l := by
  unfold rot
  simp only [List.mem_map, List.mem_range]
  constructor
  · rintro ⟨i, hi, rfl⟩
    have : (i + c) % l.length < l.length := Nat.mod_lt _ (by omega)
    rw [rd44_get this]
    exact List.getElem_mem this
  · intro h
    obtain ⟨j, hj, rfl⟩ := List.getElem_of_mem h
    have hc : c % l.length < l.length := Nat.mod_lt _ (by omega)
    refine ⟨(j + (l.length - c % l.length)) % l.length, Nat.mod_lt _ (by omega), ?_⟩
    have e : ((j + (l.length - c % l.length)) % l.length + c) % l.length = j := by
      rw [Nat.mod_add_mod, ← Nat.add_mod_mod, show j + (l.length - c % l.length) + c % l.length = j + l.length by omega, Nat.add_mod_right, Nat.mod_eq_of_lt hj]
    rw [e, rd44_get hj]

theorem loop (l a : List S44) (turn : Int) (hs : busy_Spread.f l = some (a, 0)) : ∀ (n i : Nat), i + n = l.length →
    Ev (fun k => posthornlaw24_BusyRows.l0 k l turn a (rot l (turn % 4096).toNat i) (i : Int)) true := by
  obtain ⟨h1, h2, h3, h4⟩ := spread_ok hs
  intro n
  induction n with
  | zero =>
    intro i hi
    have ei : i = l.length := by omega
    subst ei
    have hall : (rot l (turn % 4096).toNat l.length).all okB = true := by
      rw [List.all_eq_true]
      intro x hx
      exact List.all_eq_true.mp h1 x ((rot_mem _ _ _).mp hx)
    have hm : busy_Spread.f (rot l (turn % 4096).toNat l.length) = some (a, 0) := by
      refine Spread_same hs hall (by rw [rot_len]; exact h2) (fun t => ?_)
      have mem : ∀ s, s ∈ (rot l (turn % 4096).toNat l.length).map toSp ↔ s ∈ l.map toSp := by
        intro s
        simp only [List.mem_map, rot_mem]
      exact Int.le_antisymm (kmax_mono (fun s h => (mem s).mp h) t) (kmax_mono (fun s h => (mem s).mpr h) t)
    have ha : busy_Spread.f a = some (a, 0) := by
      refine Spread_same hs (by rw [h3]; exact spread_all h1) (by omega) (fun t => ?_)
      rw [h3]
      exact spread_kmax h1 t
    have hr : rightB a = true := by
      rw [h3]
      exact spread_right h1 (by rw [← h3]; exact h4)
    refine Ev.step (f := fun k => ((posthornlaw24_alive.f k).bind fun t354 => (if t354 = true then ((busy_Right.f k a).bind fun t355 => (if t355 = true then ((posthornlaw24_As.f k a).bind fun t356 => ((posthornlaw24_As.f k a).bind fun t359 => ((posthornref24_Same.f k t356 t359).bind fun t362 => (if t362 = true then ((posthornlaw24_As.f k a).bind fun t363 => ((posthornlaw24_As.f k a).bind fun t366 => ((posthornref24_Same.f k t363 t366).bind fun t369 => (some t369)))) else (some false))))) else (some false))) else (some false)))) (fun k => ?_) ?_
    · simp only [posthornlaw24_BusyRows.l0]
      rw [if_neg (by omega), hm, ha]
      simp only [Option.bind_some, if_true]
    · have as' := as_ev a (by omega)
      have same' := same_ev (a.map as8) (by simp; omega)
      refine Ev.bind alive_ev ?_
      simp only [if_true]
      refine Ev.bind (right_ev a (by omega)) ?_
      rw [hr]
      simp only [if_true]
      refine Ev.bind as' (Ev.bind as' (Ev.bind same' ?_))
      simp only [if_true]
      exact Ev.bind as' (Ev.bind as' (Ev.bind same' (Ev.now _)))
  | succ n ih =>
    intro i hi
    have hw : wrap64 ((i : Int) + 1) = ((i + 1 : Nat) : Int) := wrapS (n := l.length) (by omega) (by omega)
    have hix : Int.tmod (wrap64 ((i : Int) + (Go.bits .and .i64 turn 4095))) (l.length : Int) = (((i + (turn % 4096).toNat) % l.length : Nat) : Int) := by
      rw [and4095]
      have e : wrap64 ((i : Int) + turn % 4096) = ((i + (turn % 4096).toNat : Nat) : Int) := by unfold wrap64; omega
      rw [e, Int.tmod_eq_emod_of_nonneg (by omega)]
      rfl
    have hlt : (i + (turn % 4096).toNat) % l.length < l.length := Nat.mod_lt _ (by omega)
    have := ih (i + 1) (by omega)
    rw [rot_succ] at this
    refine Ev.step (fun k => ?_) this
    simp only [posthornlaw24_BusyRows.l0, hix]
    rw [if_pos (by omega), if_neg (by omega), if_pos (by omega), if_pos (by omega), if_pos (by rw [rot_len]; omega), hw]

theorem pure (l : List S44) (turn : Int) : ∃ k, posthornlaw24_BusyRows.f k l turn = some true := by
  refine Ev.rounds (g := fun k => posthornlaw24_BusyRows.f k l turn) ?_
  unfold posthornlaw24_BusyRows.f
  rw [many_f]
  simp only [Option.bind_some]
  by_cases hm : 120 < l.length ∧ l.length ≤ 4096 ∨ 4200 < l.length
  · rw [decide_eq_true hm]
    simp only [if_true]
    exact Ev.bind alive_ev (Ev.now _)
  · rw [decide_eq_false hm]
    simp only [Bool.false_eq_true, if_false]
    obtain ⟨a, e, hs, he0⟩ := spread_some l
    rw [hs]
    simp only [Option.bind_some]
    by_cases he : e = 0
    · subst he
      simp only [if_true]
      exact loop l a turn hs l.length 0 (by omega)
    · simp only [if_neg he]
      rw [he0 he]
      refine Ev.bind alive_ev ?_
      simp only [if_true]
      exact Ev.now _
end Go.Proofs.Ytalepohjmjlndaa.RowsPure

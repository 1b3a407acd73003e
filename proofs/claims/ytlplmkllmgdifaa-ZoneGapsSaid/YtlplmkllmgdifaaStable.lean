/- The library's stable sort comes to an end at short lists, and tells none but what it was given. -/
import Derived.Test.YtlplmkllmgdifaaTotal
import Derived.Test.YtlplmkllmgdifaaPZx11
namespace Go.Proofs.Ytlplmkllmgdifaa.Stable
open Go.RowKit Go.Proofs.YtlplmkllmgdifaaW.PrintWords Go.Proofs.YtlplmkllmgdifaaW.PrintLast Go.Proofs.YtlplmkllmgdifaaW.PrintMore Go.Proofs.Ytlplmkllmgdifaa.PZ Go.Proofs.Ytlplmkllmgdifaa.Cal Go.Proofs.Ytlplmkllmgdifaa.Total

def Keeps (l r : List S75) : Prop := r.length = l.length ∧ ∀ x, x ∈ r → x ∈ l
theorem keeps_refl (l : List S75) : Keeps l l := ⟨rfl, fun _ h => h⟩
theorem keeps_trans {l m r : List S75} (h : Keeps l m) (g : Keeps m r) : Keeps l r := ⟨g.1.trans h.1, fun x hx => h.2 x (g.2 x hx)⟩
theorem rd_mem {l : List S75} {i : Int} (h0 : 0 ≤ i) (h1 : i < l.length) : rd_T75 l i ∈ l := by
  have hi : i.toNat < l.length := by omega
  show l.getD i.toNat z75 ∈ l
  simp [hi]
theorem keeps_swap (l : List S75) {i j : Int} (i0 : 0 ≤ i) (i1 : i < l.length) (j0 : 0 ≤ j) (j1 : j < l.length) :
    Keeps l ((l.set i.toNat (⟨(rd_T75 l j).f0, (rd_T75 l j).f1⟩ : S75)).set j.toNat (⟨(rd_T75 l i).f0, (rd_T75 l i).f1⟩ : S75)) := by
  refine ⟨by simp, fun x hx => ?_⟩
  rcases List.mem_or_eq_of_mem_set hx with hx | rfl
  · rcases List.mem_or_eq_of_mem_set hx with hx | rfl
    · exact hx
    · exact rd_mem j0 j1
  · exact rd_mem i0 i1
theorem cmp_some (a b c d : Int) : ∃ t, zone_Zone_changes_1.f a b c d = some t := by
  unfold zone_Zone_changes_1.f
  split
  · exact ⟨_, rfl⟩
  · split <;> exact ⟨_, rfl⟩
theorem half {n : Int} (h0 : 0 ≤ n) (h1 : n ≤ 100000) : wrap64 ((IntKind.u64.wrap (wrap64 n)) / 2) = n / 2 := by
  rw [wrapI (n := n) (by omega) (by omega)]
  have : IntKind.u64.wrap n = n := by
    simp [IntKind.wrap, IntKind.bits, IntKind.signed]
    omega
  rw [this, wrapI (by omega) (by omega)]

/-! ### insertion -/
theorem ins_in (hi8 : Int) (x1 x2 x8 : Int) (h0 : 0 ≤ x1) (out : ∀ l : List S75, l.length = hi8.toNat → Fin (fun k => zone_change_94.l0 k l x1 x2 (wrap64 (x8 + 1))) (Keeps l)) : ∀ (n : Nat) (x9 : Int) (l : List S75), l.length = hi8.toNat → x9 = x1 + n → x9 < l.length → l.length ≤ 100000 →
    Fin (fun k => zone_change_94.l1 k l x1 x2 x8 x9) (Keeps l) := by
  intro n
  induction n with
  | zero =>
    intro x9 l hl h9 _ _
    refine fin_step (fun k => ?_) (out l hl)
    simp only [zone_change_94.l1]
    rw [if_neg (by omega)]
  | succ n ih =>
    intro x9 l hl h9 hlt hn
    have e : wrap64 (x9 - 1) = x9 - 1 := wrapI (by omega) (by omega)
    obtain ⟨t, ht⟩ := cmp_some (rd_T75 l x9).f0 (rd_T75 l x9).f1 (rd_T75 l (x9 - 1)).f0 (rd_T75 l (x9 - 1)).f1
    have hk := keeps_swap l (i := x9) (j := x9 - 1) (by omega) hlt (by omega) (by omega)
    refine fin_step (fun k => by simp only [zone_change_94.l1]; rw [if_pos (show x9 > x1 by omega), if_pos (show 0 ≤ x9 by omega), if_pos hlt, e, if_pos (show 0 ≤ x9 - 1 by omega), if_pos (show x9 - 1 < (l.length : Int) by omega), ht, Option.bind_some]) ?_
    refine fin_ite (fun _ => ?_) (fun _ => out l hl)
    exact fin_mono (ih (x9 - 1) _ (by rw [hk.1]; exact hl) (by omega) (by rw [hk.1]; omega) (by rw [hk.1]; omega)) (fun r hr => keeps_trans hk hr)
theorem ins_out (x1 x2 : Int) (h0 : 0 ≤ x1) : ∀ (n : Nat) (x8 : Int) (l : List S75), x1 < x8 → x2 ≤ x8 + n → x2 ≤ l.length → l.length ≤ 100000 → Fin (fun k => zone_change_94.l0 k l x1 x2 x8) (Keeps l) := by
  intro n
  induction n with
  | zero =>
    intro x8 l h1 h2 h3 h4
    refine fin_step (f := fun _ => some l) (fun k => ?_) (fin_now (keeps_refl l))
    simp only [zone_change_94.l0]
    rw [if_neg (by omega)]
  | succ n ih =>
    intro x8 l h1 h2 h3 h4
    by_cases c : x8 < x2
    · have e : wrap64 (x8 + 1) = x8 + 1 := wrapI (by omega) (by omega)
      refine fin_step (fun k => by simp only [zone_change_94.l0]; rw [if_pos c]) (ins_in (l.length : Int) x1 x2 x8 h0 (fun m hm => ?_) (x8 - x1).toNat x8 l (by omega) (by omega) (by omega) h4)
      rw [e]
      exact ih (x8 + 1) m (by omega) (by omega) (by omega) (by omega)
    · refine fin_step (f := fun _ => some l) (fun k => ?_) (fin_now (keeps_refl l))
      simp only [zone_change_94.l0]
      rw [if_neg c]
theorem ins_fin (l : List S75) (a b : Int) (h0 : 0 ≤ a) (h1 : b ≤ l.length) (h2 : l.length ≤ 100000) (ha : a ≤ 100000) : Fin (fun k => zone_change_94.f k l a b) (Keeps l) := by
  unfold zone_change_94.f
  rw [wrapI (n := a + 1) (by omega) (by omega)]
  exact ins_out a b h0 (b - a).toNat (a + 1) l (by omega) (by omega) h1 h2

/-! ### swapRange, rotate -/
theorem swap_fin (a b n : Int) (a0 : 0 ≤ a) (b0 : 0 ≤ b) : ∀ (m : Nat) (i : Int) (l : List S75), 0 ≤ i → n ≤ i + m → a + n ≤ l.length → b + n ≤ l.length → l.length ≤ 100000 → Fin (fun k => zone_change_99.l0 k l a b n i) (Keeps l) := by
  intro m
  induction m with
  | zero =>
    intro i l i0 h1 h2 h3 h4
    refine fin_step (f := fun _ => some l) (fun k => ?_) (fin_now (keeps_refl l))
    simp only [zone_change_99.l0]
    rw [if_neg (by omega)]
  | succ m ih =>
    intro i l i0 h1 h2 h3 h4
    by_cases c : i < n
    · have e1 : wrap64 (b + i) = b + i := wrapI (by omega) (by omega)
      have e2 : wrap64 (a + i) = a + i := wrapI (by omega) (by omega)
      have e3 : wrap64 (i + 1) = i + 1 := wrapI (by omega) (by omega)
      have hk := keeps_swap l (i := a + i) (j := b + i) (by omega) (by omega) (by omega) (by omega)
      refine fin_step (fun k => ?_) (fin_mono (ih (i + 1) _ (by omega) (by omega) (by rw [hk.1]; omega) (by rw [hk.1]; omega) (by rw [hk.1]; omega)) (fun r hr => keeps_trans hk hr))
      simp only [zone_change_99.l0, e1, e2, e3]
      rw [if_pos c, if_pos (show 0 ≤ b + i by omega), if_pos (show b + i < (l.length : Int) by omega), if_pos (show 0 ≤ a + i by omega), if_pos (show a + i < (l.length : Int) by omega)]
    · refine fin_step (f := fun _ => some l) (fun k => ?_) (fin_now (keeps_refl l))
      simp only [zone_change_99.l0]
      rw [if_neg c]
theorem swapR_fin (l : List S75) (a b n : Int) (a0 : 0 ≤ a) (b0 : 0 ≤ b) (h2 : a + n ≤ l.length) (h3 : b + n ≤ l.length) (h4 : l.length ≤ 100000) : Fin (fun k => zone_change_99.f k l a b n) (Keeps l) :=
  swap_fin a b n a0 b0 n.toNat 0 l (by omega) (by omega) h2 h3 h4
theorem rot_loop (m : Int) : ∀ (n : Nat) (i j : Int) (l : List S75), i + j ≤ n → 1 ≤ i → 1 ≤ j → i ≤ m → m + j ≤ l.length → l.length ≤ 100000 → Fin (fun k => zone_change_98.l0 k l m i j) (Keeps l) := by
  intro n
  induction n with
  | zero => intro i j l h; omega
  | succ n ih =>
    intro i j l h1 hi hj h2 h3 h4
    have e1 : wrap64 (m - i) = m - i := wrapI (by omega) (by omega)
    have e2 : wrap64 (i - j) = i - j := wrapI (by omega) (by omega)
    have e3 : wrap64 (j - i) = j - i := wrapI (by omega) (by omega)
    have e4 : wrap64 (m + j) = m + j := wrapI (by omega) (by omega)
    have e5 : wrap64 (m + j - i) = m + j - i := wrapI (by omega) (by omega)
    refine fin_step (fun k => by simp only [zone_change_98.l0, e1, e2, e3, e4, e5]; rfl) ?_
    refine fin_ite (fun _ => ?_) (fun c => fin_ite (fun _ => ?_) (fun _ => ?_))
    · exact fin_bind (swapR_fin l (m - i) m i (by omega) (by omega) (by omega) (by omega) h4) (fun r hr => fin_now hr)
    · refine fin_bind (swapR_fin l (m - i) m j (by omega) (by omega) (by omega) (by omega) h4) (fun r hr => ?_)
      exact fin_mono (ih (i - j) j r (by omega) (by omega) (by omega) (by omega) (by rw [hr.1]; omega) (by rw [hr.1]; omega)) (fun s hs => keeps_trans hr hs)
    · refine fin_bind (swapR_fin l (m - i) (m + j - i) i (by omega) (by omega) (by omega) (by omega) h4) (fun r hr => ?_)
      exact fin_mono (ih i (j - i) r (by omega) (by omega) (by omega) (by omega) (by rw [hr.1]; omega) (by rw [hr.1]; omega)) (fun s hs => keeps_trans hr hs)
theorem rotate_fin (l : List S75) (a m b : Int) (h0 : 0 ≤ a) (h1 : a < m) (h2 : m < b) (h3 : b ≤ l.length) (h4 : l.length ≤ 100000) : Fin (fun k => zone_change_98.f k l a m b) (Keeps l) := by
  unfold zone_change_98.f
  rw [wrapI (n := m - a) (by omega) (by omega), wrapI (n := b - m) (by omega) (by omega)]
  exact rot_loop m ((m - a) + (b - m)).toNat (m - a) (b - m) l (by omega) (by omega) (by omega) (by omega) (by omega) h4

/-! ### symMerge -/
theorem l1_fin (kk : Int) (hk0 : 0 ≤ kk) : ∀ (n : Nat) (i : Int) (l : List S75), 0 ≤ i → kk - 1 ≤ i + n → kk ≤ l.length → l.length ≤ 100000 → Fin (fun k => zone_change_95.l1 k l kk i) (Keeps l) := by
  intro n
  induction n with
  | zero =>
    intro i l i0 h1 h2 h3
    refine fin_step (f := fun _ => some l) (fun k => ?_) (fin_now (keeps_refl l))
    simp only [zone_change_95.l1]
    rw [wrapI (n := kk - 1) (by omega) (by omega), if_neg (by omega)]
  | succ n ih =>
    intro i l i0 h1 h2 h3
    by_cases c : i < wrap64 (kk - 1)
    · have e0 : wrap64 (kk - 1) = kk - 1 := wrapI (by omega) (by omega)
      · rw [e0] at c
        have e1 : wrap64 (i + 1) = i + 1 := wrapI (by omega) (by omega)
        have hk := keeps_swap l (i := i) (j := i + 1) (by omega) (by omega) (by omega) (by omega)
        refine fin_step (fun k => ?_) (fin_mono (ih (i + 1) _ (by omega) (by omega) (by rw [hk.1]; omega) (by rw [hk.1]; omega)) (fun r hr => keeps_trans hk hr))
        simp only [zone_change_95.l1, e0, e1]
        rw [if_pos c, if_pos (show 0 ≤ i + 1 by omega), if_pos (show i + 1 < (l.length : Int) by omega), if_pos (show 0 ≤ i by omega), if_pos (show i < (l.length : Int) by omega)]
    · refine fin_step (f := fun _ => some l) (fun k => ?_) (fin_now (keeps_refl l))
      simp only [zone_change_95.l1]
      rw [if_neg c]
theorem l3_fin (ii : Int) (hi0 : 0 ≤ ii) : ∀ (n : Nat) (i : Int) (l : List S75), i ≤ ii + n → i < l.length → l.length ≤ 100000 → -1000 ≤ i → Fin (fun k => zone_change_95.l3 k l ii i) (Keeps l) := by
  intro n
  induction n with
  | zero =>
    intro i l h1 h2 h3 _
    refine fin_step (f := fun _ => some l) (fun k => ?_) (fin_now (keeps_refl l))
    simp only [zone_change_95.l3]
    rw [if_neg (by omega)]
  | succ n ih =>
    intro i l h1 h2 h3 h4
    by_cases c : i > ii
    · have e1 : wrap64 (i - 1) = i - 1 := wrapI (by omega) (by omega)
      have hk := keeps_swap l (i := i) (j := i - 1) (by omega) (by omega) (by omega) (by omega)
      refine fin_step (fun k => ?_) (fin_mono (ih (i - 1) _ (by omega) (by rw [hk.1]; omega) (by rw [hk.1]; omega) (by omega)) (fun r hr => keeps_trans hk hr))
      simp only [zone_change_95.l3, e1]
      rw [if_pos c, if_pos (show 0 ≤ i - 1 by omega), if_pos (show i - 1 < (l.length : Int) by omega), if_pos (show 0 ≤ i by omega), if_pos (show i < (l.length : Int) by omega)]
    · refine fin_step (f := fun _ => some l) (fun k => ?_) (fin_now (keeps_refl l))
      simp only [zone_change_95.l3]
      rw [if_neg c]
theorem l0_fin (l : List S75) (a : Int) (h0 : 0 ≤ a) (h1 : a < l.length) (hn : l.length ≤ 40000) : ∀ (n : Nat) (i j : Int), j - i ≤ n → 0 ≤ i → j ≤ l.length → i ≤ l.length → Fin (fun k => zone_change_95.l0 k l a i j) (Keeps l) := by
  intro n
  induction n with
  | zero =>
    intro i j h2 h3 h4 h5
    refine fin_step (fun k => ?_) (l1_fin i h3 (l.length) a l h0 (by omega) (by omega) (by omega))
    simp only [zone_change_95.l0]
    rw [if_neg (by omega)]
  | succ n ih =>
    intro i j h2 h3 h4 h5
    by_cases c : i < j
    · have hh := half (n := i + j) (by omega) (by omega)
      obtain ⟨t, ht⟩ := cmp_some (rd_T75 l ((i + j) / 2)).f0 (rd_T75 l ((i + j) / 2)).f1 (rd_T75 l a).f0 (rd_T75 l a).f1
      have e1 : wrap64 ((i + j) / 2 + 1) = (i + j) / 2 + 1 := wrapI (by omega) (by omega)
      refine fin_step (fun k => by simp only [zone_change_95.l0, hh]; rw [if_pos c, if_pos (show 0 ≤ (i + j) / 2 by omega), if_pos (show (i + j) / 2 < (l.length : Int) by omega), if_pos h0, if_pos h1, ht, Option.bind_some, e1]) ?_
      exact fin_ite (fun _ => ih _ _ (by omega) (by omega) (by omega) (by omega)) (fun _ => ih _ _ (by omega) (by omega) (by omega) (by omega))
    · refine fin_step (fun k => ?_) (l1_fin i h3 (l.length) a l h0 (by omega) (by omega) (by omega))
      simp only [zone_change_95.l0]
      rw [if_neg c]
theorem l2_fin (l : List S75) (m : Int) (h0 : 0 ≤ m) (h1 : m < l.length) (hn : l.length ≤ 40000) : ∀ (n : Nat) (i j : Int), j - i ≤ n → 0 ≤ i → j ≤ l.length → i ≤ l.length → Fin (fun k => zone_change_95.l2 k l m i j) (Keeps l) := by
  intro n
  induction n with
  | zero =>
    intro i j h2 h3 h4 h5
    refine fin_step (fun k => ?_) (l3_fin i h3 (l.length) m l (by omega) (by omega) (by omega) (by omega))
    simp only [zone_change_95.l2]
    rw [if_neg (by omega)]
  | succ n ih =>
    intro i j h2 h3 h4 h5
    by_cases c : i < j
    · have hh := half (n := i + j) (by omega) (by omega)
      obtain ⟨t, ht⟩ := cmp_some (rd_T75 l m).f0 (rd_T75 l m).f1 (rd_T75 l ((i + j) / 2)).f0 (rd_T75 l ((i + j) / 2)).f1
      have e1 : wrap64 ((i + j) / 2 + 1) = (i + j) / 2 + 1 := wrapI (by omega) (by omega)
      refine fin_step (fun k => by simp only [zone_change_95.l2, hh]; rw [if_pos c, if_pos h0, if_pos h1, if_pos (show 0 ≤ (i + j) / 2 by omega), if_pos (show (i + j) / 2 < (l.length : Int) by omega), ht, Option.bind_some, e1]) ?_
      exact fin_ite (fun _ => ih _ _ (by omega) (by omega) (by omega) (by omega)) (fun _ => ih _ _ (by omega) (by omega) (by omega) (by omega))
    · refine fin_step (fun k => ?_) (l3_fin i h3 (l.length) m l (by omega) (by omega) (by omega) (by omega))
      simp only [zone_change_95.l2]
      rw [if_neg c]

/-- What is asked of a merge of parts of n elements at most. -/
def Merges (n : Nat) : Prop := ∀ (l : List S75) (a m b : Int), b - a ≤ n → 0 ≤ a → a < m → m < b → b ≤ l.length → l.length ≤ 20000 → Fin (fun k => zone_change_95.f k l a m b) (Keeps l)
theorem j8_fin {n : Nat} (ih : Merges n) (l : List S75) (a b mid s e : Int) (hn : l.length ≤ 20000) (ha : 0 ≤ a) (h1 : mid - a ≤ n) (h2 : b - mid ≤ n) (hb : b ≤ l.length) (hm : mid ≤ b) (has : a ≤ mid) (z : Bool) (hz : z = true → a < s ∧ s < mid) :
    Fin (fun k => zone_change_95.j8 k l a b mid s e z) (Keeps l) := by
  have right : ∀ r : List S75, Keeps l r → Fin (fun k => if mid < e then (if e < b then ((zone_change_95.f k r mid e b).bind fun t205 => (some t205)) else (some r)) else (some r)) (Keeps l) := fun r hr =>
    fin_ite (fun c1 => fin_ite (fun c2 => fin_bind (ih r mid e b h2 (by omega) c1 c2 (by rw [hr.1]; exact hb) (by rw [hr.1]; exact hn)) (fun u hu => fin_now (keeps_trans hr hu))) (fun _ => fin_now hr)) (fun _ => fin_now hr)
  cases z with
  | true =>
    obtain ⟨g1, g2⟩ := hz rfl
    refine fin_step (fun k => by simp only [zone_change_95.j8]; rfl) ?_
    simp only [if_true]
    exact fin_bind (ih l a s mid h1 ha g1 g2 (by omega) hn) (fun r hr => right r hr)
  | false =>
    refine fin_step (fun k => by simp only [zone_change_95.j8]; rfl) ?_
    simp only [Bool.false_eq_true, if_false]
    exact right l (keeps_refl l)
theorem j7_fin {n : Nat} (ih : Merges n) (l : List S75) (a b mid s e : Int) (hn : l.length ≤ 20000) (ha : 0 ≤ a) (h1 : mid - a ≤ n) (h2 : b - mid ≤ n) (hb : b ≤ l.length) (hm : mid ≤ b) (has : a ≤ mid) :
    Fin (fun k => zone_change_95.j7 k l a b mid s e) (Keeps l) := by
  refine fin_step (fun k => by simp only [zone_change_95.j7]; rfl) ?_
  exact fin_ite (fun c => j8_fin ih l a b mid s e hn (by omega) h1 h2 hb hm has _ (fun h => ⟨c, of_decide_eq_true h⟩)) (fun _ => j8_fin ih l a b mid s e hn (by omega) h1 h2 hb hm has false (fun h => by cases h))
theorem j6_fin {n : Nat} (ih : Merges n) (l : List S75) (a m b mid s e : Int) (hn : l.length ≤ 20000) (ha : 0 ≤ a) (h1 : mid - a ≤ n) (h2 : b - mid ≤ n) (hb : b ≤ l.length) (hm : mid ≤ b) (has : a ≤ mid) (hs : 0 ≤ s) (he : e ≤ b) (z : Bool) (hz : z = true → s < m ∧ m < e) :
    Fin (fun k => zone_change_95.j6 k l a m b mid s e z) (Keeps l) := by
  cases z with
  | true =>
    obtain ⟨g1, g2⟩ := hz rfl
    refine fin_step (fun k => by simp only [zone_change_95.j6]; rfl) ?_
    simp only [if_true]
    refine fin_bind (rotate_fin l s m e hs g1 g2 (by omega) (by omega)) (fun r hr => ?_)
    exact fin_mono (j7_fin ih r a b mid s e (by rw [hr.1]; exact hn) ha h1 h2 (by rw [hr.1]; exact hb) hm has) (fun u hu => keeps_trans hr hu)
  | false =>
    refine fin_step (fun k => by simp only [zone_change_95.j6]; rfl) ?_
    simp only [Bool.false_eq_true, if_false]
    exact j7_fin ih l a b mid s e hn ha h1 h2 hb hm has
theorem l4_fin {n : Nat} (ih : Merges n) (l : List S75) (a m b mid s0 r0 : Int) (hn : l.length ≤ 20000) (ha : 0 ≤ a) (h1 : mid - a ≤ n) (h2 : b - mid ≤ n) (hb : b ≤ l.length) (hm : mid ≤ b) (has : a ≤ mid) (hs0 : 0 ≤ s0)
    (hlo : mid + m - r0 ≥ 0) (hhi : mid + m - s0 ≤ b) (hr0 : r0 ≤ b) : ∀ (q : Nat) (s r : Int), r - s ≤ q → s0 ≤ s → r ≤ r0 → s ≤ r0 → Fin (fun k => zone_change_95.l4 k l a m b mid (mid + m) s r (mid + m - 1)) (Keeps l) := by
  have done : ∀ s, s0 ≤ s → s ≤ r0 → Fin (fun k => if s < m then (zone_change_95.j6 k l a m b mid s (wrap64 (mid + m - s)) (decide (m < (wrap64 (mid + m - s))))) else (zone_change_95.j6 k l a m b mid s (wrap64 (mid + m - s)) false)) (Keeps l) := by
    intro s g1 g2
    rw [wrapI (n := mid + m - s) (by omega) (by omega)]
    exact fin_ite (fun c => j6_fin ih l a m b mid s _ hn ha h1 h2 hb hm has (by omega) (by omega) _ (fun h => ⟨c, of_decide_eq_true h⟩)) (fun _ => j6_fin ih l a m b mid s _ hn ha h1 h2 hb hm has (by omega) (by omega) false (fun h => by cases h))
  intro q
  induction q with
  | zero =>
    intro s r g1 g2 g3 g4
    refine fin_step (fun k => ?_) (done s g2 g4)
    simp only [zone_change_95.l4]
    rw [if_neg (show ¬ s < r by omega)]
  | succ q ihq =>
    intro s r g1 g2 g3 g4
    by_cases c : s < r
    · have hh := half (n := s + r) (by omega) (by omega)
      have e0 : wrap64 (mid + m - 1 - (s + r) / 2) = mid + m - 1 - (s + r) / 2 := wrapI (by omega) (by omega)
      have e1 : wrap64 ((s + r) / 2 + 1) = (s + r) / 2 + 1 := wrapI (by omega) (by omega)
      obtain ⟨t, ht⟩ := cmp_some (rd_T75 l (mid + m - 1 - (s + r) / 2)).f0 (rd_T75 l (mid + m - 1 - (s + r) / 2)).f1 (rd_T75 l ((s + r) / 2)).f0 (rd_T75 l ((s + r) / 2)).f1
      refine fin_step (fun k => by simp only [zone_change_95.l4, hh]; rw [if_pos c, e0, if_pos (show 0 ≤ mid + m - 1 - (s + r) / 2 by omega), if_pos (show mid + m - 1 - (s + r) / 2 < (l.length : Int) by omega), if_pos (show 0 ≤ (s + r) / 2 by omega), if_pos (show (s + r) / 2 < (l.length : Int) by omega), ht, Option.bind_some, e1]) ?_
      exact fin_ite (fun _ => ihq _ _ (by omega) (by omega) (by omega) (by omega)) (fun _ => ihq _ _ (by omega) (by omega) (by omega) (by omega))
    · refine fin_step (fun k => ?_) (done s g2 g4)
      simp only [zone_change_95.l4]
      rw [if_neg c]
theorem merges : ∀ n, Merges n
  | 0 => fun l a m b h => by omega
  | n + 1 => fun l a m b h h0 h1 h2 h3 h4 => by
    have ih := merges n
    have e1 : wrap64 (m - a) = m - a := wrapI (by omega) (by omega)
    have e2 : wrap64 (b - m) = b - m := wrapI (by omega) (by omega)
    have hh := half (n := a + b) (by omega) (by omega)
    have e3 : wrap64 ((a + b) / 2 + m) = (a + b) / 2 + m := wrapI (by omega) (by omega)
    have e4 : wrap64 ((a + b) / 2 + m - b) = (a + b) / 2 + m - b := wrapI (by omega) (by omega)
    have e5 : wrap64 ((a + b) / 2 + m - 1) = (a + b) / 2 + m - 1 := wrapI (by omega) (by omega)
    refine fin_step (fun k => by simp only [zone_change_95.f, e1, e2, hh, e3, e4]; rfl) ?_
    refine fin_ite (fun _ => l0_fin l a h0 (by omega) (by omega) (b - m).toNat m b (by omega) (by omega) h3 (by omega)) (fun c1 => fin_ite (fun _ => l2_fin l m (by omega) (by omega) (by omega) (m - a).toNat a m (by omega) h0 (by omega) (by omega)) (fun c2 => ?_))
    refine fin_ite (fun c => ?_) (fun c => ?_)
    · refine fin_step (fun k => by simp only [zone_change_95.j4, e5]; rfl) ?_
      exact l4_fin ih l a m b ((a + b) / 2) ((a + b) / 2 + m - b) ((a + b) / 2) h4 h0 (by omega) (by omega) h3 (by omega) (by omega) (by omega) (by omega) (by omega) (by omega) l.length _ _ (by omega) (Int.le_refl _) (Int.le_refl _) (by omega)
    · refine fin_step (fun k => by simp only [zone_change_95.j4, e5]; rfl) ?_
      exact l4_fin ih l a m b ((a + b) / 2) a m h4 h0 (by omega) (by omega) h3 (by omega) (by omega) h0 (by omega) (by omega) (by omega) l.length _ _ (by omega) (Int.le_refl _) (Int.le_refl _) (by omega)

/-! ### the whole -/
theorem blocks_fin (n bs : Int) (hbs : 1 ≤ bs) (hbs1 : bs ≤ 20000) (out : ∀ l : List S75, l.length = n.toNat → l.length ≤ 10000 → Fin (fun k => zone_change_80.l1 k l n (wrap64 (bs * 2))) (Keeps l)) : ∀ (q : Nat) (a : Int) (l : List S75), n - a ≤ q → l.length = n.toNat → 0 ≤ n → l.length ≤ 10000 → 0 ≤ a → a ≤ n →
    Fin (fun k => zone_change_80.l2 k l n bs a (a + 2 * bs)) (Keeps l) := by
  intro q
  induction q with
  | zero =>
    intro a l h1 hl hn hL h0 ha
    have e1 : wrap64 (a + bs) = a + bs := wrapI (by omega) (by omega)
    refine fin_step (fun k => ?_) (out l hl hL)
    simp only [zone_change_80.l2, e1]
    rw [if_neg (by omega), if_neg (by omega)]
  | succ q ih =>
    intro a l h1 hl hn hL h0 ha
    have e1 : wrap64 (a + bs) = a + bs := wrapI (by omega) (by omega)
    have e2 : wrap64 (2 * bs) = 2 * bs := wrapI (by omega) (by omega)
    have e3 : wrap64 (a + 2 * bs + 2 * bs) = a + 2 * bs + 2 * bs := wrapI (by omega) (by omega)
    refine fin_step (fun k => by simp only [zone_change_80.l2, e1, e2, e3]; rfl) ?_
    refine fin_ite (fun c => ?_) (fun _ => fin_ite (fun c => ?_) (fun _ => out l hl hL))
    · refine fin_bind (merges (2 * bs).toNat l a (a + bs) (a + 2 * bs) (by omega) h0 (by omega) (by omega) (by omega) (by omega)) (fun r hr => ?_)
      exact fin_mono (ih (a + 2 * bs) r (by omega) (by rw [hr.1]; exact hl) hn (by rw [hr.1]; exact hL) (by omega) c) (fun u hu => keeps_trans hr hu)
    · refine fin_bind (merges (2 * bs).toNat l a (a + bs) n (by omega) h0 (by omega) (by omega) (by omega) (by omega)) (fun r hr => ?_)
      exact fin_mono (out r (by rw [hr.1]; exact hl) (by rw [hr.1]; exact hL)) (fun u hu => keeps_trans hr hu)
theorem rounds_fin (n : Int) (hn : 0 ≤ n) : ∀ (q : Nat) (bs : Int) (l : List S75), n ≤ bs + q → 1 ≤ bs → bs ≤ 20000 → l.length = n.toNat → l.length ≤ 10000 → Fin (fun k => zone_change_80.l1 k l n bs) (Keeps l) := by
  intro q
  induction q with
  | zero =>
    intro bs l h1 h2 h3 hl hL
    refine fin_step (f := fun _ => some l) (fun k => ?_) (fin_now (keeps_refl l))
    simp only [zone_change_80.l1]
    rw [if_neg (by omega)]
  | succ q ih =>
    intro bs l h1 h2 h3 hl hL
    by_cases c : bs < n
    · have e2 : wrap64 (2 * bs) = 2 * bs := wrapI (by omega) (by omega)
      have e4 : wrap64 (bs * 2) = bs * 2 := wrapI (by omega) (by omega)
      refine fin_step (fun k => ?_) (blocks_fin n bs h2 h3 (fun m hm hM => by rw [e4]; exact ih (bs * 2) m (by omega) (by omega) (by omega) hm hM) l.length 0 l (by omega) hl hn hL (Int.le_refl _) hn)
      simp only [zone_change_80.l1, e2]
      rw [if_pos c, Int.zero_add]
    · refine fin_step (f := fun _ => some l) (fun k => ?_) (fin_now (keeps_refl l))
      simp only [zone_change_80.l1]
      rw [if_neg c]
theorem first_fin (n : Int) (hn : 0 ≤ n) : ∀ (q : Nat) (a : Int) (l : List S75), n ≤ a + q → 0 ≤ a → a ≤ n → l.length = n.toNat → l.length ≤ 10000 → Fin (fun k => zone_change_80.l0 k l n 20 a (a + 20)) (Keeps l) := by
  intro q
  induction q with
  | zero =>
    intro a l h1 h0 ha hl hL
    refine fin_step (fun k => by simp only [zone_change_80.l0]; rw [if_neg (show ¬ a + 20 ≤ n by omega)]) ?_
    refine fin_bind (ins_fin l a n h0 (by omega) (by omega) (by omega)) (fun r hr => ?_)
    exact fin_mono (rounds_fin n hn n.toNat 20 r (by omega) (by omega) (by omega) (by rw [hr.1]; exact hl) (by rw [hr.1]; exact hL)) (fun u hu => keeps_trans hr hu)
  | succ q ih =>
    intro a l h1 h0 ha hl hL
    have e : wrap64 (a + 20 + 20) = a + 20 + 20 := wrapI (by omega) (by omega)
    refine fin_step (fun k => by simp only [zone_change_80.l0, e]; rfl) ?_
    refine fin_ite (fun c => ?_) (fun _ => ?_)
    · refine fin_bind (ins_fin l a (a + 20) h0 (by omega) (by omega) (by omega)) (fun r hr => ?_)
      exact fin_mono (ih (a + 20) r (by omega) (by omega) c (by rw [hr.1]; exact hl) (by rw [hr.1]; exact hL)) (fun u hu => keeps_trans hr hu)
    · refine fin_bind (ins_fin l a n h0 (by omega) (by omega) (by omega)) (fun r hr => ?_)
      exact fin_mono (rounds_fin n hn n.toNat 20 r (by omega) (by omega) (by omega) (by rw [hr.1]; exact hl) (by rw [hr.1]; exact hL)) (fun u hu => keeps_trans hr hu)
/-- The stable sort of a short list. -/
theorem stable_fin (l : List S75) (hn : l.length ≤ 10000) : Fin (fun k => zone_change_58.f k l) (Keeps l) := by
  unfold zone_change_58.f zone_change_80.f
  exact fin_bind (first_fin (l.length : Int) (by omega) l.length 0 l (by omega) (Int.le_refl _) (by omega) (by omega) hn) (fun r hr => fin_now hr)
end Go.Proofs.Ytlplmkllmgdifaa.Stable

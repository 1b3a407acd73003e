/- The library's insertion sort of whole numbers: it comes to an end, and tells a list that rises and has what it was given. -/
import Derived.Test.YtlplmkllmgdifaaTotal
import Derived.Test.YtlplmkllmgdifaaPZx14
namespace Go.Proofs.Ytlplmkllmgdifaa.Sorts
open Go.RowKit Go.Proofs.YtlplmkllmgdifaaW.PrintWords Go.Proofs.YtlplmkllmgdifaaW.PrintLast Go.Proofs.YtlplmkllmgdifaaW.PrintMore Go.Proofs.Ytlplmkllmgdifaa.PZ Go.Proofs.Ytlplmkllmgdifaa.Cal Go.Proofs.Ytlplmkllmgdifaa.Total

def Rise (l : List Int) : Prop := l.Pairwise (· ≤ ·)
theorem less_f (a b : Int) : cmp_Less_int64.f a b = some (decide (a < b)) := by
  unfold cmp_Less_int64.f cmp_isNaN_int64.f
  simp
theorem rd_mid (P : List Int) (v : Int) (Q : List Int) : rd (P ++ v :: Q) (P.length : Int) = v := by
  show (P ++ v :: Q).getD ((P.length : Int)).toNat _ = v
  simp
theorem rd_last (P : List Int) (p v : Int) (Q : List Int) : rd ((P ++ [p]) ++ v :: Q) ((P.length : Int)) = p := by
  show ((P ++ [p]) ++ v :: Q).getD ((P.length : Int)).toNat _ = p
  simp
theorem swap_mid (P : List Int) (p v : Int) (Q : List Int) : ((((P ++ [p]) ++ v :: Q).set (P.length + 1) p).set P.length v) = P ++ v :: (p :: Q) := by
  rw [List.append_assoc, List.set_append_right _ _ (by omega), List.set_append_right _ _ (by omega)]
  simp
theorem inner (x2 x6 : Int) (R : List Int) (hx : 0 ≤ x6 ∧ x6 < 1000)
    (out : ∀ S : List Int, (S.length : Int) = x6 + 1 → Rise S → Fin (fun k => slices_insertionSortOrdered_int64.l0 k (S ++ R) 0 x2 (x6 + 1)) (fun r => Rise r ∧ r.Perm (S ++ R))) :
    ∀ (n : Nat) (P Q : List Int) (v : Int), P.length = n → (P.length + 1 + Q.length : Int) = x6 + 1 → Rise (P ++ Q) → (∀ q, q ∈ Q → v ≤ q) →
    Fin (fun k => slices_insertionSortOrdered_int64.l1 k (P ++ v :: (Q ++ R)) 0 x2 x6 (P.length : Int)) (fun r => Rise r ∧ r.Perm (P ++ v :: (Q ++ R))) := by
  intro n
  induction n with
  | zero =>
    intro P Q v hP hL hr hv
    obtain rfl := List.length_eq_zero_iff.mp hP
    have e : wrap64 (x6 + 1) = x6 + 1 := wrapI (by omega) (by omega)
    refine fin_step (fun k => ?_) (out (v :: Q) (by simp only [List.length_cons, List.length_nil] at hL ⊢; omega) (List.pairwise_cons.mpr ⟨hv, hr⟩))
    simp only [slices_insertionSortOrdered_int64.l1, e]
    rw [if_neg (by simp)]
    rfl
  | succ n ih =>
    intro P Q v hP hL hr hv
    obtain ⟨P', p, rfl⟩ : ∃ P' p, P = P' ++ [p] := by
      rcases List.eq_nil_or_concat P with h | ⟨P', p, h⟩
      · rw [h] at hP; cases hP
      · exact ⟨P', p, by rw [h, List.concat_eq_append]⟩
    have hP' : P'.length = n := by simpa using hP
    have e0 : (((P' ++ [p]).length : Nat) : Int) = (P'.length : Int) + 1 := by simp
    rw [e0] at hL ⊢
    have e1 : wrap64 ((P'.length : Int) + 1 - 1) = (P'.length : Int) := by rw [show (P'.length : Int) + 1 - 1 = (P'.length : Int) by omega]; exact wrapI (by omega) (by omega)
    have e : wrap64 (x6 + 1) = x6 + 1 := wrapI (by omega) (by omega)
    have e2 : rd ((P' ++ [p]) ++ v :: (Q ++ R)) ((P'.length : Int) + 1) = v := by
      have := rd_mid (P' ++ [p]) v (Q ++ R)
      rwa [e0] at this
    have e3 := rd_last P' p v (Q ++ R)
    have e4 := swap_mid P' p v (Q ++ R)
    have len : (((P' ++ [p]) ++ v :: (Q ++ R)).length : Int) = (P'.length : Int) + 2 + (Q.length : Int) + (R.length : Int) := by simp; omega
    have t1 : ((P'.length : Int) + 1).toNat = P'.length + 1 := by omega
    have t2 : ((P'.length : Int)).toNat = P'.length := by omega
    refine fin_step (f := fun k => if v < p then slices_insertionSortOrdered_int64.l1 k (P' ++ v :: (p :: (Q ++ R))) 0 x2 x6 (P'.length : Int) else slices_insertionSortOrdered_int64.l0 k ((P' ++ [p]) ++ v :: (Q ++ R)) 0 x2 (x6 + 1)) (fun k => ?_) (fin_ite (fun c => ?_) (fun c => ?_))
    · simp only [slices_insertionSortOrdered_int64.l1, e, e1, e2, e3, less_f, t1, t2, e4, Option.bind_some, decide_eq_true_eq]
      rw [if_pos (by omega), if_pos (by omega), if_pos (by omega), if_pos (by omega), if_pos (by omega)]
    · have hr' : Rise (P' ++ (p :: Q)) := by
        have : (P' ++ [p]) ++ Q = P' ++ (p :: Q) := by simp
        rwa [this] at hr
      have g := ih P' (p :: Q) v hP' (by simp only [List.length_cons]; omega) hr' (fun q hq => by
        rcases List.mem_cons.mp hq with rfl | hq
        · omega
        · exact hv q hq)
      refine fin_mono g (fun r hr => ⟨hr.1, hr.2.trans ?_⟩)
      have : ((P' ++ [p]) ++ v :: (Q ++ R)) = P' ++ (p :: v :: (Q ++ R)) := by simp
      rw [this]
      exact (List.Perm.swap p v (Q ++ R)).append_left P'
    · have hs : ((P' ++ [p]) ++ v :: (Q ++ R)) = ((P' ++ [p]) ++ v :: Q) ++ R := by simp
      have hrise : Rise ((P' ++ [p]) ++ v :: Q) := by
        have hr0 := hr
        unfold Rise at hr ⊢
        rw [List.pairwise_append] at hr ⊢
        refine ⟨hr.1, List.pairwise_cons.mpr ⟨hv, hr.2.1⟩, fun a ha b hb => ?_⟩
        rcases List.mem_cons.mp hb with rfl | hb
        · have hp : a ≤ p := by
            have := hr.1
            rw [List.pairwise_append] at this
            rcases List.mem_append.mp ha with ha | ha
            · exact this.2.2 a ha p (List.mem_singleton.mpr rfl)
            · rw [List.mem_singleton.mp ha]; exact Int.le_refl _
          omega
        · exact hr.2.2 a ha b hb
      rw [hs]
      exact out _ (by simp; omega) hrise
theorem outer (x2 : Int) : ∀ (R S : List Int), (S.length + R.length : Int) = x2 → x2 < 1000 → Rise S → Fin (fun k => slices_insertionSortOrdered_int64.l0 k (S ++ R) 0 x2 (S.length : Int)) (fun r => Rise r ∧ r.Perm (S ++ R)) := by
  intro R
  induction R with
  | nil =>
    intro S h1 h2 h3
    refine fin_step (f := fun _ => some (S ++ [])) (fun k => ?_) (fin_now ⟨(by simpa using h3), List.Perm.refl _⟩)
    simp only [slices_insertionSortOrdered_int64.l0]
    rw [if_neg (by simp only [List.length_nil] at h1; omega)]
  | cons v R ih =>
    intro S h1 h2 h3
    simp only [List.length_cons] at h1
    have g := inner x2 (S.length : Int) R (by omega) (fun T hT hrT => by
      have := ih T (by omega) h2 hrT
      rw [hT] at this
      exact this) S.length S [] v rfl (by simp) (by simpa using h3) (fun q hq => by cases hq)
    refine fin_step (fun k => ?_) g
    simp only [slices_insertionSortOrdered_int64.l0]
    rw [if_pos (by omega)]
    rfl
theorem sort_one (l : List Int) (hn : l.length ≤ 12) : Fin (fun k => slices_insertionSortOrdered_int64.f k l 0 (l.length : Int)) (fun r => Rise r ∧ r.Perm l) := by
  unfold slices_insertionSortOrdered_int64.f
  rw [show wrap64 (0 + 1) = 1 from wrapI (by omega) (by omega)]
  match l, hn with
  | [], _ =>
    refine fin_step (f := fun _ => some []) (fun k => ?_) (fin_now ⟨List.Pairwise.nil, List.Perm.refl _⟩)
    simp only [slices_insertionSortOrdered_int64.l0]
    rw [if_neg (by simp)]
  | v :: R, hn =>
    have := outer ((v :: R).length : Int) R [v] (by simp; omega) (by omega) (List.pairwise_cons.mpr ⟨fun _ h => absurd h List.not_mem_nil, List.Pairwise.nil⟩)
    simpa using this
end Go.Proofs.Ytlplmkllmgdifaa.Sorts

/- Facts of the instances of a window: apart, in order, of originals of the series; wider windows; one change put. -/
import Derived.Test.YtkgkblmeafhkfaaInsts
set_option linter.unusedVariables false
namespace Go.Proofs.Ytkgkblmeafhkfaa.Core
open Go.RowKit Go.Proofs.YtkgkblmeafhkfaaW.PrintWords Go.Proofs.YtkgkblmeafhkfaaW.PrintLast Go.Proofs.YtkgkblmeafhkfaaW.PrintMore Go.Proofs.Ytkgkblmeafhkfaa.PS Go.Proofs.Ytkgkblmeafhkfaa.Cal Go.Proofs.Ytkgkblmeafhkfaa.Base Go.Proofs.Ytkgkblmeafhkfaa.Match Go.Proofs.Ytkgkblmeafhkfaa.Times Go.Proofs.Ytkgkblmeafhkfaa.Insts

theorem lt_no (x y : S37) : series_Instance_20.lt x y = false ↔ ¬ (x.f1 < y.f1 ∨ (x.f1 = y.f1 ∧ x.f0 < y.f0)) := by rw [Bool.eq_false_iff]; simp [series_Instance_20.lt]
theorem keep_apart (s1 : Int) (l12 : List S39) (lo hi : Int) {os : List Int} (h : os.Pairwise (· < ·)) : ((os.filterMap (keep s1 l12 lo hi)).map (·.f0)).Pairwise (· ≠ ·) :=
  (h.sublist (keep_sub s1 l12 lo hi os)).imp (fun h e => by omega)
theorem keep_f0 {s1 : Int} {l12 : List S39} {lo hi t : Int} {x : S37} (h : keep s1 l12 lo hi t = some x) : x.f0 = t := by
  unfold keep at h
  split at h
  · cases h; exact instOf_1 s1 l12 t
  · cases h
theorem filter_isort (p : S37 → Bool) {xs : List S37} (hd : (xs.map (·.f0)).Pairwise (· ≠ ·)) : (Sort.isort series_Instance_20.lt xs).filter p = Sort.isort series_Instance_20.lt (xs.filter p) := by
  refine series_Instance_20.uniq ?_ ((Sort.isort_perm _ xs).filter p) ((Sort.isort_sorted series_Instance_20.swo xs).filter p)
  rw [List.pairwise_map] at hd ⊢
  exact hd.filter p
section
variable (s0 s1 : Int) (s2 : Bool) (r0 r1 r2 r3 : Int) (l7 l8 : List Int) (l9 : List S78) (l10 l11 : List Int) (l12 : List S39)
theorem insts_mem {fr till : Int} {x : S37} : x ∈ instsOf s0 s1 s2 r0 r1 r2 r3 l7 l8 l9 l10 l11 l12 fr till ↔ x.f0 ∈ origs s0 s2 r0 r1 r2 r3 l7 l8 l9 l10 l11 (mx (wrap64 (fr - 2592000)) 0) (mn (wrap64 (till + 2592000)) 253402300799) ∧ keep s1 l12 fr till x.f0 = some x := by
  unfold instsOf
  rw [(Sort.isort_perm _ _).mem_iff, List.mem_filterMap]
  constructor
  · rintro ⟨t, ht, hk⟩
    have := keep_f0 hk
    subst this
    exact ⟨ht, hk⟩
  · rintro ⟨ht, hk⟩
    exact ⟨_, ht, hk⟩
theorem insts_apart (fr till : Int) : ((instsOf s0 s1 s2 r0 r1 r2 r3 l7 l8 l9 l10 l11 l12 fr till).map (·.f0)).Pairwise (· ≠ ·) := by
  unfold instsOf
  have h := keep_apart s1 l12 fr till (origs_spec s0 s2 r0 r1 r2 r3 l7 l8 l9 l10 l11 (mx (wrap64 (fr - 2592000)) 0) (mn (wrap64 (till + 2592000)) 253402300799)).1
  exact ((Sort.isort_perm series_Instance_20.lt _).map (·.f0)).symm.pairwise h (fun h e => h e.symm)
theorem insts_up (fr till : Int) : (instsOf s0 s1 s2 r0 r1 r2 r3 l7 l8 l9 l10 l11 l12 fr till).Pairwise (fun a b => a.f1 ≤ b.f1) := by
  unfold instsOf
  refine (Sort.isort_sorted series_Instance_20.swo _).imp (fun {a b} h => ?_)
  have := (lt_no b a).1 h
  omega
/-- What an instance of the window is. -/
theorem insts_one {fr till : Int} {x : S37} (hup : (l12.map (·.f0)).Pairwise (· < ·)) (h : x ∈ instsOf s0 s1 s2 r0 r1 r2 r3 l7 l8 l9 l10 l11 l12 fr till) :
    x.f0 ∉ l10 ∧ (∀ c, c ∈ l12 → c.f0 = x.f0 → c.f3 = false ∧ x.f3 = true ∧ x.f1 = c.f1) ∧ (x.f3 = false → x.f1 = x.f0 ∧ x.f2 = wrap64 (x.f1 + s1)) ∧ x.f1 < till ∧ (x.f2 > fr ∨ (x.f1 = x.f2 ∧ x.f1 ≥ fr)) := by
  obtain ⟨ho, hk⟩ := (insts_mem s0 s1 s2 r0 r1 r2 r3 l7 l8 l9 l10 l11 l12).1 h
  have hl := ((origs_spec s0 s2 r0 r1 r2 r3 l7 l8 l9 l10 l11 _ _).2 _).1 ho
  refine ⟨hl.2, ?_⟩
  clear ho hl h
  unfold keep at hk
  split at hk
  · rename_i hw
    have hx := Option.some.inj hk
    have e1 : (instOf s1 l12 x.f0).2.1 = x.f1 := congrArg S37.f1 hx
    have e2 : (instOf s1 l12 x.f0).2.2.1 = x.f2 := congrArg S37.f2 hx
    have e3 : (instOf s1 l12 x.f0).2.2.2.1 = x.f3 := congrArg S37.f3 hx
    clear hx hk
    unfold inWin at hw
    rw [e1, e2] at hw
    simp only [Bool.and_eq_true, Bool.or_eq_true, decide_eq_true_eq, beq_iff_eq] at hw
    refine ⟨fun c hc hcf => ?_, fun h3 => ?_, hw.2.1, hw.2.2⟩
    · have hch := changeOf_mem hup hc
      rw [hcf] at hch
      unfold instOf at hw e1 e3
      rw [hch] at hw e1 e3
      have h4 := hw.1
      simp only [Bool.not_eq_true'] at h4
      exact ⟨h4, e3.symm, e1.symm⟩
    · unfold instOf at e1 e2 e3
      cases hch : changeOf l12 x.f0 with
      | some c =>
        rw [hch] at e3
        simp only at e3
        rw [h3] at e3
        cases e3
      | none =>
        rw [hch] at e1 e2
        simp only at e1 e2
        rw [← e1]
        exact ⟨rfl, e2.symm⟩
  · cases hk
/-! ### wider windows -/
end
theorem ahead_mono (cnt until_ first t1 t2 : Int) (ht : t1 ≤ t2) : ∀ (ds ds' : List Int) (c : Nat) (d : Int), ds <+: ds' → d ∈ Times.ahead cnt until_ first t1 c ds → d ∈ Times.ahead cnt until_ first t2 c ds' := by
  intro ds
  induction ds with
  | nil => intro ds' c d _ h; cases h
  | cons e ds ih =>
    intro ds' c d hp h
    obtain ⟨t, rfl⟩ := hp
    rw [List.cons_append]
    unfold Times.ahead at h ⊢
    by_cases hs : stops cnt until_ first t1 c e = true
    · rw [if_pos hs] at h; cases h
    · rw [if_neg hs] at h
      have hs2 : ¬ stops cnt until_ first t2 c e = true := by
        intro hc
        apply hs
        unfold stops at hc ⊢
        simp only [Bool.or_eq_true, decide_eq_true_eq] at hc ⊢
        rcases hc with (hc | hc) | hc
        · exact .inl (.inl (by omega))
        · exact .inl (.inr hc)
        · exact .inr hc
      rw [if_neg hs2]
      rcases List.mem_cons.1 h with rfl | h
      · exact List.mem_cons_self
      · exact List.mem_cons_of_mem _ (ih _ _ _ (List.prefix_append ds t) h)
section
variable (s0 s1 : Int) (s2 : Bool) (r0 r1 r2 r3 : Int) (l7 l8 : List Int) (l9 : List S78) (l10 l11 : List Int) (l12 : List S39)
theorem times_mono {lo hi lo' hi' t : Int} (h1 : lo' ≤ lo) (h2 : hi ≤ hi') (h : t ∈ timesIn r0 r1 r2 r3 l7 l8 l9 s0 lo hi) : t ∈ timesIn r0 r1 r2 r3 l7 l8 l9 s0 lo' hi' := by
  unfold timesIn at h ⊢
  obtain ⟨d, hd, rfl⟩ := List.mem_map.1 h
  obtain ⟨hd, hlo⟩ := List.mem_filter.1 hd
  refine List.mem_map.2 ⟨d, List.mem_filter.2 ⟨?_, ?_⟩, rfl⟩
  · refine ahead_mono r2 r3 s0 hi hi' h2 _ _ 0 d ?_ hd
    unfold daysTo
    exact (span_prefix _ _ _ (by omega) _ _).filter _
  · simp only [decide_eq_true_eq] at hlo ⊢
    omega
theorem all_mono {lo hi lo' hi' t : Int} (h1 : lo' ≤ lo) (h2 : hi ≤ hi') (h : t ∈ allTimes s0 s2 r0 r1 r2 r3 l7 l8 l9 l11 lo hi) : t ∈ allTimes s0 s2 r0 r1 r2 r3 l7 l8 l9 l11 lo' hi' := by
  unfold allTimes ruleTimes at h ⊢
  rw [List.mem_append] at h ⊢
  rcases h with h | h
  · refine .inl ?_
    by_cases c : s2 = true
    · rw [if_pos c] at h ⊢
      exact times_mono s0 r0 r1 r2 r3 l7 l8 l9 h1 h2 h
    · rw [if_neg c] at h; cases h
  · refine .inr ?_
    obtain ⟨ha, hb⟩ := List.mem_filter.1 h
    refine List.mem_filter.2 ⟨ha, ?_⟩
    unfold win at hb ⊢
    simp only [Bool.and_eq_true, decide_eq_true_eq] at hb ⊢
    omega
theorem insts_mono {fr till fr' till' : Int} {x : S37} (h0 : 0 ≤ fr' ∧ fr' ≤ fr ∧ fr ≤ 253402300799) (h1 : 0 ≤ till ∧ till ≤ till' ∧ till' ≤ 253402300799) (h : x ∈ instsOf s0 s1 s2 r0 r1 r2 r3 l7 l8 l9 l10 l11 l12 fr till) :
    x ∈ instsOf s0 s1 s2 r0 r1 r2 r3 l7 l8 l9 l10 l11 l12 fr' till' := by
  obtain ⟨ho, hk⟩ := (insts_mem s0 s1 s2 r0 r1 r2 r3 l7 l8 l9 l10 l11 l12).1 h
  refine (insts_mem s0 s1 s2 r0 r1 r2 r3 l7 l8 l9 l10 l11 l12).2 ⟨?_, ?_⟩
  · have e1 : wrap64 (fr - 2592000) = fr - 2592000 := wrapI (by omega) (by omega)
    have e2 : wrap64 (fr' - 2592000) = fr' - 2592000 := wrapI (by omega) (by omega)
    have e3 : wrap64 (till + 2592000) = till + 2592000 := wrapI (by omega) (by omega)
    have e4 : wrap64 (till' + 2592000) = till' + 2592000 := wrapI (by omega) (by omega)
    rw [e1, e3] at ho
    rw [e2, e4]
    have hl := ((origs_spec s0 s2 r0 r1 r2 r3 l7 l8 l9 l10 l11 _ _).2 _).1 ho
    refine ((origs_spec s0 s2 r0 r1 r2 r3 l7 l8 l9 l10 l11 _ _).2 _).2 ⟨all_mono s0 s2 r0 r1 r2 r3 l7 l8 l9 l11 ?_ ?_ hl.1, hl.2⟩
    · unfold mx; split <;> split <;> omega
    · unfold mn; split <;> split <;> omega
  · unfold keep at hk ⊢
    by_cases hw : inWin fr till (instOf s1 l12 x.f0) = true
    · rw [if_pos hw] at hk
      have hw' : inWin fr' till' (instOf s1 l12 x.f0) = true := by
        unfold inWin at hw ⊢
        simp only [Bool.and_eq_true, Bool.or_eq_true, decide_eq_true_eq, beq_iff_eq] at hw ⊢
        refine ⟨hw.1, by omega, ?_⟩
        rcases hw.2.2 with h | h
        · exact .inl (by omega)
        · exact .inr ⟨h.1, by omega⟩
      rw [if_pos hw']
      exact hk
    · rw [if_neg hw] at hk; cases hk
/-! ### one change put -/
variable (c : S39) (l12' : List S39)
/-- Two lists of changes that tell the same but of one original. -/
theorem insts_alone (ha : ∀ t, t ≠ c.f0 → changeOf l12' t = changeOf l12 t) (fr till : Int) :
    (instsOf s0 s1 s2 r0 r1 r2 r3 l7 l8 l9 l10 l11 l12' fr till).filter (fun x => !(x.f0 == c.f0)) = (instsOf s0 s1 s2 r0 r1 r2 r3 l7 l8 l9 l10 l11 l12 fr till).filter (fun x => !(x.f0 == c.f0)) := by
  have hos := (origs_spec s0 s2 r0 r1 r2 r3 l7 l8 l9 l10 l11 (mx (wrap64 (fr - 2592000)) 0) (mn (wrap64 (till + 2592000)) 253402300799)).1
  unfold instsOf
  rw [filter_isort _ (keep_apart s1 l12' fr till hos), filter_isort _ (keep_apart s1 l12 fr till hos)]
  congr 1
  generalize origs s0 s2 r0 r1 r2 r3 l7 l8 l9 l10 l11 (mx (wrap64 (fr - 2592000)) 0) (mn (wrap64 (till + 2592000)) 253402300799) = os
  clear hos
  induction os with
  | nil => rfl
  | cons t os ih =>
    by_cases ht : t = c.f0
    · have drop : ∀ l : List S39, List.filter (fun x : S37 => !(x.f0 == c.f0)) ((t :: os).filterMap (keep s1 l fr till)) = List.filter (fun x => !(x.f0 == c.f0)) (os.filterMap (keep s1 l fr till)) := by
        intro l
        rw [List.filterMap_cons]
        cases hk : keep s1 l fr till t with
        | none => rfl
        | some b =>
          have := keep_f0 hk
          exact List.filter_cons_of_neg (by simp [this, ht])
      rw [drop, drop]
      exact ih
    · have hk : keep s1 l12' fr till t = keep s1 l12 fr till t := by
        unfold keep instOf
        rw [ha t ht]
      rw [List.filterMap_cons, List.filterMap_cons, hk]
      cases keep s1 l12 fr till t with
      | none => exact ih
      | some b =>
        show List.filter _ (b :: _) = List.filter _ (b :: _)
        rw [List.filter_cons, List.filter_cons, ih]
end
end Go.Proofs.Ytkgkblmeafhkfaa.Core

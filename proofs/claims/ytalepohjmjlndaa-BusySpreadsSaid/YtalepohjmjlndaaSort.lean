/- slices.SortFunc over the program's edges: laid once (the library's contract), and told in the words of owned rows. -/
import Derived.Test.YtalepohjmjlndaaProg
import Derived.Shelf.SlSortCmp.NoneTotal
import Derived.Test.YtalepohjmjlndaaWMore
import Derived.Test.YtalepohjmjlndaaWZeros
namespace Go.Proofs
open Go.Shelf Go.RowKit Go.Lib Go.Sort
def Try.sortEdge_ren : Go.Shelf.Ren := ⟨fun | 6 => 24 | 15 => 40 | 14 => 39 | 28 => 52 | 29 => 53 | 20 => 44 | 21 => 45 | 22 => 46 | 23 => 47 | 24 => 48 | 25 => 49 | 26 => 50 | 27 => 51 | 46 => 55 | 47 => 56 | 48 => 57 | 49 => 58 | 50 => 59 | 57 => 60 | n => n, fun | 22 => 49 | 24 => 51 | 25 => 53 | 3 => 3 | 39 => 71 | 0 => 0 | 53 => 83 | 55 => 85 | 4 => 4 | 46 => 76 | 45 => 75 | 50 => 80 | 5 => 5 | 9 => 9 | 66 => 86 | 70 => 90 | 76 => 92 | 77 => 93 | n => n, fun | n => n⟩
theorem Try.sortEdge : Go.Proofs.SlLaysF0.n6 Try.prog Try.sortEdge_ren := {
  mixed := by kernel_rfl,
  f6 := ⟨Try.f24.name, by decide, Try.func24.trans (congrArg some (by kernel_rfl))⟩,
  f14 := ⟨Try.f39.name, by decide, Try.func39.trans (congrArg some (by kernel_rfl))⟩,
  f15 := Try.func40.trans (congrArg some (by kernel_rfl)),
  f20 := ⟨Try.f44.name, by decide, Try.func44.trans (congrArg some (by kernel_rfl))⟩,
  f21 := ⟨Try.f45.name, by decide, Try.func45.trans (congrArg some (by kernel_rfl))⟩,
  f22 := ⟨Try.f46.name, by decide, Try.func46.trans (congrArg some (by kernel_rfl))⟩,
  f23 := ⟨Try.f47.name, by decide, Try.func47.trans (congrArg some (by kernel_rfl))⟩,
  f24 := ⟨Try.f48.name, by decide, Try.func48.trans (congrArg some (by kernel_rfl))⟩,
  f25 := ⟨Try.f49.name, by decide, Try.func49.trans (congrArg some (by kernel_rfl))⟩,
  f26 := ⟨Try.f50.name, by decide, Try.func50.trans (congrArg some (by kernel_rfl))⟩,
  f27 := ⟨Try.f51.name, by decide, Try.func51.trans (congrArg some (by kernel_rfl))⟩,
  f28 := Try.func52.trans (congrArg some (by kernel_rfl)),
  f29 := Try.func53.trans (congrArg some (by kernel_rfl)),
  f46 := ⟨Try.f55.name, by decide, Try.func55.trans (congrArg some (by kernel_rfl))⟩,
  f47 := Try.func56.trans (congrArg some (by kernel_rfl)),
  f48 := Try.func57.trans (congrArg some (by kernel_rfl)),
  f49 := ⟨Try.f58.name, by decide, Try.func58.trans (congrArg some (by kernel_rfl))⟩,
  f50 := ⟨Try.f59.name, by decide, Try.func59.trans (congrArg some (by kernel_rfl))⟩,
  f57 := ⟨Try.f60.name, by decide, Try.func60.trans (congrArg some (by kernel_rfl))⟩,
  t0 := Try.underlying0,
  a0 := Try.isAgg0,
  z0 := Try.sizeOf0,
  v0 := Try.zeroValue0,
  t3 := Try.underlying3,
  a3 := Try.isAgg3,
  z3 := Try.sizeOf3,
  v3 := Try.zeroValue3,
  t4 := Try.underlying4,
  a4 := Try.isAgg4,
  z4 := Try.sizeOf4,
  v4 := Try.zeroValue4,
  t5 := Try.underlying5,
  a5 := Try.isAgg5,
  z5 := Try.sizeOf5,
  v5 := Try.zeroValue5,
  t9 := Try.underlying9,
  a9 := Try.isAgg9,
  z9 := Try.sizeOf9,
  v9 := Try.zeroValue9,
  t22 := Try.underlying49,
  a22 := Try.isAgg49,
  z22 := Try.sizeOf49,
  v22 := Try.zeroValue49,
  t25 := Try.underlying53,
  a25 := Try.isAgg53,
  z25 := Try.sizeOf53,
  v25 := Try.zeroValue53,
  t39 := Try.underlying71,
  a39 := Try.isAgg71,
  z39 := Try.sizeOf71,
  v39 := Try.zeroValue71,
  t45 := Try.underlying75,
  a45 := Try.isAgg75,
  z45 := Try.sizeOf75,
  v45 := Try.zeroValue75,
  t46 := Try.underlying76,
  a46 := Try.isAgg76,
  z46 := Try.sizeOf76,
  v46 := Try.zeroValue76,
  t50 := Try.underlying80,
  a50 := Try.isAgg80,
  z50 := Try.sizeOf80,
  v50 := Try.zeroValue80,
  t53 := Try.underlying83,
  a53 := Try.isAgg83,
  z53 := Try.sizeOf83,
  v53 := Try.zeroValue83,
  t55 := Try.underlying85,
  a55 := Try.isAgg85,
  z55 := Try.sizeOf85,
  v55 := Try.zeroValue85,
  t66 := Try.underlying86,
  a66 := Try.isAgg86,
  z66 := Try.sizeOf86,
  v66 := Try.zeroValue86,
  t70 := Try.underlying90,
  a70 := Try.isAgg90,
  z70 := Try.sizeOf90,
  v70 := Try.zeroValue90,
  t76 := Try.underlying92,
  a76 := Try.isAgg92,
  z76 := Try.sizeOf92,
  v76 := Try.zeroValue92,
  t77 := Try.underlying93,
  a77 := Try.isAgg93,
  z77 := Try.sizeOf93,
  v77 := Try.zeroValue93 }

end Go.Proofs
namespace Go.Proofs.Ytalepohjmjlndaa.Sort
open Go.Shelf Go.RowKit Go.Lib Go.Sort Go.Proofs.YtalepohjmjlndaaW.PrintWords Go.Proofs.YtalepohjmjlndaaW.PrintLast Go.Proofs.YtalepohjmjlndaaW.PrintMore

section
variable {α : Type} [Inhabited α] {enc : α → List Value} {k : Nat}

theorem flat_toList_get (d : Array α) (t : Nat) (h : t < d.size * k) : (flatK enc k d).toList[t]? = some ((enc d[t / k]!)[t % k]!) := by
  have h1 : t < (flatK enc k d).size := by rw [size_flatK]; exact h
  rw [Array.getElem?_toList, Array.getElem?_eq_getElem h1, ← getElem!_pos (flatK enc k d) t h1, get_flatK enc k d t h]

theorem flat_of_reps (hk : ∀ x, (enc x).length = k) {xs : List α} {inner : List Value} (h : Reps (fun x cs => cs = enc x) k xs inner) : inner = (flatK enc k xs.toArray).toList := by
  apply List.ext_getElem?
  intro t
  rcases Nat.lt_or_ge t (xs.length * k) with ht | ht
  · have k0 : 0 < k := by rcases Nat.eq_zero_or_pos k with h0 | h0; · subst h0; omega
                          · exact h0
    have hj : t / k < xs.length := (Nat.div_lt_iff_lt_mul k0).mpr ht
    have e := h.2 (t / k) xs[t / k] (List.getElem?_eq_getElem hj)
    rw [flat_toList_get xs.toArray t (by simpa using ht)]
    have hm : t % k < k := Nat.mod_lt _ k0
    have hd : t / k * k + t % k = t := by rw [Nat.mul_comm]; exact Nat.div_add_mod t k
    have e2 : ((inner.drop (t / k * k)).take k)[t % k]? = inner[t]? := by
      rw [List.getElem?_take, if_pos hm, List.getElem?_drop, hd]
    rw [← e2, e]
    have hx : xs.toArray[t / k]! = xs[t / k] := by simp [hj]
    rw [hx, List.getElem?_eq_getElem (by rw [hk]; exact hm)]
    simp [hk, hm]
  · rw [List.getElem?_eq_none (by rw [h.1]; exact ht), List.getElem?_eq_none (by simp; exact ht)]

theorem reps_of_flat (hk : ∀ x, (enc x).length = k) (ys : List α) : Reps (fun x cs => cs = enc x) k ys (flatK enc k ys.toArray).toList := by
  refine ⟨by simp, fun j p hp => ?_⟩
  obtain ⟨hj, rfl⟩ := List.getElem?_eq_some_iff.mp hp
  apply List.ext_getElem?
  intro i
  rcases Nat.lt_or_ge i k with hi | hi
  · have hlt : j * k + i < ys.toArray.size * k := by
      have := Nat.mul_le_mul_right k (show j + 1 ≤ ys.length from hj)
      rw [Nat.add_mul, Nat.one_mul] at this
      simp
      omega
    have e1 : (j * k + i) / k = j := (blk_iff k j _ (by omega)).1 ⟨by omega, by omega⟩
    have e2 : (j * k + i) % k = i := by rw [Nat.mod_eq_sub_div_mul, e1]; omega
    rw [List.getElem?_take, if_pos hi, List.getElem?_drop, flat_toList_get ys.toArray _ hlt, e1, e2, List.getElem?_eq_getElem (by rw [hk]; exact hi)]
    simp [hj, hk, hi]
  · rw [List.getElem?_eq_none (by simp; omega), List.getElem?_eq_none (by rw [hk]; exact hi)]

/-- A row of the call's own, held as the sort wants it. -/
theorem holds_of_own (hk : ∀ x, (enc x).length = k) {w : World} {base e g n cap : Nat} {xs : List α} {inner : List Value} (hn : n = xs.length) (ho : w.ownsRow base e k (.slice (some ⟨g, 0, none⟩) n cap) n inner)
    (hr : Reps (fun x cs => cs = enc x) k xs inner) : HoldsK enc k w g 0 xs.toArray ∧ g < w.heap.size := by
  obtain ⟨_, h | ⟨g', cap', cur, hv, hg, hh, hnc, hcm, hcs, htk⟩⟩ := ho
  · exact absurd h.1 (by simp)
  · obtain rfl : g' = g := by injection hv with h1 _ _; injection h1 with h1; injection h1 with h1; exact h1.symm
    refine ⟨fun j hj => ?_, own_lt_of hh⟩
    rw [flat_of_reps hk hr] at htk
    rw [size_flatK] at hj
    rw [Nat.zero_add]
    refine ⟨?_, blk_frozen hh j⟩
    rw [blk_cell hh j]
    have hj' : j < n * k := by rw [hn]; simpa using hj
    have e1 : cur[j]? = (cur.toList.take (n * k))[j]? := by rw [List.getElem?_take, if_pos hj', Array.getElem?_toList]
    rw [e1, htk, flat_toList_get xs.toArray j hj, get_flatK enc k _ j hj]
    rfl
where
  own_lt_of {w : World} {g : Nat} {o : Obj} (h : w.heap[g]? = some o) : g < w.heap.size := by
    rcases Nat.lt_or_ge g w.heap.size with h1 | h1
    · exact h1
    · rw [Array.getElem?_eq_none h1] at h; cases h

/-- .. and behind the sort: the block holds the new ones; nothing else has turned. -/
theorem own_of_sorted {w : World} {base e g n cap : Nat} {inner : List Value} (ho : w.ownsRow base e k (.slice (some ⟨g, 0, none⟩) n cap) n inner) (m : Nat) (d' : Array α) (hd : d'.size = n) (os : Array Obj) :
    (sortWorldK enc k w g 0 m d' os).ownsRow base e k (.slice (some ⟨g, 0, none⟩) n cap) n (flatK enc k d').toList ∧ w.grownBy (sortWorldK enc k w g 0 m d' os) (some g) := by
  obtain ⟨_, h | ⟨g', cap', cur, hv, hg, hh, hnc, hcm, hcs, htk⟩⟩ := ho
  · exact absurd h.1 (by simp)
  · obtain rfl : g' = g := by injection hv with h1 _ _; injection h1 with h1; injection h1 with h1; exact h1.symm
    obtain rfl : cap' = cap := by injection hv with _ _ h3; exact h3.symm
    have hlt : g' < w.heap.size := by
      rcases Nat.lt_or_ge g' w.heap.size with h1 | h1
      · exact h1
      · rw [Array.getElem?_eq_none h1] at hh; cases hh
    have hget : ∀ b, b < w.heap.size → (sortWorldK enc k w g' 0 m d' os).heap[b]? = ((w.heap.modify g' (onCells (putCells id 0 (flatK enc k d'))))[b]?) := by
      intro b hb
      show ((w.heap.modify g' (onCells (putCells id 0 (flatK enc k d')))) ++ os)[b]? = _
      rw [Array.getElem?_append_left (by simpa using hb)]
    refine ⟨⟨by simp [hd], .inr ⟨g', cap', putCells id 0 (flatK enc k d') cur, rfl, hg, ?_, hnc, hcm, ?_, ?_⟩⟩, ?_⟩
    · rw [hget g' hlt, Array.getElem?_modify, if_pos rfl, hh]
      rfl
    · unfold putCells
      rw [Array.size_mapIdx, hcs]
    · apply List.ext_getElem?
      intro t
      rcases Nat.lt_or_ge t (n * k) with ht | ht
      · have hc : t < cur.size := by rw [hcs]; exact Nat.lt_of_lt_of_le ht (Nat.mul_le_mul_right k hnc)
        rw [List.getElem?_take, if_pos ht, Array.getElem?_toList, flat_toList_get d' t (by rw [hd]; exact ht)]
        unfold putCells
        rw [Array.getElem?_mapIdx, Array.getElem?_eq_getElem hc]
        simp only [Option.map_some]
        rw [if_pos ⟨Nat.zero_le _, by rw [size_flatK, hd]; omega⟩]
        simp only [Nat.sub_zero, id]
        rw [get_flatK enc k d' t (by rw [hd]; exact ht)]
      · rw [List.getElem?_eq_none (by simp; omega), List.getElem?_eq_none (by simp [hd]; exact ht)]
    · refine ⟨rfl, rfl, rfl, ?_, fun b hb hne => ?_⟩
      · show w.heap.size ≤ ((w.heap.modify g' (onCells (putCells id 0 (flatK enc k d')))) ++ os).size
        simp
      · rw [hget b hb, Array.getElem?_modify, if_neg (fun h => hne (by rw [h]))]

theorem perm_sorted {lt : α → α → Bool} {xs : List α} {d' : Array α} (hp : PermIn 0 xs.toArray.size xs.toArray d') (hs : SortedIn lt 0 xs.toArray.size d') :
    d'.toList.Perm xs ∧ d'.size = xs.length ∧ d'.toList.Pairwise (fun x y => lt y x = false) := by
  obtain ⟨h1, _, h3⟩ := hp
  have hsz : d'.size = xs.length := by simpa using h1
  refine ⟨?_, hsz, ?_⟩
  · have e1 : (d'.extract 0 xs.toArray.size).toList = d'.toList := by rw [← h1]; simp
    have e2 : (xs.toArray.extract 0 xs.toArray.size).toList = xs := by simp
    rwa [e1, e2] at h3
  · rw [List.pairwise_iff_getElem]
    intro i j hi hj hij
    have hi' : i < d'.size := by simpa using hi
    have hj' : j < d'.size := by simpa using hj
    have := hs i j (Nat.zero_le _) hij (by simpa [hsz] using hj')
    rw [getElem!_pos d' i hi', getElem!_pos d' j hj'] at this
    simpa using this
end

def encE (x : Int × Int × Int) : List Value := [.int .i64 x.1, .int .i64 x.2.1, .int .i64 x.2.2]
def cmpE (x y : Int × Int × Int) : Int := if x.1 < y.1 then -1 else if y.1 < x.1 then 1 else 0
theorem ltE (x y : Int × Int × Int) : ltOf cmpE x y = decide (x.1 < y.1) := by
  unfold ltOf cmpE
  by_cases h1 : x.1 < y.1
  · simp [h1]
  · by_cases h2 : y.1 < x.1 <;> simp [h1, h2]
theorem swoE : SWO (ltOf cmpE) where
  irrefl x := by rw [ltE]; simp
  trans x y z h1 h2 := by rw [ltE] at *; simp at *; omega
  ntrans x y z h1 h2 := by rw [ltE] at *; simp at *; omega

set_option maxHeartbeats 1000000 in
theorem closureE (x y : Int × Int × Int) (W : World) : Calls Try.prog 25 #[.agg (encE x).toArray, .agg (encE y).toArray] W fun e w' => e = .returned (.int .i64 (cmpE x y)) ∧ ∃ q os', w' = grow (W.drewN q) os' := by
  unfold encE cmpE
  by_cases h1 : x.1 < y.1
  · have c1 : decide (x.1 < y.1) = true := decide_eq_true h1
    rw [if_pos h1]
    clear h1
    go_enter Try.func25, Try.ntmps25
    go_wp2
    go_ret
    exact ⟨rfl, 0, _, by rw [alloc_eq_grow, alloc_eq_grow, grow_grow]; rfl⟩
  · have c1 : decide (x.1 < y.1) = false := decide_eq_false h1
    rw [if_neg h1]
    clear h1
    by_cases h2 : y.1 < x.1
    · have c2 : decide (y.1 < x.1) = true := decide_eq_true h2
      rw [if_pos h2]
      clear h2
      go_enter Try.func25, Try.ntmps25
      go_wp2
      go_ret
      exact ⟨rfl, 0, _, by rw [alloc_eq_grow, alloc_eq_grow, grow_grow]; rfl⟩
    · have c2 : decide (y.1 < x.1) = false := decide_eq_false h2
      rw [if_neg h2]
      clear h2
      go_enter Try.func25, Try.ntmps25
      go_wp2
      go_ret
      exact ⟨rfl, 0, _, by rw [alloc_eq_grow, alloc_eq_grow, grow_grow]; rfl⟩

theorem cmpLaysE (blk off size : Nat) (w : World) : CmpLays Try.prog 25 #[] encE 3 cmpE blk off size w := fun _ _ _ _ x y => closureE x y _

set_option maxHeartbeats 1000000 in
/-- slices.SortFunc over edges that the call owns. -/
theorem sort_own {w : World} {base cap g : Nat} {xs : List (Int × Int × Int)} {inner : List Value} (ho : w.ownsRow base 51 3 (.slice (some ⟨g, 0, none⟩) xs.length cap) xs.length inner)
    (hr : Reps (fun x cs => cs = encE x) 3 xs inner) (hsz : xs.length < 4611686018427387904) :
    Calls Try.prog 24 #[.slice (some ⟨g, 0, none⟩) xs.length cap, .func (.func 25) #[] #[]] w fun e w' => e = .returned (.tuple #[]) ∧ ∃ (ys : List (Int × Int × Int)) (inner' : List Value),
      ys.Perm xs ∧ ys.Pairwise (fun x y => x.1 ≤ y.1) ∧ w'.ownsRow base 51 3 (.slice (some ⟨g, 0, none⟩) xs.length cap) xs.length inner' ∧ Reps (fun x cs => cs = encE x) 3 ys inner' ∧ w.grownBy w' (some g) := by
  have eg : ∀ args w, (callFunc 25 args).run Try.prog w = .ok (.enter 25 args) w := enters_of Try.func25 (by kernel_rfl) rfl
  obtain ⟨hH, hlt⟩ := holds_of_own (enc := encE) (fun _ => rfl) rfl ho hr
  have hcon := AnyQ.slices_SortFunc Try.sortEdge 3 Try.isAgg51 Try.sizeOf51 encE (fun _ => rfl) (fun x v hv => by simp [encE] at hv; rcases hv with rfl | rfl | rfl <;> rfl) cmpE swoE 25 #[] g 0 cap xs.toArray w eg (cmpLaysE g 0 _ w) hH hlt (by simpa using hsz)
  change Calls Try.prog 24 _ _ _ at hcon
  have ea : xs.toArray.size = xs.length := by simp
  rw [ea] at hcon
  refine hcon.mono ?_
  rintro e w' ⟨he, d', m, os, hp, hs, rfl⟩
  rw [← ea] at hp hs
  obtain ⟨h1, h2, h3⟩ := perm_sorted hp hs
  obtain ⟨h4, h5⟩ := own_of_sorted (enc := encE) ho m d' h2 os
  refine ⟨he, d'.toList, _, h1, ?_, h4, ?_, h5⟩
  · refine h3.imp ?_
    intro x y hxy
    rw [ltE] at hxy
    have := of_decide_eq_false hxy
    omega
  · have := reps_of_flat (enc := encE) (k := 3) (fun _ => rfl) d'.toList
    simpa using this

/-- .. over none. -/
theorem sort_none {w : World} (p : Option Addr) (cap : Nat) : Calls Try.prog 24 #[.slice p 0 cap, .func (.func 25) #[] #[]] w fun e w' => e = .returned (.tuple #[]) ∧ w' = w :=
  AnyF.slices_SortFunc_none Try.sortEdge p cap _ w

end Go.Proofs.Ytalepohjmjlndaa.Sort

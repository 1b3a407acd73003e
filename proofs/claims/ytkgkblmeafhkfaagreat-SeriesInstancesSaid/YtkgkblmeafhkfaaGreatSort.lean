/- slices.Sort at int64 and slices.SortFunc at Instance, over the program's edges: laid once (the library's contracts), and told in the words of owned rows. -/
import Derived.Test.YtkgkblmeafhkfaaGreatProg
import Derived.Shelf.SlSortCmp.NoneTotal
import Derived.Shelf.SortG.Plain
import Derived.Shelf.SortG.SortNone
import Derived.Test.YtkgkblmeafhkfaaGreatWAll
set_option linter.unusedVariables false
namespace Go.Proofs
open Go.Shelf Go.RowKit Go.Lib Go.Sort
def Tryz.sortInst_ren : Go.Shelf.Ren := ⟨fun | 6 => 43 | 15 => 60 | 14 => 59 | 28 => 82 | 29 => 83 | 20 => 74 | 21 => 75 | 22 => 76 | 23 => 77 | 24 => 78 | 25 => 79 | 26 => 80 | 27 => 81 | 46 => 99 | 47 => 100 | 48 => 101 | 49 => 102 | 50 => 103 | 57 => 113 | n => n, fun | 22 => 48 | 24 => 55 | 25 => 86 | 3 => 3 | 39 => 109 | 0 => 0 | 53 => 133 | 55 => 135 | 4 => 4 | 46 => 127 | 45 => 126 | 50 => 104 | 5 => 5 | 9 => 9 | 66 => 147 | 70 => 151 | 76 => 158 | 77 => 159 | n => n, fun | n => n⟩
theorem Tryz.sortInst : Go.Proofs.SlLaysF0.n6 Tryz.prog Tryz.sortInst_ren := {
  mixed := by kernel_rfl,
  f6 := ⟨Tryz.f43.name, by decide, Tryz.func43.trans (congrArg some (by kernel_rfl))⟩,
  f14 := ⟨Tryz.f59.name, by decide, Tryz.func59.trans (congrArg some (by kernel_rfl))⟩,
  f15 := Tryz.func60.trans (congrArg some (by kernel_rfl)),
  f20 := ⟨Tryz.f74.name, by decide, Tryz.func74.trans (congrArg some (by kernel_rfl))⟩,
  f21 := ⟨Tryz.f75.name, by decide, Tryz.func75.trans (congrArg some (by kernel_rfl))⟩,
  f22 := ⟨Tryz.f76.name, by decide, Tryz.func76.trans (congrArg some (by kernel_rfl))⟩,
  f23 := ⟨Tryz.f77.name, by decide, Tryz.func77.trans (congrArg some (by kernel_rfl))⟩,
  f24 := ⟨Tryz.f78.name, by decide, Tryz.func78.trans (congrArg some (by kernel_rfl))⟩,
  f25 := ⟨Tryz.f79.name, by decide, Tryz.func79.trans (congrArg some (by kernel_rfl))⟩,
  f26 := ⟨Tryz.f80.name, by decide, Tryz.func80.trans (congrArg some (by kernel_rfl))⟩,
  f27 := ⟨Tryz.f81.name, by decide, Tryz.func81.trans (congrArg some (by kernel_rfl))⟩,
  f28 := Tryz.func82.trans (congrArg some (by kernel_rfl)),
  f29 := Tryz.func83.trans (congrArg some (by kernel_rfl)),
  f46 := ⟨Tryz.f99.name, by decide, Tryz.func99.trans (congrArg some (by kernel_rfl))⟩,
  f47 := Tryz.func100.trans (congrArg some (by kernel_rfl)),
  f48 := Tryz.func101.trans (congrArg some (by kernel_rfl)),
  f49 := ⟨Tryz.f102.name, by decide, Tryz.func102.trans (congrArg some (by kernel_rfl))⟩,
  f50 := ⟨Tryz.f103.name, by decide, Tryz.func103.trans (congrArg some (by kernel_rfl))⟩,
  f57 := ⟨Tryz.f113.name, by decide, Tryz.func113.trans (congrArg some (by kernel_rfl))⟩,
  t0 := Tryz.underlying0,
  a0 := Tryz.isAgg0,
  z0 := Tryz.sizeOf0,
  v0 := Tryz.zeroValue0,
  t3 := Tryz.underlying3,
  a3 := Tryz.isAgg3,
  z3 := Tryz.sizeOf3,
  v3 := Tryz.zeroValue3,
  t4 := Tryz.underlying4,
  a4 := Tryz.isAgg4,
  z4 := Tryz.sizeOf4,
  v4 := Tryz.zeroValue4,
  t5 := Tryz.underlying5,
  a5 := Tryz.isAgg5,
  z5 := Tryz.sizeOf5,
  v5 := Tryz.zeroValue5,
  t9 := Tryz.underlying9,
  a9 := Tryz.isAgg9,
  z9 := Tryz.sizeOf9,
  v9 := Tryz.zeroValue9,
  t22 := Tryz.underlying48,
  a22 := Tryz.isAgg48,
  z22 := Tryz.sizeOf48,
  v22 := Tryz.zeroValue48,
  t25 := Tryz.underlying86,
  a25 := Tryz.isAgg86,
  z25 := Tryz.sizeOf86,
  v25 := Tryz.zeroValue86,
  t39 := Tryz.underlying109,
  a39 := Tryz.isAgg109,
  z39 := Tryz.sizeOf109,
  v39 := Tryz.zeroValue109,
  t45 := Tryz.underlying126,
  a45 := Tryz.isAgg126,
  z45 := Tryz.sizeOf126,
  v45 := Tryz.zeroValue126,
  t46 := Tryz.underlying127,
  a46 := Tryz.isAgg127,
  z46 := Tryz.sizeOf127,
  v46 := Tryz.zeroValue127,
  t50 := Tryz.underlying104,
  a50 := Tryz.isAgg104,
  z50 := Tryz.sizeOf104,
  v50 := Tryz.zeroValue104,
  t53 := Tryz.underlying133,
  a53 := Tryz.isAgg133,
  z53 := Tryz.sizeOf133,
  v53 := Tryz.zeroValue133,
  t55 := Tryz.underlying135,
  a55 := Tryz.isAgg135,
  z55 := Tryz.sizeOf135,
  v55 := Tryz.zeroValue135,
  t66 := Tryz.underlying147,
  a66 := Tryz.isAgg147,
  z66 := Tryz.sizeOf147,
  v66 := Tryz.zeroValue147,
  t70 := Tryz.underlying151,
  a70 := Tryz.isAgg151,
  z70 := Tryz.sizeOf151,
  v70 := Tryz.zeroValue151,
  t76 := Tryz.underlying158,
  a76 := Tryz.isAgg158,
  z76 := Tryz.sizeOf158,
  v76 := Tryz.zeroValue158,
  t77 := Tryz.underlying159,
  a77 := Tryz.isAgg159,
  z77 := Tryz.sizeOf159,
  v77 := Tryz.zeroValue159 }
def Tryz.sortInt_ren : Go.Shelf.Ren := ⟨fun | 53 => 49 | 64 => 60 | 63 => 63 | 78 => 82 | 79 => 83 | 70 => 86 | 71 => 87 | 72 => 88 | 73 => 89 | 74 => 90 | 75 => 91 | 59 => 92 | 76 => 93 | 77 => 94 | 88 => 109 | 89 => 100 | 90 => 101 | 91 => 110 | 92 => 111 | 68 => 112 | 96 => 121 | n => n, fun | 22 => 26 | 23 => 2 | 3 => 3 | 51 => 109 | 0 => 0 | 67 => 133 | 69 => 135 | 4 => 4 | 61 => 127 | 60 => 126 | 44 => 104 | 5 => 5 | 9 => 9 | 75 => 147 | 79 => 151 | 83 => 158 | 84 => 159 | n => n, fun | n => n⟩
theorem Tryz.sortInt : Go.Proofs.SlLaysN.n53 Tryz.prog Tryz.sortInt_ren := {
  mixed := by kernel_rfl,
  f53 := ⟨Tryz.f49.name, by decide, Tryz.func49.trans (congrArg some (by kernel_rfl))⟩,
  f59 := ⟨Tryz.f92.name, by decide, Tryz.func92.trans (congrArg some (by kernel_rfl))⟩,
  f63 := ⟨Tryz.f63.name, by decide, Tryz.func63.trans (congrArg some (by kernel_rfl))⟩,
  f64 := Tryz.func60.trans (congrArg some (by kernel_rfl)),
  f68 := ⟨Tryz.f112.name, by decide, Tryz.func112.trans (congrArg some (by kernel_rfl))⟩,
  f70 := ⟨Tryz.f86.name, by decide, Tryz.func86.trans (congrArg some (by kernel_rfl))⟩,
  f71 := ⟨Tryz.f87.name, by decide, Tryz.func87.trans (congrArg some (by kernel_rfl))⟩,
  f72 := ⟨Tryz.f88.name, by decide, Tryz.func88.trans (congrArg some (by kernel_rfl))⟩,
  f73 := ⟨Tryz.f89.name, by decide, Tryz.func89.trans (congrArg some (by kernel_rfl))⟩,
  f74 := ⟨Tryz.f90.name, by decide, Tryz.func90.trans (congrArg some (by kernel_rfl))⟩,
  f75 := ⟨Tryz.f91.name, by decide, Tryz.func91.trans (congrArg some (by kernel_rfl))⟩,
  f76 := ⟨Tryz.f93.name, by decide, Tryz.func93.trans (congrArg some (by kernel_rfl))⟩,
  f77 := ⟨Tryz.f94.name, by decide, Tryz.func94.trans (congrArg some (by kernel_rfl))⟩,
  f78 := Tryz.func82.trans (congrArg some (by kernel_rfl)),
  f79 := Tryz.func83.trans (congrArg some (by kernel_rfl)),
  f88 := ⟨Tryz.f109.name, by decide, Tryz.func109.trans (congrArg some (by kernel_rfl))⟩,
  f89 := Tryz.func100.trans (congrArg some (by kernel_rfl)),
  f90 := Tryz.func101.trans (congrArg some (by kernel_rfl)),
  f91 := ⟨Tryz.f110.name, by decide, Tryz.func110.trans (congrArg some (by kernel_rfl))⟩,
  f92 := ⟨Tryz.f111.name, by decide, Tryz.func111.trans (congrArg some (by kernel_rfl))⟩,
  f96 := ⟨Tryz.f121.name, by decide, Tryz.func121.trans (congrArg some (by kernel_rfl))⟩,
  t0 := Tryz.underlying0,
  a0 := Tryz.isAgg0,
  z0 := Tryz.sizeOf0,
  v0 := Tryz.zeroValue0,
  t3 := Tryz.underlying3,
  a3 := Tryz.isAgg3,
  z3 := Tryz.sizeOf3,
  v3 := Tryz.zeroValue3,
  t4 := Tryz.underlying4,
  a4 := Tryz.isAgg4,
  z4 := Tryz.sizeOf4,
  v4 := Tryz.zeroValue4,
  t5 := Tryz.underlying5,
  a5 := Tryz.isAgg5,
  z5 := Tryz.sizeOf5,
  v5 := Tryz.zeroValue5,
  t9 := Tryz.underlying9,
  a9 := Tryz.isAgg9,
  z9 := Tryz.sizeOf9,
  v9 := Tryz.zeroValue9,
  t22 := Tryz.underlying26,
  a22 := Tryz.isAgg26,
  z22 := Tryz.sizeOf26,
  v22 := Tryz.zeroValue26,
  t23 := Tryz.underlying2,
  a23 := Tryz.isAgg2,
  z23 := Tryz.sizeOf2,
  v23 := Tryz.zeroValue2,
  t44 := Tryz.underlying104,
  a44 := Tryz.isAgg104,
  z44 := Tryz.sizeOf104,
  v44 := Tryz.zeroValue104,
  t51 := Tryz.underlying109,
  a51 := Tryz.isAgg109,
  z51 := Tryz.sizeOf109,
  v51 := Tryz.zeroValue109,
  t60 := Tryz.underlying126,
  a60 := Tryz.isAgg126,
  z60 := Tryz.sizeOf126,
  v60 := Tryz.zeroValue126,
  t61 := Tryz.underlying127,
  a61 := Tryz.isAgg127,
  z61 := Tryz.sizeOf127,
  v61 := Tryz.zeroValue127,
  t67 := Tryz.underlying133,
  a67 := Tryz.isAgg133,
  z67 := Tryz.sizeOf133,
  v67 := Tryz.zeroValue133,
  t69 := Tryz.underlying135,
  a69 := Tryz.isAgg135,
  z69 := Tryz.sizeOf135,
  v69 := Tryz.zeroValue135,
  t75 := Tryz.underlying147,
  a75 := Tryz.isAgg147,
  z75 := Tryz.sizeOf147,
  v75 := Tryz.zeroValue147,
  t79 := Tryz.underlying151,
  a79 := Tryz.isAgg151,
  z79 := Tryz.sizeOf151,
  v79 := Tryz.zeroValue151,
  t83 := Tryz.underlying158,
  a83 := Tryz.isAgg158,
  z83 := Tryz.sizeOf158,
  v83 := Tryz.zeroValue158,
  t84 := Tryz.underlying159,
  a84 := Tryz.isAgg159,
  z84 := Tryz.sizeOf159,
  v84 := Tryz.zeroValue159 }

end Go.Proofs
namespace Go.Proofs.YtkgkblmeafhkfaaGreat.Sort
open Go.Shelf Go.RowKit Go.Lib Go.Sort Go.Proofs.YtkgkblmeafhkfaaGreatW.PrintWords Go.Proofs.YtkgkblmeafhkfaaGreatW.PrintLast Go.Proofs.YtkgkblmeafhkfaaGreatW.PrintMore

section
variable {α : Type} [Inhabited α] {enc : α → List Value} {k : Nat}

theorem flat_toList_get (d : Array α) (t : Nat) (h : t < d.size * k) : (flatK enc k d).toList[t]? = some ((enc d[t / k]!)[t % k]!) := by
  have h1 : t < (flatK enc k d).size := by rw [size_flatK]; exact h
  rw [Array.getElem?_toList, Array.getElem?_eq_getElem h1, ← getElem!_pos (flatK enc k d) t h1, get_flatK enc k d t h]

theorem flat_of_reps (hk : ∀ x, (enc x).length = k) {xs : List α} {inner : List Value} (h : Reps (fun x cs => cs = enc x) k xs inner) : inner = (flatK enc k xs.toArray).toList := by
  apply List.ext_getElem?
  intro t
  rcases Nat.lt_or_ge t (xs.length * k) with ht | ht
  · have k0 : 0 < k := by rcases Nat.eq_zero_or_pos k with h0 | h0; · subst h0; omega
                          · exact h0
    have hj : t / k < xs.length := (Nat.div_lt_iff_lt_mul k0).mpr ht
    have e := h.2 (t / k) xs[t / k] (List.getElem?_eq_getElem hj)
    rw [flat_toList_get xs.toArray t (by simpa using ht)]
    have hm : t % k < k := Nat.mod_lt _ k0
    have hd : t / k * k + t % k = t := by rw [Nat.mul_comm]; exact Nat.div_add_mod t k
    have e2 : ((inner.drop (t / k * k)).take k)[t % k]? = inner[t]? := by
      rw [List.getElem?_take, if_pos hm, List.getElem?_drop, hd]
    rw [← e2, e]
    have hx : xs.toArray[t / k]! = xs[t / k] := by simp [hj]
    rw [hx, List.getElem?_eq_getElem (by rw [hk]; exact hm)]
    simp [hk, hm]
  · rw [List.getElem?_eq_none (by rw [h.1]; exact ht), List.getElem?_eq_none (by simp; exact ht)]

theorem reps_of_flat (hk : ∀ x, (enc x).length = k) (ys : List α) : Reps (fun x cs => cs = enc x) k ys (flatK enc k ys.toArray).toList := by
  refine ⟨by simp, fun j p hp => ?_⟩
  obtain ⟨hj, rfl⟩ := List.getElem?_eq_some_iff.mp hp
  apply List.ext_getElem?
  intro i
  rcases Nat.lt_or_ge i k with hi | hi
  · have hlt : j * k + i < ys.toArray.size * k := by
      have := Nat.mul_le_mul_right k (show j + 1 ≤ ys.length from hj)
      rw [Nat.add_mul, Nat.one_mul] at this
      simp
      omega
    have e1 : (j * k + i) / k = j := (blk_iff k j _ (by omega)).1 ⟨by omega, by omega⟩
    have e2 : (j * k + i) % k = i := by rw [Nat.mod_eq_sub_div_mul, e1]; omega
    rw [List.getElem?_take, if_pos hi, List.getElem?_drop, flat_toList_get ys.toArray _ hlt, e1, e2, List.getElem?_eq_getElem (by rw [hk]; exact hi)]
    simp [hj, hk, hi]
  · rw [List.getElem?_eq_none (by simp; omega), List.getElem?_eq_none (by rw [hk]; exact hi)]

/-- A row of the call's own, held as the sort wants it. -/
theorem holds_of_own (hk : ∀ x, (enc x).length = k) {w : World} {base e g n cap : Nat} {xs : List α} {inner : List Value} (hn : n = xs.length) (ho : w.ownsRow base e k (.slice (some ⟨g, 0, none⟩) n cap) n inner)
    (hr : Reps (fun x cs => cs = enc x) k xs inner) : HoldsK enc k w g 0 xs.toArray ∧ g < w.heap.size := by
  obtain ⟨_, h | ⟨g', cap', cur, hv, hg, hh, hnc, hcm, hcs, htk⟩⟩ := ho
  · exact absurd h.1 (by simp)
  · obtain rfl : g' = g := by injection hv with h1 _ _; injection h1 with h1; injection h1 with h1; exact h1.symm
    refine ⟨fun j hj => ?_, own_lt_of hh⟩
    rw [flat_of_reps hk hr] at htk
    rw [size_flatK] at hj
    rw [Nat.zero_add]
    refine ⟨?_, blk_frozen hh j⟩
    rw [blk_cell hh j]
    have hj' : j < n * k := by rw [hn]; simpa using hj
    have e1 : cur[j]? = (cur.toList.take (n * k))[j]? := by rw [List.getElem?_take, if_pos hj', Array.getElem?_toList]
    rw [e1, htk, flat_toList_get xs.toArray j hj, get_flatK enc k _ j hj]
    rfl
where
  own_lt_of {w : World} {g : Nat} {o : Obj} (h : w.heap[g]? = some o) : g < w.heap.size := by
    rcases Nat.lt_or_ge g w.heap.size with h1 | h1
    · exact h1
    · rw [Array.getElem?_eq_none h1] at h; cases h

/-- .. and behind the sort: the block holds the new ones; nothing else has turned. -/
theorem own_of_sorted {w : World} {base e g n cap : Nat} {inner : List Value} (ho : w.ownsRow base e k (.slice (some ⟨g, 0, none⟩) n cap) n inner) (m : Nat) (d' : Array α) (hd : d'.size = n) (os : Array Obj) :
    (sortWorldK enc k w g 0 m d' os).ownsRow base e k (.slice (some ⟨g, 0, none⟩) n cap) n (flatK enc k d').toList ∧ w.grownBy (sortWorldK enc k w g 0 m d' os) (some g) := by
  obtain ⟨_, h | ⟨g', cap', cur, hv, hg, hh, hnc, hcm, hcs, htk⟩⟩ := ho
  · exact absurd h.1 (by simp)
  · obtain rfl : g' = g := by injection hv with h1 _ _; injection h1 with h1; injection h1 with h1; exact h1.symm
    obtain rfl : cap' = cap := by injection hv with _ _ h3; exact h3.symm
    have hlt : g' < w.heap.size := by
      rcases Nat.lt_or_ge g' w.heap.size with h1 | h1
      · exact h1
      · rw [Array.getElem?_eq_none h1] at hh; cases hh
    have hget : ∀ b, b < w.heap.size → (sortWorldK enc k w g' 0 m d' os).heap[b]? = ((w.heap.modify g' (onCells (putCells id 0 (flatK enc k d'))))[b]?) := by
      intro b hb
      show ((w.heap.modify g' (onCells (putCells id 0 (flatK enc k d')))) ++ os)[b]? = _
      rw [Array.getElem?_append_left (by simpa using hb)]
    refine ⟨⟨by simp [hd], .inr ⟨g', cap', putCells id 0 (flatK enc k d') cur, rfl, hg, ?_, hnc, hcm, ?_, ?_⟩⟩, ?_⟩
    · rw [hget g' hlt, Array.getElem?_modify, if_pos rfl, hh]
      rfl
    · unfold putCells
      rw [Array.size_mapIdx, hcs]
    · apply List.ext_getElem?
      intro t
      rcases Nat.lt_or_ge t (n * k) with ht | ht
      · have hc : t < cur.size := by rw [hcs]; exact Nat.lt_of_lt_of_le ht (Nat.mul_le_mul_right k hnc)
        rw [List.getElem?_take, if_pos ht, Array.getElem?_toList, flat_toList_get d' t (by rw [hd]; exact ht)]
        unfold putCells
        rw [Array.getElem?_mapIdx, Array.getElem?_eq_getElem hc]
        simp only [Option.map_some]
        rw [if_pos ⟨Nat.zero_le _, by rw [size_flatK, hd]; omega⟩]
        simp only [Nat.sub_zero, id]
        rw [get_flatK enc k d' t (by rw [hd]; exact ht)]
      · rw [List.getElem?_eq_none (by simp; omega), List.getElem?_eq_none (by simp [hd]; exact ht)]
    · refine ⟨rfl, rfl, rfl, ?_, fun b hb hne => ?_⟩
      · show w.heap.size ≤ ((w.heap.modify g' (onCells (putCells id 0 (flatK enc k d')))) ++ os).size
        simp
      · rw [hget b hb, Array.getElem?_modify, if_neg (fun h => hne (by rw [h]))]

theorem perm_sorted {lt : α → α → Bool} {xs : List α} {d' : Array α} (hp : PermIn 0 xs.toArray.size xs.toArray d') (hs : SortedIn lt 0 xs.toArray.size d') :
    d'.toList.Perm xs ∧ d'.size = xs.length ∧ d'.toList.Pairwise (fun x y => lt y x = false) := by
  obtain ⟨h1, _, h3⟩ := hp
  have hsz : d'.size = xs.length := by simpa using h1
  refine ⟨?_, hsz, ?_⟩
  · have e1 : (d'.extract 0 xs.toArray.size).toList = d'.toList := by rw [← h1]; simp
    have e2 : (xs.toArray.extract 0 xs.toArray.size).toList = xs := by simp
    rwa [e1, e2] at h3
  · rw [List.pairwise_iff_getElem]
    intro i j hi hj hij
    have hi' : i < d'.size := by simpa using hi
    have hj' : j < d'.size := by simpa using hj
    have := hs i j (Nat.zero_le _) hij (by simpa [hsz] using hj')
    rw [getElem!_pos d' i hi', getElem!_pos d' j hj'] at this
    simpa using this
end



/-- Sorting by insertion: what a sorted list is, in words that can be reckoned with. -/
def ins {α : Type} (lt : α → α → Bool) (x : α) : List α → List α
  | [] => [x]
  | y :: ys => if lt y x then y :: ins lt x ys else x :: y :: ys
def isort {α : Type} (lt : α → α → Bool) : List α → List α
  | [] => []
  | x :: xs => ins lt x (isort lt xs)
theorem ins_perm {α : Type} (lt : α → α → Bool) (x : α) : ∀ l, (ins lt x l).Perm (x :: l)
  | [] => List.Perm.refl _
  | y :: ys => by
    unfold ins
    split
    · exact ((ins_perm lt x ys).cons y).trans (List.Perm.swap x y ys)
    · exact List.Perm.refl _
theorem isort_perm {α : Type} (lt : α → α → Bool) : ∀ l, (isort lt l).Perm l
  | [] => List.Perm.refl _
  | x :: xs => (ins_perm lt x _).trans ((isort_perm lt xs).cons x)
theorem ins_sorted {α : Type} {lt : α → α → Bool} (h : SWO lt) (x : α) : ∀ l, l.Pairwise (fun a b => lt b a = false) → (ins lt x l).Pairwise (fun a b => lt b a = false)
  | [], _ => by simp [ins]
  | y :: ys, hp => by
    obtain ⟨h1, h2⟩ := List.pairwise_cons.1 hp
    unfold ins
    split
    · rename_i hyx
      refine List.pairwise_cons.2 ⟨fun z hz => ?_, ins_sorted h x ys h2⟩
      rcases List.mem_cons.1 ((ins_perm lt x ys).mem_iff.1 hz) with rfl | hz
      · rw [Bool.eq_false_iff]
        intro e
        have := h.trans _ _ _ hyx e
        rw [h.irrefl] at this
        cases this
      · exact h1 z hz
    · rename_i hyx
      have hyx' : lt y x = false := by simpa using hyx
      refine List.pairwise_cons.2 ⟨fun z hz => ?_, hp⟩
      rcases List.mem_cons.1 hz with rfl | hz
      · exact hyx'
      · exact h.ntrans _ _ _ (h1 z hz) hyx'
theorem isort_sorted {α : Type} {lt : α → α → Bool} (h : SWO lt) : ∀ l, (isort lt l).Pairwise (fun a b => lt b a = false)
  | [] => List.Pairwise.nil
  | x :: xs => ins_sorted h x _ (isort_sorted h xs)
theorem isort_unique {α : Type} {lt : α → α → Bool} (h : SWO lt) {xs ys : List α} (hp : ys.Perm xs) (hs : ys.Pairwise (fun a b => lt b a = false))
    (ht : ∀ a b, a ∈ xs → b ∈ xs → lt a b = false → lt b a = false → a = b) : ys = isort lt xs :=
  List.Perm.eq_of_pairwise (le := fun a b => lt b a = false) (fun a b ha hb h1 h2 => ht a b (hp.mem_iff.1 ha) ((isort_perm lt xs).mem_iff.1 hb) h2 h1) hs (isort_sorted h xs) (hp.trans (isort_perm lt xs).symm)

theorem same_of_apart {α : Type} {f : α → Int} {a b : α} : ∀ {xs : List α}, xs.Pairwise (fun x y => f x ≠ f y) → a ∈ xs → b ∈ xs → f a = f b → a = b
  | x :: xs, hp, ha, hb, e => by
    obtain ⟨h1, h2⟩ := List.pairwise_cons.1 hp
    rcases List.mem_cons.1 ha with e1 | ha' <;> rcases List.mem_cons.1 hb with e2 | hb'
    · rw [e1, e2]
    · exact absurd (e1 ▸ e) (h1 b hb')
    · exact absurd (e2 ▸ e.symm) (h1 a ha')
    · exact same_of_apart h2 ha' hb' e
  | [], _, ha, _, _ => by cases ha

/-- Original, Start, End, Changed. -/
def encI (x : Int × Int × Int × Bool) : List Value := [.int .i64 x.1, .int .i64 x.2.1, .int .i64 x.2.2.1, .bool x.2.2.2]
/-- The order of instances. -/
def ltI (x y : Int × Int × Int × Bool) : Bool := decide (x.2.1 < y.2.1) || (x.2.1 == y.2.1 && decide (x.1 < y.1))
def cmpI (x y : Int × Int × Int × Bool) : Int := if ltI x y = true then -1 else if x = y then 0 else 1
theorem ltOfI (x y : Int × Int × Int × Bool) : ltOf cmpI x y = ltI x y := by
  unfold ltOf cmpI
  cases h : ltI x y
  · by_cases e : x = y <;> simp [e]
  · simp
theorem ltI_iff (x y : Int × Int × Int × Bool) : ltI x y = true ↔ x.2.1 < y.2.1 ∨ (x.2.1 = y.2.1 ∧ x.1 < y.1) := by simp [ltI]
theorem ltI_not (x y : Int × Int × Int × Bool) : ltI x y = false ↔ ¬ (x.2.1 < y.2.1 ∨ (x.2.1 = y.2.1 ∧ x.1 < y.1)) := by rw [← ltI_iff]; simp
theorem swoI : SWO (ltOf cmpI) where
  irrefl x := by rw [ltOfI, ltI_not]; omega
  trans x y z h1 h2 := by rw [ltOfI, ltI_iff] at *; omega
  ntrans x y z h1 h2 := by rw [ltOfI, ltI_not] at *; omega

set_option maxHeartbeats 4000000 in
theorem closureI (x y : Int × Int × Int × Bool) (W : World) : Calls Tryz.prog 44 #[.agg (encI x).toArray, .agg (encI y).toArray] W fun e w' => e = .returned (.int .i64 (cmpI x y)) ∧ ∃ q os', w' = grow (W.drewN q) os' := by
  have eqA : True := trivial
  unfold encI cmpI
  obtain ⟨x0, x1, x2, x3⟩ := x
  obtain ⟨y0, y1, y2, y3⟩ := y
  simp only []
  by_cases h1 : x1 < y1
  · have c1 : decide (x1 < y1) = true := decide_eq_true h1
    rw [if_pos ((ltI_iff _ _).mpr (.inl h1))]
    clear h1
    go_enter Tryz.func44, Tryz.ntmps44
    go_wp2
    go_ret
    exact ⟨rfl, 0, _, by rw [alloc_eq_grow, alloc_eq_grow, grow_grow]; rfl⟩
  · have c1 : decide (x1 < y1) = false := decide_eq_false h1
    by_cases h2 : x1 = y1
    · have c2 : (x1 == y1) = true := beq_iff_eq.mpr h2
      by_cases h3 : x0 < y0
      · have c3 : decide (x0 < y0) = true := decide_eq_true h3
        rw [if_pos ((ltI_iff _ _).mpr (.inr ⟨h2, h3⟩))]
        clear h1 h2 h3
        go_enter Tryz.func44, Tryz.ntmps44
        go_wp2
        go_ret
        exact ⟨rfl, 0, _, by rw [alloc_eq_grow, alloc_eq_grow, grow_grow]; rfl⟩
      · have c3 : decide (x0 < y0) = false := decide_eq_false h3
        rw [if_neg (by rw [ltI_iff]; simp only []; omega)]
        by_cases h4 : ((x0, x1, x2, x3) : Int × Int × Int × Bool) = (y0, y1, y2, y3)
        · rw [if_pos h4]
          injection h4 with e0 h4; injection h4 with e1 h4; injection h4 with e2 e3
          subst e0; subst e1; subst e2; subst e3
          clear h1 h2 h3
          go_enter Tryz.func44, Tryz.ntmps44
          go_wp2
          all_goals go_ret
          all_goals first
            | exact ⟨rfl, 0, _, by rw [alloc_eq_grow, alloc_eq_grow, grow_grow]; rfl⟩
            | (exfalso; simp_all; done)
            | trace_state
        · rw [if_neg h4]
          have c4 : (x0 == y0 && (x1 == y1 && (x2 == y2 && (x3 == y3)))) = false := by
            rw [Bool.eq_false_iff]
            intro h
            simp only [Bool.and_eq_true, beq_iff_eq] at h
            exact h4 (by rw [h.1, h.2.1, h.2.2.1, h.2.2.2])
          clear h1 h2 h3 h4
          go_enter Tryz.func44, Tryz.ntmps44
          go_wp2
          all_goals go_ret
          all_goals first
            | exact ⟨rfl, 0, _, by rw [alloc_eq_grow, alloc_eq_grow, grow_grow]; rfl⟩
            | (exfalso; simp_all; done)
            | trace_state
    · have c2 : (x1 == y1) = false := beq_eq_false_iff_ne.mpr h2
      rw [if_neg (by rw [ltI_iff]; simp only []; omega), if_neg (by intro h; injection h with _ h; injection h with e _; exact h2 e)]
      have c4 : (x0 == y0 && (x1 == y1 && (x2 == y2 && (x3 == y3)))) = false := by rw [c2]; simp
      clear h1 h2
      go_enter Tryz.func44, Tryz.ntmps44
      go_wp2
      all_goals go_ret
      all_goals first
        | exact ⟨rfl, 0, _, by rw [alloc_eq_grow, alloc_eq_grow, grow_grow]; rfl⟩
        | (exfalso; simp_all; done)
        | trace_state

theorem cmpLaysI (blk off size : Nat) (w : World) : CmpLays Tryz.prog 44 #[] encI 4 cmpI blk off size w := fun _ _ _ _ x y => closureI x y _

set_option maxHeartbeats 1000000 in
/-- slices.SortFunc over instances that the call owns. -/
theorem sortI_own {w : World} {base cap g : Nat} {xs : List (Int × Int × Int × Bool)} {inner : List Value} (ho : w.ownsRow base 55 4 (.slice (some ⟨g, 0, none⟩) xs.length cap) xs.length inner)
    (hr : Reps (fun x cs => cs = encI x) 4 xs inner) (hsz : xs.length < 4611686018427387904) :
    Calls Tryz.prog 43 #[.slice (some ⟨g, 0, none⟩) xs.length cap, .func (.func 44) #[] #[]] w fun e w' => e = .returned (.tuple #[]) ∧ ∃ (ys : List (Int × Int × Int × Bool)) (inner' : List Value),
      ys.Perm xs ∧ ys.Pairwise (fun x y => ltI y x = false) ∧ w'.ownsRow base 55 4 (.slice (some ⟨g, 0, none⟩) xs.length cap) xs.length inner' ∧ Reps (fun x cs => cs = encI x) 4 ys inner' ∧ w.grownBy w' (some g) := by
  have eg : ∀ args w, (callFunc 44 args).run Tryz.prog w = .ok (.enter 44 args) w := enters_of Tryz.func44 (by kernel_rfl) rfl
  obtain ⟨hH, hlt⟩ := holds_of_own (enc := encI) (fun _ => rfl) rfl ho hr
  have hcon := AnyQ.slices_SortFunc Tryz.sortInst 4 Tryz.isAgg55 Tryz.sizeOf55 encI (fun _ => rfl) (fun x v hv => by simp [encI] at hv; rcases hv with rfl | rfl | rfl | rfl <;> rfl) cmpI swoI 44 #[] g 0 cap xs.toArray w eg (cmpLaysI g 0 _ w) hH hlt (by simpa using hsz)
  change Calls Tryz.prog 43 _ _ _ at hcon
  have ea : xs.toArray.size = xs.length := by simp
  rw [ea] at hcon
  refine hcon.mono ?_
  rintro e w' ⟨he, d', m, os, hp, hs, rfl⟩
  rw [← ea] at hp hs
  obtain ⟨h1, h2, h3⟩ := perm_sorted hp hs
  obtain ⟨h4, h5⟩ := own_of_sorted (enc := encI) ho m d' h2 os
  refine ⟨he, d'.toList, _, h1, ?_, h4, ?_, h5⟩
  · refine h3.imp ?_
    intro x y hxy
    rwa [ltOfI] at hxy
  · have := reps_of_flat (enc := encI) (k := 4) (fun _ => rfl) d'.toList
    simpa using this

/-- .. over none. -/
theorem sortI_none {w : World} (p : Option Addr) (cap : Nat) : Calls Tryz.prog 43 #[.slice p 0 cap, .func (.func 44) #[] #[]] w fun e w' => e = .returned (.tuple #[]) ∧ w' = w :=
  AnyF.slices_SortFunc_none Tryz.sortInst p cap _ w

/-- Whole numbers, sorted. -/
def sortInts (xs : List Int) : List Int := xs.mergeSort fun x y => decide (x ≤ y)

theorem sortInts_eq (xs : List Int) : sortInts xs = isort (fun x y => decide (x < y)) xs := by
  have hw : SWO (fun x y : Int => decide (x < y)) := ⟨fun x => by simp, fun x y z h1 h2 => by simp at *; omega, fun x y z h1 h2 => by simp at *; omega⟩
  refine isort_unique hw (List.mergeSort_perm _ _) ?_ (fun a b _ _ h1 h2 => by simp at *; omega)
  refine (List.pairwise_mergeSort (le := fun x y => decide (x ≤ y)) (fun a b c h1 h2 => by simp at *; omega) (fun a b => by simp; omega) xs).imp ?_
  intro a b h
  simp at *
  omega
set_option maxHeartbeats 1000000 in
/-- slices.Sort over whole numbers that the call owns. -/
theorem sortInt_own {w : World} {base cap g : Nat} {xs : List Int} (ho : w.ownsRow base 2 1 (.slice (some ⟨g, 0, none⟩) xs.length cap) xs.length (xs.map (Value.int .i64))) (hsz : xs.length < 4611686018427387904) :
    Calls Tryz.prog 49 #[.slice (some ⟨g, 0, none⟩) xs.length cap] w fun e w' => e = .returned (.tuple #[]) ∧
      w'.ownsRow base 2 1 (.slice (some ⟨g, 0, none⟩) xs.length cap) xs.length ((sortInts xs).map (Value.int .i64)) ∧ w.grownBy w' (some g) := by
  obtain ⟨_, h | ⟨g', cap', cur, hv, hg, hh, hnc, hcm, hcs, htk⟩⟩ := ho
  · exact absurd h.1 (by simp)
  · obtain rfl : g' = g := by injection hv with h1 _ _; injection h1 with h1; injection h1 with h1; exact h1.symm
    obtain rfl : cap' = cap := by injection hv with _ _ h3; exact h3.symm
    have hlt : g' < w.heap.size := by
      rcases Nat.lt_or_ge g' w.heap.size with h1 | h1
      · exact h1
      · rw [Array.getElem?_eq_none h1] at hh; cases hh
    have hH : Holds (Value.int .i64) w g' 0 xs.toArray := by
      intro j hj
      have hj' : j < xs.length := by simpa using hj
      rw [Nat.zero_add]
      refine ⟨?_, blk_frozen hh j⟩
      rw [blk_cell hh j]
      have e1 : cur[j]? = (cur.toList.take (xs.length * 1))[j]? := by rw [List.getElem?_take, if_pos (by omega), Array.getElem?_toList]
      rw [e1, htk, List.getElem?_map, List.getElem?_eq_getElem hj']
      simp [hj']
    have hcon := AnyG.slices_Sort_int Tryz.sortInt g' 0 cap' xs w hH hlt hsz
    change Calls Tryz.prog 49 _ _ _ at hcon
    refine hcon.mono ?_
    rintro e w' ⟨he, m, os, rfl⟩
    refine ⟨he, ?_⟩
    have hd : (sortInts xs).toArray.size = xs.length := by simp [sortInts]
    change (grow (putRow (Value.int .i64) (Sort.ahead w m) g' 0 (sortInts xs).toArray) os).ownsRow _ _ _ _ _ _ ∧ w.grownBy (grow (putRow (Value.int .i64) (Sort.ahead w m) g' 0 (sortInts xs).toArray) os) _
    revert hd
    generalize (sortInts xs) = ys
    intro hd
    have hget : ∀ b, b < w.heap.size → (grow (putRow (Value.int .i64) (Sort.ahead w m) g' 0 ys.toArray) os).heap[b]? = ((w.heap.modify g' (onCells (putCells (Value.int .i64) 0 ys.toArray)))[b]?) := by
      intro b hb
      show ((w.heap.modify g' (onCells (putCells (Value.int .i64) 0 ys.toArray))) ++ os)[b]? = _
      rw [Array.getElem?_append_left (by simpa using hb)]
    refine ⟨⟨by simpa using hd, .inr ⟨g', cap', putCells (Value.int .i64) 0 ys.toArray cur, rfl, hg, ?_, hnc, hcm, ?_, ?_⟩⟩, ?_⟩
    · rw [hget g' hlt, Array.getElem?_modify, if_pos rfl, hh]
      rfl
    · unfold putCells
      rw [Array.size_mapIdx, hcs]
    · apply List.ext_getElem?
      intro t
      have hd' : ys.length = xs.length := by simpa using hd
      rcases Nat.lt_or_ge t xs.length with ht | ht
      · have hc : t < cur.size := by rw [hcs]; omega
        rw [List.getElem?_take, if_pos (by omega), Array.getElem?_toList]
        unfold putCells
        rw [Array.getElem?_mapIdx, Array.getElem?_eq_getElem hc]
        simp only [Option.map_some]
        rw [if_pos ⟨Nat.zero_le _, by simp; omega⟩]
        have hty : t < ys.length := by omega
        simp [hty]
      · rw [List.getElem?_eq_none (by simp; omega), List.getElem?_eq_none (by simp; omega)]
    · refine ⟨rfl, rfl, rfl, ?_, fun b hb hne => ?_⟩
      · show w.heap.size ≤ ((w.heap.modify g' (onCells (putCells (Value.int .i64) 0 ys.toArray))) ++ os).size
        simp
      · rw [hget b hb, Array.getElem?_modify, if_neg (fun h => hne (by rw [h]))]

theorem grown_refl (w : World) (row : Option Nat) : w.grownBy w row := ⟨rfl, rfl, rfl, Nat.le_refl _, fun _ _ _ => rfl⟩
/-- slices.Sort over a row that may be none. -/
theorem sortInt_any {w : World} {base : Nat} {v : Value} {xs : List Int} (ho : w.ownsRow base 2 1 v xs.length (xs.map (Value.int .i64))) (hsz : xs.length < 4611686018427387904) :
    Calls Tryz.prog 49 #[v] w fun e w' => e = .returned (.tuple #[]) ∧ w'.ownsRow base 2 1 v xs.length ((sortInts xs).map (Value.int .i64)) ∧ Below base w w' := by
  have ho' := ho
  obtain ⟨hlen, hv | ⟨g, cap, cur, hv, hg, hh, _⟩⟩ := ho'
  · obtain ⟨rfl, hn⟩ := hv
    obtain rfl : xs = [] := List.eq_nil_of_length_eq_zero hn
    refine (AnyG.slices_Sort_int_none Tryz.sortInt none 0 w).mono ?_
    rintro e w' ⟨he, rfl⟩
    exact ⟨he, by simpa [sortInts] using ho, Below.refl _ _⟩
  · subst hv
    refine (sortInt_own ho hsz).mono ?_
    rintro e w' ⟨he, h1, h2⟩
    have hlt := blk_lt hh
    exact ⟨he, h1, Below.grown (Below.refl _ _) h2 (by omega) (fun k e => by cases e; exact hg)⟩
end Go.Proofs.YtkgkblmeafhkfaaGreat.Sort

/- recur.upper, freq, weekday, number, strings.Split and CutPrefix, and the sort of one element at most: what they come to, over the program alone. -/
import Derived.Test.YtbeihceeliifeaaGreatDoorLib
import Derived.WalkKit
import Derived.Below
import Derived.ProofKit
import Derived.Laws.IdiomStrings
import Derived.KernelRfl
import Derived.Maps.OwnSet
import Derived.LoopN
import Derived.Lib.SmallJoins
import Derived.Deep.QuietTactic
import Derived.Test.YtbeihceeliifeaaGreatDoorProg
import Derived.Great.Walk
set_option linter.unusedVariables false
namespace Go.Proofs.YtbeihceeliifeaaGreatDoor.Read
open Go.RowKit Go.Shelf
/-- A large letter for a small one. -/
def up (c : UInt8) : UInt8 := if 97 ≤ c.toNat ∧ c.toNat ≤ 122 then c - 32 else c
def bAt (s : ByteArray) (j : Nat) : UInt8 := s.data.toList.getD j 0
def cur (s : ByteArray) (i j : Nat) : UInt8 := if j < i then up (bAt s j) else bAt s j
theorem cur_next {s : ByteArray} {i j : Nat} (h : j ≠ i) : cur s (i + 1) j = cur s i j := by
  unfold cur
  by_cases c : j < i
  · rw [if_pos c, if_pos (by omega)]
  · rw [if_neg c, if_neg (by omega)]
theorem cur_up {s : ByteArray} {i : Nat} (h : 97 ≤ (bAt s i).toNat ∧ (bAt s i).toNat ≤ 122) : ((cur s (i + 1) i).toNat : Int) = ((bAt s i).toNat : Int) - 32 := by
  unfold cur up
  rw [if_pos (by omega), if_pos h, UInt8.toNat_sub_of_le _ _ (by rw [UInt8.le_iff_toNat_le]; exact Nat.le_trans (by decide) h.1)]
  have : (32 : UInt8).toNat = 32 := rfl
  omega
theorem cur_stay {s : ByteArray} {i : Nat} (h : ¬ (97 ≤ (bAt s i).toNat ∧ (bAt s i).toNat ≤ 122)) : cur s (i + 1) i = cur s i i := by
  unfold cur up
  rw [if_pos (by omega), if_neg h, if_neg (by omega)]
set_option maxHeartbeats 1000000 in
set_option maxRecDepth 100000 in
theorem upper_main (s : ByteArray) (hs : s.size ≤ 100000) (w : World) : Calls Tryz.prog 29 #[.string s] w fun e w' => e = .returned (.string ⟨(s.data.toList.map up).toArray⟩) ∧ Below w.heap.size w w' := by
  have hconv := run_bytes_of_string (P := Tryz.prog) w 9 79 5 s Tryz.underlying9 Tryz.underlying79 Tryz.underlying5
  have hsz : s.data.toList.length = s.size := Array.length_toList
  obtain ⟨W, hW⟩ : ∃ W, W = (w.drew.alloc (.cells (bytesRow s (grownCap w s.size 0 5)) 5 ((bytesRow s (grownCap w s.size 0 5)).size, (bytesRow s (grownCap w s.size 0 5)).size + 1))) := ⟨_, rfl⟩
  rw [← hW] at hconv
  have hh : W.heap[w.heap.size]? = some (.cells (bytesRow s (grownCap w s.size 0 5)) 5 ((bytesRow s (grownCap w s.size 0 5)).size, (bytesRow s (grownCap w s.size 0 5)).size + 1)) := by
    rw [hW]
    show (w.heap.push _)[w.heap.size]? = _
    simp
  have hrow : ∀ j, j < s.size → (bytesRow s (grownCap w s.size 0 5))[j]? = some (.int .u8 (cur s 0 j).toNat) := fun j hj => by
    unfold bytesRow cur bAt
    have : j < s.data.size := hj
    rw [if_neg (by omega), Array.getElem?_append_left (by simpa using this)]
    simp [List.getD]
    exact ⟨s.data[j], Array.getElem?_eq_getElem this, by rw [Array.getElem?_eq_getElem this]; rfl⟩
  have hc : ∀ j, j < s.size → W.cell? ⟨w.heap.size, j, none⟩ = some (.int .u8 (cur s 0 j).toNat) := fun j hj => by
    unfold World.cell?
    simp only [hh]
    simp [hrow j hj]
  have hz : ∀ j, j < s.size → W.frozen? ⟨w.heap.size, j, none⟩ = false := fun j hj => by
    have : j < (bytesRow s (grownCap w s.size 0 5)).size := by have : j < s.data.size := hj; simp [bytesRow]; omega
    unfold World.frozen?
    simp only [hh]
    simp
    omega
  have hb : Below w.heap.size w W := by
    rw [hW]
    exact (Below.refl _ _).drew.alloc (Nat.le_refl _) _
  clear hW hh hrow
  generalize grownCap w s.size 0 5 = cap at hconv
  have hcap : s.size ≤ 100000 := hs
  go_enter Tryz.func29, Tryz.ntmps29
  go_wp2
  go_loopw [10] (fun v wr => ∃ i : Nat, v = .int .i64 i ∧ i ≤ s.size ∧ (∀ j, j < s.size → wr.cell? ⟨w.heap.size, j, none⟩ = some (.int .u8 (cur s i j).toNat)) ∧ (∀ j, j < s.size → wr.frozen? ⟨w.heap.size, j, none⟩ = false) ∧ Below w.heap.size w wr) (fun v _ => s.size - (intOf v).toNat)
  case atStart => exact ⟨0, rfl, Nat.zero_le _, hc, hz, hb⟩
  case round =>
    obtain ⟨k, rfl, hk, hcr, hzr, hbr⟩ := hrel
    by_cases hkl : k < s.size
    · have hck := hcr k hkl
      have hzk := hzr k hkl
      have e0 : cur s k k = bAt s k := by unfold cur; rw [if_neg (by omega)]
      rw [e0] at hck
      have HC : Hid (∀ j, j < s.size → wr.cell? ⟨w.heap.size, j, none⟩ = some (.int .u8 (cur s k j).toNat)) := hcr
      have HZ : Hid (∀ j, j < s.size → wr.frozen? ⟨w.heap.size, j, none⟩ = false) := hzr
      clear hcr hzr hc hz hb hconv
      have hb256 : (bAt s k).toNat < 256 := (bAt s k).toNat_lt
      by_cases hup : 97 ≤ (bAt s k).toNat ∧ (bAt s k).toNat ≤ 122
      · have hcu := cur_up hup
        generalize (bAt s k).toNat = x at *
        obtain ⟨hu1, hu2⟩ := hup
        clear e0
        go_wp2
        go_roundw
        case rel =>
          refine ⟨k + 1, by go_num, by omega, fun j hj => ?_, fun j hj => ?_, hbr.setCell (Nat.le_refl _) _⟩
          · by_cases e : j = k
            · subst e
              rw [World.cell?_setCell_same _ _ _ hck, hcu]
            · rw [World.cell?_setCell_other _ _ _ _ (by simp only [ne_eq, Addr.mk.injEq]; omega), cur_next e, HC.out j hj]
          · rw [World.frozen?_setCell, HZ.out j hj]
        case measure => simp [intOf]; omega
      · have hcs := cur_stay hup
        rw [e0] at hcs
        have hcs' := congrArg UInt8.toNat hcs
        generalize (bAt s k).toNat = x at *
        clear e0 hcs
        by_cases h1 : 97 ≤ x
        · go_wp2
          go_roundw
          case rel =>
            refine ⟨k + 1, by go_num, by omega, fun j hj => ?_, HZ.out, hbr⟩
            by_cases e : j = k
            · subst e
              rw [hcs', hck]
            · rw [cur_next e, HC.out j hj]
          case measure => simp [intOf]; omega
        · go_wp2
          go_roundw
          case rel =>
            refine ⟨k + 1, by go_num, by omega, fun j hj => ?_, HZ.out, hbr⟩
            by_cases e : j = k
            · subst e
              rw [hcs', hck]
            · rw [cur_next e, HC.out j hj]
          case measure => simp [intOf]; omega
    · obtain rfl : k = s.size := by omega
      have hfin : (convert 79 9 (.slice (some ⟨w.heap.size, 0, none⟩) s.size cap)).run Tryz.prog wr = .ok (.string ⟨(s.data.toList.map up).toArray⟩) wr := by
        have e := run_convert_bytes_back (P := Tryz.prog) wr 79 9 5 ⟨w.heap.size, 0, none⟩ cap (s.data.toList.map up) Tryz.underlying79 Tryz.underlying5 Tryz.underlying9 (fun j hj => by
          rw [List.length_map, hsz] at hj
          have h1 : (⟨w.heap.size, 0, none⟩ : Addr).add j = ⟨w.heap.size, j, none⟩ := by unfold Addr.add; split <;> simp_all
          rw [h1, hcr j hj]
          unfold cur bAt
          rw [if_pos hj]
          simp only [List.getElem_map]
          rw [List.getD_eq_getElem?_getD, List.getElem?_eq_getElem (by rw [hsz]; exact hj)]
          rfl)
        rw [List.length_map, hsz] at e
        exact e
      clear hcr hzr hc hz
      go_wp2
      go_ret
      exact ⟨rfl, hbr⟩
/-- What the library's texts ask of the world: the greatest length is some number, the powers of ten are laid. -/
def Glob (w : World) : Prop := (∃ m, w.cell? ⟨Tryz.lays146_ren.g 1, 0, none⟩ = some (.int .i64 m)) ∧ Go.Lib.TabIs Tryz.prog w "internal/strconv.uint64pow10" .u64 Go.Lib.pow10Tab
theorem cell_lt {w : World} {a : Addr} {v : Value} (h : w.cell? a = some v) : a.block < w.heap.size := by
  rcases Nat.lt_or_ge a.block w.heap.size with c | c
  · exact c
  · unfold World.cell? at h
    rw [Array.getElem?_eq_none c] at h
    simp at h
theorem Glob.below {w w' : World} (h : Glob w) (hb : Below w.heap.size w w') : Glob w' := by
  obtain ⟨⟨m, hm⟩, ht⟩ := h
  exact ⟨⟨m, (hb.cell (cell_lt hm)).trans hm⟩, Go.Joins.var_stays (P := Tryz.prog) (g := 5) (by kernel_rfl) ht hb (Nat.le_refl _)⟩

/-- The names of freqs, and of weekdays. -/
def freqT (n : Int) : ByteArray := if n = 0 then ⟨#[]⟩ else if n = 1 then ⟨#[68, 65, 73, 76, 89]⟩ else if n = 2 then ⟨#[87, 69, 69, 75, 76, 89]⟩ else if n = 3 then ⟨#[77, 79, 78, 84, 72, 76, 89]⟩ else ⟨#[89, 69, 65, 82, 76, 89]⟩
def weekT (n : Int) : ByteArray := if n = 0 then ⟨#[77, 79]⟩ else if n = 1 then ⟨#[84, 85]⟩ else if n = 2 then ⟨#[87, 69]⟩ else if n = 3 then ⟨#[84, 72]⟩ else if n = 4 then ⟨#[70, 82]⟩ else if n = 5 then ⟨#[83, 65]⟩ else ⟨#[83, 85]⟩
set_option maxHeartbeats 1000000 in
theorem freq_main (n : Int) (h : 0 ≤ n ∧ n < 5) (w : World) : Calls Tryz.prog 49 #[.int .i64 n] w fun e w' => e = .returned (.string (freqT n)) ∧ Below w.heap.size w w' := by
  have HB := Below.refl w.heap.size w
  have hc : n = 0 ∨ n = 1 ∨ n = 2 ∨ n = 3 ∨ n = 4 := by omega
  clear h
  rcases hc with rfl | rfl | rfl | rfl | rfl
  all_goals (go_enter Tryz.func49, Tryz.ntmps49; go_wp2; go_ret; exact ⟨rfl, HB.alloc (Nat.le_refl _) _⟩)
set_option maxHeartbeats 1000000 in
theorem weekday_main (n : Int) (h : 0 ≤ n ∧ n < 7) (w : World) : Calls Tryz.prog 73 #[.int .i64 n] w fun e w' => e = .returned (.string (weekT n)) ∧ Below w.heap.size w w' := by
  have HB := Below.refl w.heap.size w
  have hc : n = 0 ∨ n = 1 ∨ n = 2 ∨ n = 3 ∨ n = 4 ∨ n = 5 ∨ n = 6 := by omega
  clear h
  rcases hc with rfl | rfl | rfl | rfl | rfl | rfl | rfl
  all_goals (go_enter Tryz.func73, Tryz.ntmps73; go_wp2; go_ret; exact ⟨rfl, HB.alloc (Nat.le_refl _) _⟩)
theorem bytesWorld_below (w : World) (e : TypeId) (t : ByteArray) : Below w.heap.size w (Go.Lib.bytesWorld w e t) := ⟨rfl, rfl, rfl, by rw [Go.Lib.bytesWorld_size]; omega, fun k hk => Go.Lib.bytesWorld_at_old w e t k hk⟩
theorem grow_below (w : World) (k : Nat) (os : Array Obj) : Below w.heap.size w (Go.Sort.grow (w.drewN k) os) := by
  have hb : Below w.heap.size w (w.drewN k) := by
    induction k with
    | zero => exact Below.refl _ _
    | succ k ih => exact ih.drew
  exact ⟨hb.os, hb.tape, hb.output, by have := hb.size; simp only [Go.Sort.grow, Array.size_append]; omega, fun j hj => by
    rw [← hb.block j hj]
    simp only [Go.Sort.grow]
    exact Array.getElem?_append_left (Nat.lt_of_lt_of_le hj hb.size)⟩
theorem number_main (s : ByteArray) (n : Int) (hl : s.size < 9) (ha : Go.Lib.atoi s.data.toList = some n) (h0 : -1000 ≤ n ∧ n ≤ 1000) (hi : (⟨(Go.Lib.itoa n).toArray⟩ : ByteArray) = s) (w : World) (hG : Glob w) :
    Calls Tryz.prog 50 #[.string s] w fun e w' => e = .returned (.tuple #[.int .i64 n, .bool true]) ∧ Below w.heap.size w w' := by
  have HB := Below.refl w.heap.size w
  have hA := Any.strconv_Atoi Tryz.lays172 s n (by omega) ha w
  have HA : Hid (Calls Tryz.prog 68 #[.string s] w fun e w' => e = .returned (.tuple #[.int .i64 n, .nilIface]) ∧ Below w.heap.size w w') := hA.mono (fun e w' ⟨he, t, hw⟩ => ⟨he, by rw [hw]; exact bytesWorld_below w _ t⟩)
  have HI : Hid (∀ W, Glob W → Calls Tryz.prog 69 #[.int .i64 n] W fun e w' => e = .returned (.string s) ∧ Below W.heap.size W w') := fun W hW => (Any.strconv_Itoa Tryz.lays171 n (by omega) (by omega) W hW.2).mono (fun e w' ⟨he, k, os, hw⟩ => ⟨by rw [he, hi], by rw [hw]; exact grow_below W k os⟩)
  have HG : Hid (Glob w) := hG
  clear hA ha hi hG
  go_enter Tryz.func50, Tryz.ntmps50
  go_wp2_with (first | (go_at_call 68; refine HA.out.mono ?_; rintro e w1 ⟨rfl, hb1⟩) | (go_at_call 69; refine (HI.out _ (HG.out.below hb1)).mono ?_; rintro e w2 ⟨rfl, hb2⟩))
  go_ret2
  have hd : decide ((s.size : Int) < 9) = true := decide_eq_true (by omega)
  exact ⟨by rw [hd]; rfl, hb1.trans (hb2.mono hb1.size)⟩
set_option maxHeartbeats 1000000 in
theorem ins_small (A : Option Addr) (n cap : Nat) (cmp : Value) (hn : n ≤ 1) (w : World) : Calls Tryz.prog 114 #[.slice A n cap, .int .i64 0, .int .i64 n, cmp] w fun e w' => e = .returned (.tuple #[]) ∧ Below w.heap.size w w' := by
  have HB := Below.refl w.heap.size w
  go_enter Tryz.func114, Tryz.ntmps114
  go_wp2
  refine wp_loop_rounds 1 ?_
  rw [rounds_succ]
  go_wp2
  exact Go.Great.bodyPost_end0 rfl rfl ⟨rfl, HB⟩
set_option maxHeartbeats 1000000 in
theorem pdq_small (A : Option Addr) (n cap : Nat) (cmp : Value) (l : Int) (hn : n ≤ 1) (w : World) : Calls Tryz.prog 92 #[.slice A n cap, .int .i64 0, .int .i64 n, .int .i64 l, cmp] w fun e w' => e = .returned (.tuple #[]) ∧ Below w.heap.size w w' := by
  go_enter Tryz.func92, Tryz.ntmps92
  go_wp2
  refine wp_loop_rounds 1 ?_
  rw [rounds_succ]
  go_wp2_with (first | (go_at_call 114; refine (ins_small A n cap cmp hn _).mono ?_; rintro e w1 ⟨rfl, hb1⟩))
  exact bodyPost_ret (results_none rfl _ _ _) rfl ⟨rfl, hb1⟩
set_option maxHeartbeats 1000000 in
theorem sort_small (A : Option Addr) (n cap : Nat) (cmp : Value) (hn : n ≤ 1) (w : World) : Calls Tryz.prog 75 #[.slice A n cap, cmp] w fun e w' => e = .returned (.tuple #[]) ∧ Below w.heap.size w w' := by
  have hc : n = 0 ∨ n = 1 := by omega
  rcases hc with rfl | rfl
  · go_enter Tryz.func75, Tryz.ntmps75
    go_wp2_with (first | (go_at_call 92; refine (pdq_small A _ cap cmp _ hn _).mono ?_; rintro e w1 ⟨rfl, hb1⟩) | go_in)
    exact Go.Great.bodyPost_end0 rfl rfl ⟨rfl, hb1⟩
  · go_enter Tryz.func75, Tryz.ntmps75
    go_wp2_with (first | (go_at_call 92; refine (pdq_small A _ cap cmp _ hn _).mono ?_; rintro e w1 ⟨rfl, hb1⟩) | go_in)
    exact Go.Great.bodyPost_end0 rfl rfl ⟨rfl, hb1⟩

theorem split_main (s sep : ByteArray) (hs : s.size < 4294967281) (h1 : 1 ≤ sep.size) (w : World) (hG : Glob w) :
    Calls Tryz.prog 28 #[.string s, .string sep] w fun e w' => ∃ v, e = .returned v ∧ w'.ownsRow w.heap.size 9 1 v (Go.Lib.splitB sep 0 (Go.Lib.countB s sep) s).length ((Go.Lib.splitB sep 0 (Go.Lib.countB s sep) s).map Value.string) ∧ Below w.heap.size w w' := by
  obtain ⟨⟨m, hm⟩, -⟩ := hG
  have hn := Go.Lib.splitB_all sep h1 0 _ s rfl
  have hle := Go.Lib.countB_le sep h1 s.size s (Nat.le_refl _)
  refine (Any.strings_Split { Tryz.lays146 with } Tryz.lays146.i9 s sep m w hs hm h1).mono ?_
  rintro e w' ⟨rfl, rfl⟩
  refine ⟨_, rfl, ⟨by rw [List.length_map, Nat.mul_one], .inr ⟨w.heap.size, _, ((Go.Lib.splitB sep 0 (Go.Lib.countB s sep) s).map Value.string).toArray, by rw [hn], Nat.le_refl _, ?_, by rw [hn]; exact Nat.le_refl _, by unfold maxLen; omega, by rw [List.size_toArray, List.length_map, hn, Nat.mul_one], ?_⟩⟩, (Below.refl _ _).alloc (Nat.le_refl _) _⟩
  · show (w.heap.push _)[w.heap.size]? = _
    simp
    rfl
  · rw [Nat.mul_one, List.take_of_length_le (by simp)]
theorem cut_main (s p : ByteArray) (w : World) :
    Calls Tryz.prog 74 #[.string s, .string p] w fun e w' => e = .returned (.tuple #[.string ⟨(Go.Lib.trimPrefix s.data.toList p.data.toList).toArray⟩, .bool (Go.Lib.hasPrefix s.data.toList p.data.toList)]) ∧ w' = w :=
  Any.strings_CutPrefix Tryz.lays103 s p w
theorem parts_main (s sep : ByteArray) (hs : s.size < 4294967281) (w : World) (hG : Glob w) :
    Calls Tryz.prog 30 #[.string s, .string sep] w fun e w' => e = .returned (.tuple #[.string ⟨(Go.Lib.cut s.data.toList sep.data.toList).1.toArray⟩, .string ⟨(Go.Lib.cut s.data.toList sep.data.toList).2.1.toArray⟩, .bool (Go.Lib.cut s.data.toList sep.data.toList).2.2]) ∧ Below w.heap.size w w' := by
  obtain ⟨⟨m, hm⟩, -⟩ := hG
  refine (Any.strings_Cut { Tryz.lays145 with } s sep m w hs hm).mono ?_
  rintro e w' ⟨rfl, n, rfl⟩
  refine ⟨rfl, ?_⟩
  clear hs hm
  induction n with
  | zero => exact Below.refl _ _
  | succ k ih => exact ih.drew
end Go.Proofs.YtbeihceeliifeaaGreatDoor.Read

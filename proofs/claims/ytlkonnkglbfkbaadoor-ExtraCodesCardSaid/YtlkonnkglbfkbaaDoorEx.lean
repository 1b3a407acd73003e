/- extra, kind, charset: small letters, tokens, cuts, places, kinds that may be, points and their bytes, coded texts: what they come to, over the program alone (the maps at alive's fixed kinds). -/
import Derived.Test.YtlkonnkglbfkbaaDoorLib
import Derived.WalkKit
import Derived.Below
import Derived.ProofKit
import Derived.Laws.IdiomStrings
import Derived.KernelRfl
import Derived.Maps.OwnSet
import Derived.LoopN
import Derived.Lib.SmallJoins
import Derived.Deep.QuietTactic
import Derived.Great.Walk
import Derived.Scope
import Derived.Test.YtlkonnkglbfkbaaDoorWWords
import Derived.Test.YtlkonnkglbfkbaaDoorWLast
import Derived.Test.YtlkonnkglbfkbaaDoorWTab
import Derived.Test.YtlkonnkglbfkbaaDoorWFour
import Derived.Test.YtlkonnkglbfkbaaDoorWQPut
import Derived.Test.YtlkonnkglbfkbaaDoorWApart
import Derived.Test.YtlkonnkglbfkbaaDoorWArr
import Derived.Test.YtlkonnkglbfkbaaDoorWZeros
import Derived.Test.YtlkonnkglbfkbaaDoorWFoot
import Derived.Test.YtlkonnkglbfkbaaDoorWKept
import Derived.Test.YtlkonnkglbfkbaaDoorWShare
import Derived.Test.YtlkonnkglbfkbaaDoorWN
import Derived.Test.YtlkonnkglbfkbaaDoorWFootNe
import Derived.Test.YtlkonnkglbfkbaaDoorWAt
import Derived.Test.YtlkonnkglbfkbaaDoorWEqStruct
import Derived.Test.YtlkonnkglbfkbaaDoorWRepsOne
import Derived.Test.YtlkonnkglbfkbaaDoorWInv
import Derived.Test.YtlkonnkglbfkbaaDoorWInvWords
import Derived.Test.YtlkonnkglbfkbaaDoorWGuard
import Derived.Test.YtlkonnkglbfkbaaDoorWNEv
import Derived.Test.YtlkonnkglbfkbaaDoorWMore
set_option linter.unusedVariables false
namespace Go.Proofs.YtlkonnkglbfkbaaDoor.Ex
open Go.RowKit Go.Shelf Go.Proofs.YtlkonnkglbfkbaaDoorW.PrintWords Go.Proofs.YtlkonnkglbfkbaaDoorW.PrintLast Go.Proofs.YtlkonnkglbfkbaaDoorW.PrintMore
/-- A small letter for a large one. -/
def low (c : UInt8) : UInt8 := if 65 ≤ c.toNat ∧ c.toNat ≤ 90 then c + 32 else c
def bAt (s : ByteArray) (j : Nat) : UInt8 := s.data.toList.getD j 0
def cur (s : ByteArray) (i j : Nat) : UInt8 := if j < i then low (bAt s j) else bAt s j
theorem cur_next {s : ByteArray} {i j : Nat} (h : j ≠ i) : cur s (i + 1) j = cur s i j := by
  unfold cur
  by_cases c : j < i
  · rw [if_pos c, if_pos (by omega)]
  · rw [if_neg c, if_neg (by omega)]
theorem cur_low {s : ByteArray} {i : Nat} (h : 65 ≤ (bAt s i).toNat ∧ (bAt s i).toNat ≤ 90) : ((cur s (i + 1) i).toNat : Int) = ((bAt s i).toNat : Int) + 32 := by
  unfold cur low
  rw [if_pos (by omega), if_pos h, UInt8.toNat_add]
  have : (32 : UInt8).toNat = 32 := rfl
  omega
theorem cur_stay {s : ByteArray} {i : Nat} (h : ¬ (65 ≤ (bAt s i).toNat ∧ (bAt s i).toNat ≤ 90)) : cur s (i + 1) i = cur s i i := by
  unfold cur low
  rw [if_pos (by omega), if_neg h, if_neg (by omega)]
set_option maxHeartbeats 1000000 in
set_option maxRecDepth 100000 in
theorem lowerK_main (s : ByteArray) (hs : s.size ≤ 100000) (w : World) : Calls Tryd.prog 33 #[.string s] w fun e w' => e = .returned (.string ⟨(s.data.toList.map low).toArray⟩) ∧ Below w.heap.size w w' := by
  have hconv := run_bytes_of_string (P := Tryd.prog) w 9 22 5 s Tryd.underlying9 Tryd.underlying22 Tryd.underlying5
  have hsz : s.data.toList.length = s.size := Array.length_toList
  obtain ⟨W, hW⟩ : ∃ W, W = (w.drew.alloc (.cells (bytesRow s (grownCap w s.size 0 5)) 5 ((bytesRow s (grownCap w s.size 0 5)).size, (bytesRow s (grownCap w s.size 0 5)).size + 1))) := ⟨_, rfl⟩
  rw [← hW] at hconv
  have hh : W.heap[w.heap.size]? = some (.cells (bytesRow s (grownCap w s.size 0 5)) 5 ((bytesRow s (grownCap w s.size 0 5)).size, (bytesRow s (grownCap w s.size 0 5)).size + 1)) := by
    rw [hW]
    show (w.heap.push _)[w.heap.size]? = _
    simp
  have hrow : ∀ j, j < s.size → (bytesRow s (grownCap w s.size 0 5))[j]? = some (.int .u8 (cur s 0 j).toNat) := fun j hj => by
    unfold bytesRow cur bAt
    have : j < s.data.size := hj
    rw [if_neg (by omega), Array.getElem?_append_left (by simpa using this)]
    simp [List.getD]
    exact ⟨s.data[j], Array.getElem?_eq_getElem this, by rw [Array.getElem?_eq_getElem this]; rfl⟩
  have hc : ∀ j, j < s.size → W.cell? ⟨w.heap.size, j, none⟩ = some (.int .u8 (cur s 0 j).toNat) := fun j hj => by
    unfold World.cell?
    simp only [hh]
    simp [hrow j hj]
  have hz : ∀ j, j < s.size → W.frozen? ⟨w.heap.size, j, none⟩ = false := fun j hj => by
    have : j < (bytesRow s (grownCap w s.size 0 5)).size := by have : j < s.data.size := hj; simp [bytesRow]; omega
    unfold World.frozen?
    simp only [hh]
    simp
    omega
  have hb : Below w.heap.size w W := by
    rw [hW]
    exact (Below.refl _ _).drew.alloc (Nat.le_refl _) _
  clear hW hh hrow
  generalize grownCap w s.size 0 5 = cap at hconv
  have hcap : s.size ≤ 100000 := hs
  go_enter Tryd.func33, Tryd.ntmps33
  go_wp2
  go_loopw [10] (fun v wr => ∃ i : Nat, v = .int .i64 i ∧ i ≤ s.size ∧ (∀ j, j < s.size → wr.cell? ⟨w.heap.size, j, none⟩ = some (.int .u8 (cur s i j).toNat)) ∧ (∀ j, j < s.size → wr.frozen? ⟨w.heap.size, j, none⟩ = false) ∧ Below w.heap.size w wr) (fun v _ => s.size - (intOf v).toNat)
  case atStart => exact ⟨0, rfl, Nat.zero_le _, hc, hz, hb⟩
  case round =>
    obtain ⟨k, rfl, hk, hcr, hzr, hbr⟩ := hrel
    by_cases hkl : k < s.size
    · have hck := hcr k hkl
      have hzk := hzr k hkl
      have e0 : cur s k k = bAt s k := by unfold cur; rw [if_neg (by omega)]
      rw [e0] at hck
      have HC : Hid (∀ j, j < s.size → wr.cell? ⟨w.heap.size, j, none⟩ = some (.int .u8 (cur s k j).toNat)) := hcr
      have HZ : Hid (∀ j, j < s.size → wr.frozen? ⟨w.heap.size, j, none⟩ = false) := hzr
      clear hcr hzr hc hz hb hconv
      have hb256 : (bAt s k).toNat < 256 := (bAt s k).toNat_lt
      by_cases hup : 65 ≤ (bAt s k).toNat ∧ (bAt s k).toNat ≤ 90
      · have hcu := cur_low hup
        generalize (bAt s k).toNat = x at *
        obtain ⟨hu1, hu2⟩ := hup
        clear e0
        go_wp2
        go_roundw
        case rel =>
          refine ⟨k + 1, by go_num, by omega, fun j hj => ?_, fun j hj => ?_, hbr.setCell (Nat.le_refl _) _⟩
          · by_cases e : j = k
            · subst e
              rw [World.cell?_setCell_same _ _ _ hck, hcu]
            · rw [World.cell?_setCell_other _ _ _ _ (by simp only [ne_eq, Addr.mk.injEq]; omega), cur_next e, HC.out j hj]
          · rw [World.frozen?_setCell, HZ.out j hj]
        case measure => simp [intOf]; omega
      · have hcs := cur_stay hup
        rw [e0] at hcs
        have hcs' := congrArg UInt8.toNat hcs
        generalize (bAt s k).toNat = x at *
        clear e0 hcs
        by_cases h1 : 65 ≤ x
        · go_wp2
          go_roundw
          case rel =>
            refine ⟨k + 1, by go_num, by omega, fun j hj => ?_, HZ.out, hbr⟩
            by_cases e : j = k
            · subst e
              rw [hcs', hck]
            · rw [cur_next e, HC.out j hj]
          case measure => simp [intOf]; omega
        · go_wp2
          go_roundw
          case rel =>
            refine ⟨k + 1, by go_num, by omega, fun j hj => ?_, HZ.out, hbr⟩
            by_cases e : j = k
            · subst e
              rw [hcs', hck]
            · rw [cur_next e, HC.out j hj]
          case measure => simp [intOf]; omega
    · obtain rfl : k = s.size := by omega
      have hfin : (convert 22 9 (.slice (some ⟨w.heap.size, 0, none⟩) s.size cap)).run Tryd.prog wr = .ok (.string ⟨(s.data.toList.map low).toArray⟩) wr := by
        have e := run_convert_bytes_back (P := Tryd.prog) wr 22 9 5 ⟨w.heap.size, 0, none⟩ cap (s.data.toList.map low) Tryd.underlying22 Tryd.underlying5 Tryd.underlying9 (fun j hj => by
          rw [List.length_map, hsz] at hj
          have h1 : (⟨w.heap.size, 0, none⟩ : Addr).add j = ⟨w.heap.size, j, none⟩ := by unfold Addr.add; split <;> simp_all
          rw [h1, hcr j hj]
          unfold cur bAt
          rw [if_pos hj]
          simp only [List.getElem_map]
          rw [List.getD_eq_getElem?_getD, List.getElem?_eq_getElem (by rw [hsz]; exact hj)]
          rfl)
        rw [List.length_map, hsz] at e
        exact e
      clear hcr hzr hc hz
      go_wp2
      go_ret
      exact ⟨rfl, hbr⟩
set_option maxHeartbeats 1000000 in
set_option maxRecDepth 100000 in
theorem lowerC_main (s : ByteArray) (hs : s.size ≤ 100000) (w : World) : Calls Tryd.prog 69 #[.string s] w fun e w' => e = .returned (.string ⟨(s.data.toList.map low).toArray⟩) ∧ Below w.heap.size w w' := by
  have hconv := run_bytes_of_string (P := Tryd.prog) w 9 22 5 s Tryd.underlying9 Tryd.underlying22 Tryd.underlying5
  have hsz : s.data.toList.length = s.size := Array.length_toList
  obtain ⟨W, hW⟩ : ∃ W, W = (w.drew.alloc (.cells (bytesRow s (grownCap w s.size 0 5)) 5 ((bytesRow s (grownCap w s.size 0 5)).size, (bytesRow s (grownCap w s.size 0 5)).size + 1))) := ⟨_, rfl⟩
  rw [← hW] at hconv
  have hh : W.heap[w.heap.size]? = some (.cells (bytesRow s (grownCap w s.size 0 5)) 5 ((bytesRow s (grownCap w s.size 0 5)).size, (bytesRow s (grownCap w s.size 0 5)).size + 1)) := by
    rw [hW]
    show (w.heap.push _)[w.heap.size]? = _
    simp
  have hrow : ∀ j, j < s.size → (bytesRow s (grownCap w s.size 0 5))[j]? = some (.int .u8 (cur s 0 j).toNat) := fun j hj => by
    unfold bytesRow cur bAt
    have : j < s.data.size := hj
    rw [if_neg (by omega), Array.getElem?_append_left (by simpa using this)]
    simp [List.getD]
    exact ⟨s.data[j], Array.getElem?_eq_getElem this, by rw [Array.getElem?_eq_getElem this]; rfl⟩
  have hc : ∀ j, j < s.size → W.cell? ⟨w.heap.size, j, none⟩ = some (.int .u8 (cur s 0 j).toNat) := fun j hj => by
    unfold World.cell?
    simp only [hh]
    simp [hrow j hj]
  have hz : ∀ j, j < s.size → W.frozen? ⟨w.heap.size, j, none⟩ = false := fun j hj => by
    have : j < (bytesRow s (grownCap w s.size 0 5)).size := by have : j < s.data.size := hj; simp [bytesRow]; omega
    unfold World.frozen?
    simp only [hh]
    simp
    omega
  have hb : Below w.heap.size w W := by
    rw [hW]
    exact (Below.refl _ _).drew.alloc (Nat.le_refl _) _
  clear hW hh hrow
  generalize grownCap w s.size 0 5 = cap at hconv
  have hcap : s.size ≤ 100000 := hs
  go_enter Tryd.func69, Tryd.ntmps69
  go_wp2
  go_loopw [10] (fun v wr => ∃ i : Nat, v = .int .i64 i ∧ i ≤ s.size ∧ (∀ j, j < s.size → wr.cell? ⟨w.heap.size, j, none⟩ = some (.int .u8 (cur s i j).toNat)) ∧ (∀ j, j < s.size → wr.frozen? ⟨w.heap.size, j, none⟩ = false) ∧ Below w.heap.size w wr) (fun v _ => s.size - (intOf v).toNat)
  case atStart => exact ⟨0, rfl, Nat.zero_le _, hc, hz, hb⟩
  case round =>
    obtain ⟨k, rfl, hk, hcr, hzr, hbr⟩ := hrel
    by_cases hkl : k < s.size
    · have hck := hcr k hkl
      have hzk := hzr k hkl
      have e0 : cur s k k = bAt s k := by unfold cur; rw [if_neg (by omega)]
      rw [e0] at hck
      have HC : Hid (∀ j, j < s.size → wr.cell? ⟨w.heap.size, j, none⟩ = some (.int .u8 (cur s k j).toNat)) := hcr
      have HZ : Hid (∀ j, j < s.size → wr.frozen? ⟨w.heap.size, j, none⟩ = false) := hzr
      clear hcr hzr hc hz hb hconv
      have hb256 : (bAt s k).toNat < 256 := (bAt s k).toNat_lt
      by_cases hup : 65 ≤ (bAt s k).toNat ∧ (bAt s k).toNat ≤ 90
      · have hcu := cur_low hup
        generalize (bAt s k).toNat = x at *
        obtain ⟨hu1, hu2⟩ := hup
        clear e0
        go_wp2
        go_roundw
        case rel =>
          refine ⟨k + 1, by go_num, by omega, fun j hj => ?_, fun j hj => ?_, hbr.setCell (Nat.le_refl _) _⟩
          · by_cases e : j = k
            · subst e
              rw [World.cell?_setCell_same _ _ _ hck, hcu]
            · rw [World.cell?_setCell_other _ _ _ _ (by simp only [ne_eq, Addr.mk.injEq]; omega), cur_next e, HC.out j hj]
          · rw [World.frozen?_setCell, HZ.out j hj]
        case measure => simp [intOf]; omega
      · have hcs := cur_stay hup
        rw [e0] at hcs
        have hcs' := congrArg UInt8.toNat hcs
        generalize (bAt s k).toNat = x at *
        clear e0 hcs
        by_cases h1 : 65 ≤ x
        · go_wp2
          go_roundw
          case rel =>
            refine ⟨k + 1, by go_num, by omega, fun j hj => ?_, HZ.out, hbr⟩
            by_cases e : j = k
            · subst e
              rw [hcs', hck]
            · rw [cur_next e, HC.out j hj]
          case measure => simp [intOf]; omega
        · go_wp2
          go_roundw
          case rel =>
            refine ⟨k + 1, by go_num, by omega, fun j hj => ?_, HZ.out, hbr⟩
            by_cases e : j = k
            · subst e
              rw [hcs', hck]
            · rw [cur_next e, HC.out j hj]
          case measure => simp [intOf]; omega
    · obtain rfl : k = s.size := by omega
      have hfin : (convert 22 9 (.slice (some ⟨w.heap.size, 0, none⟩) s.size cap)).run Tryd.prog wr = .ok (.string ⟨(s.data.toList.map low).toArray⟩) wr := by
        have e := run_convert_bytes_back (P := Tryd.prog) wr 22 9 5 ⟨w.heap.size, 0, none⟩ cap (s.data.toList.map low) Tryd.underlying22 Tryd.underlying5 Tryd.underlying9 (fun j hj => by
          rw [List.length_map, hsz] at hj
          have h1 : (⟨w.heap.size, 0, none⟩ : Addr).add j = ⟨w.heap.size, j, none⟩ := by unfold Addr.add; split <;> simp_all
          rw [h1, hcr j hj]
          unfold cur bAt
          rw [if_pos hj]
          simp only [List.getElem_map]
          rw [List.getD_eq_getElem?_getD, List.getElem?_eq_getElem (by rw [hsz]; exact hj)]
          rfl)
        rw [List.length_map, hsz] at e
        exact e
      clear hcr hzr hc hz
      go_wp2
      go_ret
      exact ⟨rfl, hbr⟩
/-- What the library's texts ask of the world: the greatest length is some number, the powers of ten are laid. -/
def Glob (w : World) : Prop := (∃ m, w.cell? ⟨Tryd.lays145_ren.g 1, 0, none⟩ = some (.int .i64 m)) ∧ Go.Lib.TabIs Tryd.prog w "internal/strconv.uint64pow10" .u64 Go.Lib.pow10Tab
theorem cell_lt {w : World} {a : Addr} {v : Value} (h : w.cell? a = some v) : a.block < w.heap.size := by
  rcases Nat.lt_or_ge a.block w.heap.size with c | c
  · exact c
  · unfold World.cell? at h
    rw [Array.getElem?_eq_none c] at h
    simp at h
theorem Glob.below {w w' : World} (h : Glob w) (hb : Below w.heap.size w w') : Glob w' := by
  obtain ⟨⟨m, hm⟩, ht⟩ := h
  exact ⟨⟨m, (hb.cell (cell_lt hm)).trans hm⟩, Go.Joins.var_stays (P := Tryd.prog) (g := 3) (by kernel_rfl) ht hb (Nat.le_refl _)⟩

theorem bytesWorld_below (w : World) (e : TypeId) (t : ByteArray) : Below w.heap.size w (Go.Lib.bytesWorld w e t) := ⟨rfl, rfl, rfl, by rw [Go.Lib.bytesWorld_size]; omega, fun k hk => Go.Lib.bytesWorld_at_old w e t k hk⟩
theorem grow_below (w : World) (k : Nat) (os : Array Obj) : Below w.heap.size w (Go.Sort.grow (w.drewN k) os) := by
  have hb : Below w.heap.size w (w.drewN k) := by
    induction k with
    | zero => exact Below.refl _ _
    | succ k ih => exact ih.drew
  exact ⟨hb.os, hb.tape, hb.output, by have := hb.size; simp only [Go.Sort.grow, Array.size_append]; omega, fun j hj => by
    rw [← hb.block j hj]
    simp only [Go.Sort.grow]
    exact Array.getElem?_append_left (Nat.lt_of_lt_of_le hj hb.size)⟩
theorem cut_main (s sep : ByteArray) (hs : s.size < 4294967281) (w : World) (hG : Glob w) :
    Calls Tryd.prog 25 #[.string s, .string sep] w fun e w' => e = .returned (.tuple #[.string ⟨(Go.Lib.cut s.data.toList sep.data.toList).1.toArray⟩, .string ⟨(Go.Lib.cut s.data.toList sep.data.toList).2.1.toArray⟩, .bool (Go.Lib.cut s.data.toList sep.data.toList).2.2]) ∧ Below w.heap.size w w' := by
  obtain ⟨⟨m, hm⟩, -⟩ := hG
  refine (Any.strings_Cut { Tryd.lays145 with } s sep m w hs hm).mono ?_
  rintro e w' ⟨rfl, n, rfl⟩
  refine ⟨rfl, ?_⟩
  clear hs hm
  induction n with
  | zero => exact Below.refl _ _
  | succ k ih => exact ih.drew

abbrev sN1 : ByteArray := ⟨#[110, 97, 109, 101, 42, 49]⟩
abbrev sN0 : ByteArray := ⟨#[110, 97, 109, 101, 42, 48, 42]⟩
abbrev sNAME : ByteArray := ⟨#[110, 97, 109, 101]⟩
abbrev s1 : ByteArray := ⟨#[49]⟩
abbrev s0 : ByteArray := ⟨#[48]⟩
abbrev s0s : ByteArray := ⟨#[48, 42]⟩
abbrev sSTAR : ByteArray := ⟨#[42]⟩
abbrev sA : ByteArray := ⟨#[97]⟩
abbrev sB : ByteArray := ⟨#[98]⟩
abbrev sV : ByteArray := ⟨#[117, 116, 102, 45, 56, 39, 39, 97, 37, 50, 48]⟩
theorem cut_at (s p a b : ByteArray) (hs : s.size < 100) (e : ((⟨(Go.Lib.cut s.data.toList p.data.toList).1.toArray⟩ : ByteArray), (⟨(Go.Lib.cut s.data.toList p.data.toList).2.1.toArray⟩ : ByteArray), (Go.Lib.cut s.data.toList p.data.toList).2.2) = (a, b, true)) (W : World) (hG : Glob W) :
    Calls Tryd.prog 25 #[.string s, .string p] W fun e w' => e = .returned (.tuple #[.string a, .string b, .bool true]) ∧ Below W.heap.size W w' := by
  obtain ⟨e1, e2⟩ := Prod.mk.inj e
  obtain ⟨e2, e3⟩ := Prod.mk.inj e2
  refine (cut_main s p (by omega) W hG).mono ?_
  rintro e w' ⟨rfl, hb⟩
  refine ⟨?_, hb⟩
  show Ending.returned (.tuple #[.string ⟨(Go.Lib.cut s.data.toList p.data.toList).1.toArray⟩, .string ⟨(Go.Lib.cut s.data.toList p.data.toList).2.1.toArray⟩, .bool (Go.Lib.cut s.data.toList p.data.toList).2.2]) = _
  rw [e1, e2, e3]
theorem suf_at (s p a : ByteArray) (q : Bool) (hs : s.size < 100) (e : ((⟨(Go.Lib.trimSuffix s.data.toList p.data.toList).toArray⟩ : ByteArray), Go.Lib.hasSuffix s.data.toList p.data.toList) = (a, q)) (W : World) :
    Calls Tryd.prog 26 #[.string s, .string p] W fun e w' => e = .returned (.tuple #[.string a, .bool q]) ∧ Below W.heap.size W w' := by
  obtain ⟨e1, e2⟩ := Prod.mk.inj e
  refine (Any.strings_CutSuffix Tryd.lays104 s p W (by omega)).mono ?_
  rintro e w' ⟨rfl, rfl⟩
  refine ⟨?_, Below.refl _ _⟩
  show Ending.returned (.tuple #[.string ⟨(Go.Lib.trimSuffix s.data.toList p.data.toList).toArray⟩, .bool (Go.Lib.hasSuffix s.data.toList p.data.toList)]) = _
  rw [e1, e2]
theorem atoi_at (s : ByteArray) (n : Int) (hl : s.size < 9) (ha : Go.Lib.atoi s.data.toList = some n) (w : World) : Calls Tryd.prog 27 #[.string s] w fun e w' => e = .returned (.tuple #[.int .i64 n, .nilIface]) ∧ Below w.heap.size w w' :=
  (Any.strconv_Atoi Tryd.lays172 s n (by omega) ha w).mono (fun e w' ⟨he, t, hw⟩ => ⟨he, by rw [hw]; exact bytesWorld_below w _ t⟩)
theorem itoa_at (s : ByteArray) (n : Int) (h0 : -1000 ≤ n ∧ n ≤ 1000) (hi : (⟨(Go.Lib.itoa n).toArray⟩ : ByteArray) = s) (W : World) (hW : Glob W) : Calls Tryd.prog 28 #[.int .i64 n] W fun e w' => e = .returned (.string s) ∧ Below W.heap.size W w' :=
  (Any.strconv_Itoa Tryd.lays171 n (by omega) (by omega) W hW.2).mono (fun e w' ⟨he, k, os, hw⟩ => ⟨by rw [he, hi], by rw [hw]; exact grow_below W k os⟩)
set_option maxHeartbeats 2000000 in
set_option maxRecDepth 100000 in
theorem star_1 (W : World) (hG : Glob W) : Calls Tryd.prog 19 #[.string sN1] W fun e w' => e = .returned (.tuple #[.agg #[.string sNAME, .int .i64 1], .bool false, .bool true]) ∧ Below W.heap.size W w' := by
  have HG : Hid (Glob W) := hG
  have hu54 := Tryd.underlying54
  clear hG
  go_enter Tryd.func19, Tryd.ntmps19
  go_wp2_with (first | (go_at_call 25; refine (cut_at sN1 sSTAR sNAME s1 (by decide) (by kernel_rfl) _ (HG.out.below ((Below.refl _ _).alloc (Nat.le_refl _) _))).mono ?_; rintro e w1 ⟨rfl, hb1⟩; have H1 : Hid (w1.heap[W.heap.size]? = some (.cells #[.string ⟨#[]⟩, .int .i64 0] 54 (0, 0))) := blk_below (blk_new W _) hb1; have b1 := below_step (below_alloc (Below.refl _ W) _) hb1) | (go_at_call 26; refine (suf_at s1 sSTAR s1 false (by decide) (by kernel_rfl) _).mono ?_; rintro e w2 ⟨rfl, hb2⟩; have b2 := below_step b1 hb2) | (go_at_call 27; refine (atoi_at s1 1 (by decide) (by kernel_rfl) _).mono ?_; rintro e w3 ⟨rfl, hb3⟩; have b3 := below_step b2 hb3) | (go_at_call 28; refine (itoa_at s1 1 (by decide) (by kernel_rfl) _ (HG.out.below b3)).mono ?_; rintro e w4 ⟨rfl, hb4⟩; have b4 := below_step b3 hb4; have hh := blk_below (blk_below (blk_below H1.out hb2) hb3) hb4; have c0 := blk_cell hh 0; have c1 := blk_cell hh 1; have z0 := blk_frozen hh 0; have z1 := blk_frozen hh 1; have HH : Hid (w4.heap[W.heap.size]? = some (.cells #[.string ⟨#[]⟩, .int .i64 0] 54 (0, 0))) := hh; clear hh))
  have R0 := blk_set HH.out 0 (.string sNAME)
  have R1 := blk_set R0 1 (.int .i64 1)
  exact bodyPost_ret (results_ctt rfl _ _ W.heap.size 54 _ (0, 0) _ rfl R1 Tryd.underlying54 rfl (by kernel_rfl)) rfl ⟨rfl, below_set (below_set b4 (Nat.le_refl _)) (Nat.le_refl _)⟩
set_option maxHeartbeats 2000000 in
set_option maxRecDepth 100000 in
theorem star_0 (W : World) (hG : Glob W) : Calls Tryd.prog 19 #[.string sN0] W fun e w' => e = .returned (.tuple #[.agg #[.string sNAME, .int .i64 0], .bool true, .bool true]) ∧ Below W.heap.size W w' := by
  have HG : Hid (Glob W) := hG
  have hu54 := Tryd.underlying54
  clear hG
  go_enter Tryd.func19, Tryd.ntmps19
  go_wp2_with (first | (go_at_call 25; refine (cut_at sN0 sSTAR sNAME s0s (by decide) (by kernel_rfl) _ (HG.out.below ((Below.refl _ _).alloc (Nat.le_refl _) _))).mono ?_; rintro e w1 ⟨rfl, hb1⟩; have H1 : Hid (w1.heap[W.heap.size]? = some (.cells #[.string ⟨#[]⟩, .int .i64 0] 54 (0, 0))) := blk_below (blk_new W _) hb1; have b1 := below_step (below_alloc (Below.refl _ W) _) hb1) | (go_at_call 26; refine (suf_at s0s sSTAR s0 true (by decide) (by kernel_rfl) _).mono ?_; rintro e w2 ⟨rfl, hb2⟩; have b2 := below_step b1 hb2) | (go_at_call 27; refine (atoi_at s0 0 (by decide) (by kernel_rfl) _).mono ?_; rintro e w3 ⟨rfl, hb3⟩; have b3 := below_step b2 hb3) | (go_at_call 28; refine (itoa_at s0 0 (by decide) (by kernel_rfl) _ (HG.out.below b3)).mono ?_; rintro e w4 ⟨rfl, hb4⟩; have b4 := below_step b3 hb4; have hh := blk_below (blk_below (blk_below H1.out hb2) hb3) hb4; have c0 := blk_cell hh 0; have c1 := blk_cell hh 1; have z0 := blk_frozen hh 0; have z1 := blk_frozen hh 1; have HH : Hid (w4.heap[W.heap.size]? = some (.cells #[.string ⟨#[]⟩, .int .i64 0] 54 (0, 0))) := hh; clear hh))
  have R0 := blk_set HH.out 0 (.string sNAME)
  have R1 := blk_set R0 1 (.int .i64 0)
  exact bodyPost_ret (results_ctt rfl _ _ W.heap.size 54 _ (0, 0) _ rfl R1 Tryd.underlying54 rfl (by kernel_rfl)) rfl ⟨rfl, below_set (below_set b4 (Nat.le_refl _)) (Nat.le_refl _)⟩
set_option maxHeartbeats 2000000 in
set_option maxRecDepth 100000 in
theorem next_main (A0 : Option Addr) (c0 : Nat) (b : Int) (l : List Int) (w : World) (hr0 : Kd.C (Kd.int .u8) w A0 (b :: l).length (b :: l)) (hc0 : (b :: l).length ≤ c0) (hb : 0 ≤ b ∧ b < 128) :
    Calls Tryd.prog 70 #[.slice A0 (b :: l).length c0] w fun e w' => e = .returned (.tuple #[.int .i32 b, .int .i64 1, .int .i64 0]) ∧ Drawn0 w w' := by
  obtain ⟨ad, e0, hx⟩ := Kd.at_int hr0 0 (by omega) (by simp)
  subst e0
  rw [show ((0 : Int)).toNat = 0 from rfl, Addr.add_zero'] at hx
  have hx' : w.cell? ad = some (.int .u8 b) := hx
  clear hx hr0
  obtain ⟨n, hn⟩ : ∃ n, n = (b :: l).length := ⟨_, rfl⟩
  have hn0 : 0 < n := by rw [hn]; simp
  rw [← hn] at hc0 ⊢
  clear hn
  have q0 : (n : Int) ≠ 0 := by omega
  have q1 : (0 < n) = True := eq_true hn0
  have hw32 : wrap32 b = b := by unfold wrap32; omega
  obtain ⟨b0, b1⟩ := hb
  have b2 : decide (b < 128) = true := decide_eq_true b1
  have e1 : decide ((n : Int) = 0) = false := decide_eq_false q0
  have e2 : ((n : Int) == 0) = false := by simpa using q0
  go_enter Tryd.func70, Tryd.ntmps70
  go_wp2
  refine wp_scope_straight ?_
  go_wp2
  simp only [Exit.noGoto]
  go_ret3
  exact ⟨by first | rfl | simp [hw32], by repeat (first | exact Drawn0.refl _ | apply Drawn0.step)⟩
theorem point_main (p : Int) (h : 0 ≤ p ∧ p < 128) (w : World) : Calls Tryd.prog 73 #[.int .i32 p] w fun e w' => e = .returned (.bool true) ∧ Drawn0 w w' := by
  obtain ⟨h0, h1⟩ := h
  have a0 : decide (0 ≤ p) = true := decide_eq_true h0
  have a1 : decide (p ≤ 1114111) = true := decide_eq_true (by omega)
  have a2 : decide (p < 55296) = true := decide_eq_true (by omega)
  go_enter Tryd.func73, Tryd.ntmps73
  go_wp2
  go_ret
  exact ⟨rfl, by repeat (first | exact Drawn0.refl _ | apply Drawn0.step)⟩
theorem lit1 (W : World) (base : Nat) (p : Int) (hb : base ≤ W.heap.size) : Kd.R (Kd.int .u8) 5 (W.alloc (.cells #[.int .u8 p] 5 (0, 0))) base (fun _ => True) (.slice (some ⟨W.heap.size, 0, none⟩) 1 1) [p] := by
  refine Kd.R_of_own ?_ (fun _ _ => trivial)
  exact World.ownsRow_lit (base := base) (e := 5) (size := 1) W #[.int .u8 p] 1 hb (by decide) rfl
set_option maxHeartbeats 2000000 in
set_option maxRecDepth 100000 in
theorem put_main (p : Int) (h : 0 ≤ p ∧ p < 128) (w : World) : Calls Tryd.prog 57 #[.int .i32 p] w fun e w' => ∃ v0_ : Value, e = .returned (.tuple #[v0_, .int .i64 0]) ∧ Kd.R (Kd.int .u8) 5 w' w.heap.size (fun _ => True) v0_ [p] ∧ Below w.heap.size w w' := by
  have HP := fun W => point_main p h W
  obtain ⟨h0, h1⟩ := h
  have a1 : decide (p < 128) = true := decide_eq_true h1
  have hw : IntKind.u8.wrap p = p := by simp [IntKind.wrap, IntKind.bits, IntKind.signed]; omega
  go_enter Tryd.func57, Tryd.ntmps57
  go_wp2_with (first | (go_at_call 73; refine (HP _).mono ?_; rintro e w' ⟨rfl, ⟨nd, rfl⟩⟩))
  go_ret2
  refine ⟨_, rfl, ?_, ?_⟩
  · have hs : ((w.alloc (.cells #[.int .i32 p] 21 (0, 0))).drewN nd).heap.size = w.heap.size + 1 := by
      show (w.heap.push _).size = _
      simp
    have h := lit1 ((w.alloc (.cells #[.int .i32 p] 21 (0, 0))).drewN nd) w.heap.size p (by rw [hs]; omega)
    rw [hs] at h
    exact h
  · exact below_alloc (pw_below_drewN (below_alloc (Below.refl _ w) _) nd) _
end Go.Proofs.YtlkonnkglbfkbaaDoor.Ex

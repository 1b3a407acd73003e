import Derived.Test.YtlkonnkglbfkbaaDoorEx
import Derived.DeepKeys4
import Derived.Maps.OwnOps
import Derived.Maps.OwnSet
set_option linter.unusedVariables false
namespace Go.Proofs.YtlkonnkglbfkbaaDoor.Ex
open Go.RowKit Go.Shelf Go.Proofs.YtlkonnkglbfkbaaDoorW.PrintWords Go.Proofs.YtlkonnkglbfkbaaDoorW.PrintLast Go.Proofs.YtlkonnkglbfkbaaDoorW.PrintMore
/-- Does a byte stand as it is? -/
def plainB (c : Int) : Bool := (decide (97 ≤ c) && decide (c ≤ 122)) || (decide (65 ≤ c) && decide (c ≤ 90)) || (decide (48 ≤ c) && decide (c ≤ 57)) || c == 45 || c == 46 || c == 95
def hexT : ByteArray := ⟨#[48, 49, 50, 51, 52, 53, 54, 55, 56, 57, 65, 66, 67, 68, 69, 70]⟩
def codeOne (x : Int) : List UInt8 := if plainB x = true then [x.toNat.toUInt8] else [37, hexT.data.getD (x.toNat / 16) 0, hexT.data.getD (x.toNat % 16) 0]
def codeL (l : List Int) : List UInt8 := l.flatMap codeOne
theorem hex_at {k : Nat} (h : k < 16) : hexT.data.getD k 0 = hexT[k]'(by show _ < 16; exact h) := by
  have : k = 0 ∨ k = 1 ∨ k = 2 ∨ k = 3 ∨ k = 4 ∨ k = 5 ∨ k = 6 ∨ k = 7 ∨ k = 8 ∨ k = 9 ∨ k = 10 ∨ k = 11 ∨ k = 12 ∨ k = 13 ∨ k = 14 ∨ k = 15 := by omega
  rcases this with rfl | rfl | rfl | rfl | rfl | rfl | rfl | rfl | rfl | rfl | rfl | rfl | rfl | rfl | rfl | rfl <;> rfl
theorem bld_drewN {T e B b : Nat} {bs : List Value} {w : World} (h : Lib.IsBuilderF T e B b bs w) (n : Nat) : Lib.IsBuilderF T e B b bs (w.drewN n) := by
  induction n with
  | zero => exact h
  | succ n ih => exact (show Lib.IsBuilderF T e B b bs (w.drewN n).drew from ih)
set_option maxHeartbeats 4000000 in
set_option maxRecDepth 1000000 in
theorem code_main (A0 : Option Addr) (c0 : Nat) (l0 : List Int) (w : World) (hr0 : Kd.C (Kd.int .u8) w A0 l0.length l0) (hc0 : l0.length ≤ c0) (hl : l0.length ≤ 1000) (hb : ∀ x, x ∈ l0 → 0 ≤ x ∧ x < 256)
    (HP : ∀ x W, 0 ≤ x ∧ x < 256 → Calls Tryd.prog 13 #[.int .u8 x] W fun e w' => e = .returned (.bool (plainB x)) ∧ Drawn0 W w') :
    Calls Tryd.prog 8 #[.slice A0 l0.length c0] w fun e w' => e = .returned (.string ⟨(codeL l0).toArray⟩) ∧ Below w.heap.size w w' := by
  have HR : Hid (Kd.C (Kd.int .u8) w A0 l0.length l0) := hr0
  clear hr0
  go_enter Tryd.func8, Tryd.ntmps8
  go_wp2
  go_loopw [8] (fun v wr => ∃ i : Nat, v = .int .i64 i ∧ i ≤ l0.length ∧ Lib.IsBuilderF 42 5 w.heap.size w.heap.size (Lib.byteCells (codeL (l0.take i))) wr ∧ Below w.heap.size w wr) (fun v _ => l0.length - (intOf v).toNat)
  case atStart => exact ⟨0, rfl, Nat.zero_le _, Lib.IsBuilderF.of (Lib.fresh_isBuilder 42 5 w), below_alloc (Below.refl _ _) _⟩
  case round =>
    obtain ⟨i, rfl, hi, hI, hbw⟩ := hrel
    by_cases hil : i < l0.length
    · obtain ⟨ad, e0, hx⟩ := Kd.at_int (Kd.C_below HR.out hbw) i (by omega) (by omega)
      subst e0
      rw [show ((i : Int)).toNat = i from by omega] at hx
      obtain ⟨x, hxx⟩ : ∃ x, x = rd l0 (i : Int) := ⟨_, rfl⟩
      rw [← hxx] at hx
      have hxm : x ∈ l0 := by rw [hxx]; simp [rd, hil]
      have hxb := hb x hxm
      have htk : codeL (l0.take (i + 1)) = codeL (l0.take i) ++ codeOne x := by
        have e1 : x = l0[i] := by rw [hxx]; simp [rd, hil]
        rw [List.take_succ_eq_append_getElem hil, ← e1]
        simp [codeL]
      have hlen : (codeL (l0.take i)).length ≤ 3000 := by
        have h1 : ∀ l : List Int, (codeL l).length ≤ 3 * l.length := fun l => by
          induction l with
          | nil => simp [codeL]
          | cons y l ih =>
            have : (codeOne y).length ≤ 3 := by unfold codeOne; split <;> simp
            simp only [codeL, List.flatMap_cons, List.length_append, List.length_cons] at ih ⊢
            omega
        have := h1 (l0.take i)
        rw [List.length_take] at this
        omega
      have HI : Hid (Lib.IsBuilderF 42 5 w.heap.size w.heap.size (Lib.byteCells (codeL (l0.take i))) wr) := hI
      have HB : Hid (Below w.heap.size w wr) := hbw
      have q0 : (i < l0.length) = True := eq_true hil
      have q1 : decide ((i : Int) < (l0.length : Int)) = true := decide_eq_true (by omega)
      clear hI hbw hxm hb hxx
      cases hp : plainB x with
      | true =>
        have HP1 := fun W => HP x W hxb
        rw [hp] at HP1
        have hone : codeOne x = [x.toNat.toUInt8] := by unfold codeOne; rw [hp]; rfl
        have hbt : Lib.byteCells [x.toNat.toUInt8] = [.int .u8 x] := by
          have : (x.toNat.toUInt8).toNat = x.toNat := by simp; omega
          simp [Lib.byteCells, this]
          omega
        go_wp2_with (first | (go_at_call 13; refine (HP1 _).mono ?_; rintro e W0 ⟨rfl, ⟨nd, rfl⟩⟩) | (go_at_call 14; refine (Any.Builder_WriteByte_k Tryd.lays167 Tryd.extra167 w.heap.size w.heap.size _ x _ (bld_drewN HI.out nd) (by rw [Lib.byteCells_length]; omega) HB.out.size).mono ?_; rintro e W1 ⟨rfl, h1, b1, -⟩))
        go_roundw
        case rel =>
          refine ⟨i + 1, by go_num, by omega, ?_, (pw_below_drewN HB.out nd).trans b1⟩
          rw [htk, hone, Lib.byteCells_append, hbt]
          exact Or.inr h1
        case measure => simp [intOf]; omega
      | false =>
        have HP1 := fun W => HP x W hxb
        rw [hp] at HP1
        go_wp2_with (first | (go_at_call 13; refine (HP1 _).mono ?_; rintro e W0 ⟨rfl, hd⟩; have H0 : Hid (Lib.IsBuilderF 42 5 w.heap.size w.heap.size (Lib.byteCells (codeL (l0.take i))) W0) := (by obtain ⟨nd, rfl⟩ := hd; exact bld_drewN HI.out nd); have B0 : Hid (Below w.heap.size w W0) := (by obtain ⟨nd, rfl⟩ := hd; exact pw_below_drewN HB.out nd); clear HI HB hd hx) | (go_at_call 14; refine (Any.Builder_WriteByte_k Tryd.lays167 Tryd.extra167 w.heap.size w.heap.size _ 37 W0 H0.out (by rw [Lib.byteCells_length]; omega) B0.out.size).mono ?_; rintro e W1 ⟨rfl, h1, b1, -⟩; have B1 : Hid (Below w.heap.size w W1) := B0.out.trans b1; have H1 : Hid (Lib.IsBuilderF 42 5 w.heap.size w.heap.size (Lib.byteCells (codeL (l0.take i)) ++ [.int .u8 37]) W1) := Or.inr h1; clear h1 b1 H0 B0) | (go_at_call 14; refine (Any.Builder_WriteByte_k Tryd.lays167 Tryd.extra167 w.heap.size w.heap.size _ _ W1 H1.out (by rw [List.length_append, Lib.byteCells_length]; simp; omega) B1.out.size).mono ?_; rintro e W2 ⟨rfl, h2, b2, -⟩; have B2 : Hid (Below w.heap.size w W2) := B1.out.trans b2; have H2 := Aside0.mk h2; clear h2 b2 H1 B1) | (go_at_call 14; refine (Any.Builder_WriteByte_k Tryd.lays167 Tryd.extra167 w.heap.size w.heap.size _ _ W2 (Or.inr H2.out) (by rw [List.length_append, List.length_append, Lib.byteCells_length]; simp; omega) B2.out.size).mono ?_; rintro e W3 ⟨rfl, h3, b3, -⟩; have B3 : Hid (Below w.heap.size w W3) := B2.out.trans b3; have H3 := Aside0.mk h3; clear h3 b3 H2 B2))
        go_roundw
        case rel =>
          refine ⟨i + 1, by go_num, by omega, ?_, B3.out⟩
          have e1 : (x / 16).toNat = x.toNat / 16 := by omega
          have e2 : (x % 16).toNat = x.toNat % 16 := by omega
          have hone : Lib.byteCells (codeOne x) = [.int .u8 37, .int .u8 (hexT[(x / 16).toNat]'(by show _ < 16; omega)).toNat, .int .u8 (hexT[(x % 16).toNat]'(by show _ < 16; omega)).toNat] := by
            have n1 : x.toNat / 16 < 16 := by omega
            have n2 : x.toNat % 16 < 16 := by omega
            unfold codeOne
            rw [hp]
            simp only [Bool.false_eq_true, if_false, e1, e2]
            rw [hex_at n1, hex_at n2]
            rfl
          rw [htk, Lib.byteCells_append, hone]
          have h := H3.out
          rw [List.append_assoc, List.append_assoc] at h
          exact Or.inr h
        case measure => simp [intOf]; omega
    · obtain rfl : i = l0.length := by omega
      rw [List.take_length] at hI
      go_wp2_with (go_at_call 15; refine (Any.Builder_String_any_k Tryd.lays169 Tryd.extra169 w.heap.size w.heap.size _ _ hI hbw.size).mono ?_; rintro e w1 ⟨rfl, h1, b1, -⟩)
      go_ret
      exact ⟨rfl, hbw.trans b1⟩
/-! ### the maps: each value is read as itself -/
section
open Go.Maps Go.WideMaps Go.WideAt
theorem k54 : Keyed Tryd.prog 54 := Keyed.of_law (deep_law_laid (P := Tryd.prog) (m := 10) (by kernel_rfl) (by decide) (of_decide_eq_true (by kernel_rfl)) (by kernel_rfl) (by kernel_rfl))
theorem k9 : Keyed Tryd.prog 9 := string_keyed Tryd.underlying9
/-- A value read as itself. -/
def Rv (v : Value) : Option (DataW Value × List MemPlace) := some (.held v, [])
/-- A place. -/
def plV (n : Int) : Value := .agg #[.string sNAME, .int .i64 n]
def plK (n : Int) : Lit := .string ([0, 0, 0, 0, 0, 0, 0, 4, 110, 97, 109, 101] ++ (if n = -1 then [255, 255, 255, 255, 255, 255, 255, 255] else [0, 0, 0, 0, 0, 0, 0, n.toNat.toUInt8]))
theorem key_1 : keyOf Tryd.prog 54 (plV 1) = some (plK 1) := by kernel_rfl
theorem key_0 : keyOf Tryd.prog 54 (plV 0) = some (plK 0) := by kernel_rfl
theorem key_2 : keyOf Tryd.prog 54 (plV 2) = some (plK 2) := by kernel_rfl
theorem key_m : keyOf Tryd.prog 54 (plV (-1)) = some (plK (-1)) := by kernel_rfl
theorem key_s (s : ByteArray) (h : s.size ≤ maxLen) : keyOf Tryd.prog 9 (.string s) = some (.string s.data.toList) := keyOf_string_mk Tryd.underlying9 h
theorem zero58 (w : World) : (zeroValue 58).run Tryd.prog w = .ok (.agg #[.string ⟨#[]⟩, .bool false]) w := by kernel_rfl
theorem zero3 (w : World) : (zeroValue 3).run Tryd.prog w = .ok (.int .i64 0) w := by kernel_rfl
theorem zero4 (w : World) : (zeroValue 4).run Tryd.prog w = .ok (.bool false) w := by kernel_rfl
/-- 'v, ok := m[k]'. -/
theorem looks {w : World} {t k e : TypeId} {b n : Nat} {D : DataW Value} {z key : Value} {kl : Lit} (K : Keyed Tryd.prog k) (h : w.ownsMap Tryd.prog k Rv b n D) (ht : Tryd.prog.underlying t = some (.map k e)) (hz : (zeroValue e).run Tryd.prog w = .ok z w) (hk : keyOf Tryd.prog k key = some kl) {v : Value} {q : Bool} (hv : D.atKey kl (.held z) = .held v) (hq : has D kl = q) :
    (Instr.lookup t (.map (some b)) key true).run Tryd.prog w = .ok (.tuple #[v, .bool q]) w := by
  obtain ⟨v', ps, hrun, hr⟩ := h.look_ok K ht hz (zd := .held z) (zp := []) rfl hk
  rw [hv] at hr
  obtain rfl : v' = v := by
    simp only [Rv, Option.some.injEq, Prod.mk.injEq, DataW.held.injEq] at hr
    exact hr.1
  rw [← hq]
  exact hrun
/-- 'm[k]'. -/
theorem look {w : World} {t k e : TypeId} {b n : Nat} {D : DataW Value} {z key : Value} {kl : Lit} (K : Keyed Tryd.prog k) (h : w.ownsMap Tryd.prog k Rv b n D) (ht : Tryd.prog.underlying t = some (.map k e)) (hz : (zeroValue e).run Tryd.prog w = .ok z w) (hk : keyOf Tryd.prog k key = some kl) {v : Value} (hv : D.atKey kl (.held z) = .held v) :
    (Instr.lookup t (.map (some b)) key false).run Tryd.prog w = .ok v w := by
  obtain ⟨v', ps, hrun, hr⟩ := h.lookup K ht hz (zd := .held z) (zp := []) rfl hk
  rw [hv] at hr
  obtain rfl : v' = v := by
    simp only [Rv, Option.some.injEq, Prod.mk.injEq, DataW.held.injEq] at hr
    exact hr.1
  exact hrun
end
end Go.Proofs.YtlkonnkglbfkbaaDoor.Ex

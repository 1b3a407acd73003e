/- Coded texts over lists: the program's and the document's coding and decoding are the same; a code goes back to its bytes. -/
import Derived.Test.YtlkonnkglbfkbaaDoorPEx8
import Derived.Test.YtlkonnkglbfkbaaDoorPEx9
set_option linter.unusedVariables false
set_option linter.unusedSimpArgs false
namespace Go.Proofs.YtlkonnkglbfkbaaDoor.Codes
open Go.RowKit Go.Proofs.YtlkonnkglbfkbaaDoor.PE Go.Proofs.YtlkonnkglbfkbaaDoorW.PrintWords Go.Proofs.YtlkonnkglbfkbaaDoorW.PrintLast Go.Proofs.YtlkonnkglbfkbaaDoorW.PrintMore
theorem wrapI {n : Int} (h1 : -9223372036854775808 ≤ n) (h2 : n ≤ 9223372036854775807) : wrap64 n = n := by unfold wrap64; omega
/-- A digit's number; 16: it is none. -/
def dg (c : Int) : Int := if 48 ≤ c ∧ c ≤ 57 then c - 48 else if 65 ≤ c ∧ c ≤ 70 then c - 55 else if 97 ≤ c ∧ c ≤ 102 then c - 87 else 16
theorem dg_range (c : Int) : 0 ≤ dg c ∧ dg c ≤ 16 := by unfold dg; repeat' split
                                                        all_goals omega
theorem digit_eq (k : Nat) (c : Int) (h : 0 ≤ c ∧ c ≤ 255) : extra_digit.f (k + 3) c = some (dg c) := by
  unfold extra_digit.f dg
  simp only [extra_digit.j0, extra_digit.j1]
  repeat' split
  all_goals (first | (simp at *; done) | (congr 1; simp only [decide_eq_true_eq, Bool.not_eq_true, decide_eq_false_iff_not] at *; omega) | (simp only [decide_eq_true_eq, Bool.not_eq_true, decide_eq_false_iff_not] at *; omega))
theorem hex_eq (k : Nat) (c : Int) (h : 0 ≤ c ∧ c ≤ 255) : posthornref19_hex.f (k + 3) c = some (if dg c = 16 then -1 else dg c) := by
  have w0 : wrap64 c = c := wrapI (by omega) (by omega)
  have w1 : 48 ≤ c → wrap64 (c - 48) = c - 48 := fun _ => wrapI (by omega) (by omega)
  have w2 : 65 ≤ c → wrap64 (c - 55) = c - 55 := fun _ => wrapI (by omega) (by omega)
  have w3 : 97 ≤ c → wrap64 (c - 87) = c - 87 := fun _ => wrapI (by omega) (by omega)
  unfold posthornref19_hex.f dg
  simp only [posthornref19_hex.j0, posthornref19_hex.j1, w0]
  repeat' split
  all_goals (first | (simp at *; done) | (congr 1; simp only [decide_eq_true_eq, Bool.not_eq_true, decide_eq_false_iff_not] at *; first | omega | (rw [w1 (by omega)]; omega) | (rw [w2 (by omega)]; omega) | (rw [w3 (by omega)]; omega)) | (simp only [decide_eq_true_eq, Bool.not_eq_true, decide_eq_false_iff_not] at *; omega))
theorem hex_in (k : Nat) (c : UInt8) (h : dg c.toNat < 16) : posthornref19_hex.f (k + 3) c.toNat = some (dg c.toNat) := by
  have := c.toNat_lt
  rw [hex_eq k _ (by omega), if_neg (by omega)]
theorem hex_out (k : Nat) (c : UInt8) (h : ¬ dg c.toNat < 16) : posthornref19_hex.f (k + 3) c.toNat = some (-1) := by
  have h1 := c.toNat_lt
  have h2 := dg_range c.toNat
  rw [hex_eq k _ (by omega), if_pos (by omega)]
/-- The bytes behind a place. -/
theorem bt_drop {s : ByteArray} {i : Nat} {c : UInt8} {u : List UInt8} (h : s.data.toList.drop i = c :: u) : i < s.size ∧ bt s (i : Int) = (c.toNat : Int) ∧ s.data.toList.drop (i + 1) = u := by
  have hl : i < s.data.toList.length := by
    have := congrArg List.length h
    rw [List.length_drop, List.length_cons] at this
    omega
  have hg : s.data.toList[i] = c := by
    rw [List.drop_eq_getElem_cons hl] at h
    exact (List.cons.inj h).1
  have hd : s.data.toList.drop (i + 1) = u := by
    rw [List.drop_eq_getElem_cons hl] at h
    exact (List.cons.inj h).2
  have hs : i < s.size := by rw [data_length] at hl; exact hl
  refine ⟨hs, ?_, hd⟩
  rw [← bt_at s (i : Int) (by simpa using hs)]
  have : s[i]'hs = c := by rw [← hg]; simp [ByteArray.getElem_eq_getElem_data]
  simp only [Int.toNat_natCast, this]
theorem bt_end {s : ByteArray} {i : Nat} (h : s.data.toList.drop i = []) : s.size ≤ i := by
  have := congrArg List.length h
  rw [List.length_drop, data_length, List.length_nil] at this
  omega
/-- A coded text's bytes; none: it is none. -/
def decS : List UInt8 → Option (List Int)
  | [] => some []
  | [c] => if c = 37 then none else some [(c.toNat : Int)]
  | [c, a] => if c = 37 then none else (decS [a]).map (fun r => (c.toNat : Int) :: r)
  | c :: a :: b :: u => if c = 37 then (if dg a.toNat < 16 ∧ dg b.toNat < 16 then (decS u).map (fun r => (16 * dg a.toNat + dg b.toNat) :: r) else none) else (decS (a :: b :: u)).map (fun r => (c.toNat : Int) :: r)
termination_by l => l.length
theorem decS_nil : decS [] = some [] := by rw [decS]
theorem decS_one : decS [37] = none := by rw [decS]; rfl
theorem decS_two (a : UInt8) : decS [37, a] = none := by rw [decS]; rfl
theorem decS_hex (a b : UInt8) (u : List UInt8) : decS (37 :: a :: b :: u) = if dg a.toNat < 16 ∧ dg b.toNat < 16 then (decS u).map (fun r => (16 * dg a.toNat + dg b.toNat) :: r) else none := by rw [decS]; rfl
theorem decS_plain {c : UInt8} (h : c ≠ 37) (t : List UInt8) : decS (c :: t) = (decS t).map (fun r => (c.toNat : Int) :: r) := by
  match t with
  | [] =>
    conv => lhs; rw [decS]
    rw [if_neg h, decS_nil]
    rfl
  | [a] =>
    conv => lhs; rw [decS]
    rw [if_neg h]
  | a :: b :: u =>
    conv => lhs; rw [decS]
    rw [if_neg h]
theorem h37c : (((37 : UInt8).toNat : Nat) : Int) = 37 := rfl
def res (acc : List Int) : Option (List Int) → List Int × Int
  | none => ([], 3)
  | some r => (acc ++ r, 0)
theorem res_cons (acc : List Int) (x : Int) (o : Option (List Int)) : res (acc ++ [x]) o = res acc (o.map (fun r => x :: r)) := by
  cases o <;> simp [res]
theorem or_eq : ∀ a : Fin 16, ∀ b : Fin 16, Go.bits .or .u8 (((a.val : Int) * 16) % 256) (b.val : Int) = 16 * (a.val : Int) + (b.val : Int) := by decide +kernel
theorem or_dg {a b : Int} (ha : dg a < 16) (hb : dg b < 16) : Go.bits .or .u8 ((dg a * 16) % 256) (dg b) = 16 * dg a + dg b := by
  have h1 := dg_range a
  have h2 := dg_range b
  have := or_eq ⟨(dg a).toNat, by omega⟩ ⟨(dg b).toNat, by omega⟩
  simp only [Int.toNat_of_nonneg h1.1, Int.toNat_of_nonneg h2.1] at this
  exact this
theorem Ev.late {α : Type} {g f : Nat → Option α} {r : α} (d : Nat) (h : ∀ k, g (k + d) = f k) (hf : Ev f r) : Ev g r := by
  obtain ⟨K, hK⟩ := hf
  refine ⟨K + d, fun k hk => ?_⟩
  have := h (k - d)
  rw [show k - d + d = k by omega] at this
  rw [this]
  exact hK _ (by omega)
theorem u37 {c : UInt8} : ((c.toNat : Int) = 37) ↔ c = 37 := by
  constructor
  · intro h
    have : c.toNat = 37 := by omega
    exact UInt8.toNat_inj.1 this
  · rintro rfl
    rfl
theorem b256 (c : UInt8) : 0 ≤ (c.toNat : Int) ∧ (c.toNat : Int) ≤ 255 := by have := c.toNat_lt; omega
set_option maxHeartbeats 4000000 in
theorem dec1 (s : ByteArray) (hs : s.size ≤ 100000) : ∀ (n : Nat) (suf : List UInt8) (i : Nat) (acc : List Int), suf.length ≤ n → s.data.toList.drop i = suf → acc.length ≤ i → Ev (fun k => extra_Decode.l0 k s acc (i : Int)) (res acc (decS suf)) := by
  intro n
  induction n with
  | zero =>
    intro suf i acc hn hd ha
    obtain rfl : suf = [] := List.length_eq_zero_iff.1 (by omega)
    have := bt_end hd
    refine Ev.step (f := fun _ => some (acc, 0)) (fun k => ?_) (by rw [decS_nil]; simpa [res] using Ev.now _)
    simp only [extra_Decode.l0]
    rw [if_neg (by omega)]
  | succ n ih =>
    intro suf i acc hn hd ha
    cases suf with
    | nil =>
      have := bt_end hd
      refine Ev.step (f := fun _ => some (acc, 0)) (fun k => ?_) (by rw [decS_nil]; simpa [res] using Ev.now _)
      simp only [extra_Decode.l0]
      rw [if_neg (by omega)]
    | cons c t =>
      obtain ⟨hi, hb, hd1⟩ := bt_drop hd
      have w1 : wrap64 ((i : Int) + 1) = ((i + 1 : Nat) : Int) := by rw [wrapI (by omega) (by omega)]; omega
      have w2 : wrap64 ((i : Int) + 2) = ((i + 2 : Nat) : Int) := by rw [wrapI (by omega) (by omega)]; omega
      have w3 : wrap64 (((i + 2 : Nat) : Int) + 1) = ((i + 3 : Nat) : Int) := by rw [wrapI (by omega) (by omega)]; omega
      by_cases h37 : c = 37
      · subst h37
        cases t with
        | nil =>
          have := bt_end hd1
          refine Ev.late 2 (f := fun _ => some ([], 3)) (fun k => ?_) (by rw [decS_one]; simpa [res] using Ev.now _)
          simp only [extra_Decode.l0, extra_Decode.j1, hb, w1, w2]
          rw [if_pos (by omega), if_pos (by omega), if_pos h37c, if_pos (by omega)]
          simp
        | cons a t =>
          obtain ⟨hi1, hb1, hd2⟩ := bt_drop hd1
          cases t with
          | nil =>
            have := bt_end hd2
            refine Ev.late 2 (f := fun _ => some ([], 3)) (fun k => ?_) (by rw [decS_two]; simpa [res] using Ev.now _)
            simp only [extra_Decode.l0, extra_Decode.j1, hb, w1, w2]
            rw [if_pos (by omega), if_pos (by omega), if_pos h37c, if_pos (by omega)]
            simp
          | cons b u =>
            obtain ⟨hi2, hb2, hd3⟩ := bt_drop hd2
            have ra := dg_range a.toNat
            have rb := dg_range b.toNat
            by_cases hda : dg a.toNat < 16
            · by_cases hdb : dg b.toNat < 16
              · have hr := ih u (i + 3) (acc ++ [16 * dg a.toNat + dg b.toNat]) (by simp only [List.length_cons] at hn; omega) hd3 (by simp; omega)
                rw [res_cons] at hr
                refine Ev.late 5 (f := fun k => extra_Decode.l0 (k + 3) s (acc ++ [16 * dg a.toNat + dg b.toNat]) ((i + 3 : Nat) : Int)) (fun k => ?_) ?_
                · rw [show k + 5 = k + 3 + 1 + 1 by omega]
                  simp only [extra_Decode.l0, extra_Decode.j1, hb, w1, w2, w3, hb1, hb2]
                  rw [if_pos (by omega), if_pos (by omega), if_pos h37c, if_neg (by omega), if_pos (by omega), if_pos (by omega), digit_eq (k + 1) _ (b256 a)]
                  simp only [Option.bind_some]
                  rw [if_neg (by omega), if_pos (by omega), if_pos (by omega), digit_eq (k + 1) _ (b256 b)]
                  simp only [Option.bind_some]
                  rw [if_neg (by simp; omega), if_pos (by omega), if_pos (by omega), digit_eq k _ (b256 a)]
                  simp only [Option.bind_some]
                  rw [if_pos (by omega), if_pos (by omega), digit_eq k _ (b256 b)]
                  simp only [Option.bind_some]
                  rw [if_pos (by omega), or_dg hda hdb]
                · rw [decS_hex, if_pos ⟨hda, hdb⟩]
                  obtain ⟨K, hK⟩ := hr
                  exact ⟨K, fun k hk => hK (k + 3) (by omega)⟩
              · refine Ev.late 5 (f := fun _ => some ([], 3)) (fun k => ?_) (by rw [decS_hex, if_neg (by omega)]; simpa [res] using Ev.now _)
                rw [show k + 5 = k + 3 + 1 + 1 by omega]
                simp only [extra_Decode.l0, extra_Decode.j1, hb, w1, w2, hb1, hb2]
                rw [if_pos (by omega), if_pos (by omega), if_pos h37c, if_neg (by omega), if_pos (by omega), if_pos (by omega), digit_eq (k + 1) _ (b256 a)]
                simp only [Option.bind_some]
                rw [if_neg (by omega), if_pos (by omega), if_pos (by omega), digit_eq (k + 1) _ (b256 b)]
                simp only [Option.bind_some]
                rw [if_pos (by simp; omega)]
            · refine Ev.late 5 (f := fun _ => some ([], 3)) (fun k => ?_) (by rw [decS_hex, if_neg (by omega)]; simpa [res] using Ev.now _)
              rw [show k + 5 = k + 3 + 1 + 1 by omega]
              simp only [extra_Decode.l0, extra_Decode.j1, hb, w1, w2, hb1, hb2]
              rw [if_pos (by omega), if_pos (by omega), if_pos h37c, if_neg (by omega), if_pos (by omega), if_pos (by omega), digit_eq (k + 1) _ (b256 a)]
              simp only [Option.bind_some]
              rw [if_pos (by omega)]
              simp
      · have hr := ih t (i + 1) (acc ++ [(c.toNat : Int)]) (by simp only [List.length_cons] at hn; omega) hd1 (by simp; omega)
        rw [res_cons] at hr
        refine Ev.step (f := fun k => extra_Decode.l0 k s (acc ++ [(c.toNat : Int)]) ((i + 1 : Nat) : Int)) (fun k => ?_) ?_
        · simp only [extra_Decode.l0, hb, w1]
          rw [if_pos (by omega), if_pos (by omega), if_neg (fun h => h37 (u37.1 h)), if_pos (by omega)]
        · rw [decS_plain h37]
          exact hr
set_option maxHeartbeats 4000000 in
theorem dec2 (s : ByteArray) (hs : s.size ≤ 100000) : ∀ (n : Nat) (suf : List UInt8) (i : Nat) (acc : List Int), suf.length ≤ n → s.data.toList.drop i = suf → acc.length ≤ i → Ev (fun k => posthornref19_Decode.l0 k s acc (i : Int)) (res acc (decS suf)) := by
  intro n
  induction n with
  | zero =>
    intro suf i acc hn hd ha
    obtain rfl : suf = [] := List.length_eq_zero_iff.1 (by omega)
    have := bt_end hd
    refine Ev.step (f := fun _ => some (acc, 0)) (fun k => ?_) (by rw [decS_nil]; simpa [res] using Ev.now _)
    simp only [posthornref19_Decode.l0]
    rw [if_neg (by omega)]
  | succ n ih =>
    intro suf i acc hn hd ha
    cases suf with
    | nil =>
      have := bt_end hd
      refine Ev.step (f := fun _ => some (acc, 0)) (fun k => ?_) (by rw [decS_nil]; simpa [res] using Ev.now _)
      simp only [posthornref19_Decode.l0]
      rw [if_neg (by omega)]
    | cons c t =>
      obtain ⟨hi, hb, hd1⟩ := bt_drop hd
      have w0 : wrap64 ((s.size : Int) - (i : Int)) = (s.size : Int) - (i : Int) := wrapI (by omega) (by omega)
      have w1 : wrap64 ((i : Int) + 1) = ((i + 1 : Nat) : Int) := by rw [wrapI (by omega) (by omega)]; omega
      have w2 : wrap64 ((i : Int) + 2) = ((i + 2 : Nat) : Int) := by rw [wrapI (by omega) (by omega)]; omega
      have w3 : wrap64 ((i : Int) + 3) = ((i + 3 : Nat) : Int) := by rw [wrapI (by omega) (by omega)]; omega
      have wh : ∀ a b : Int, dg a < 16 → dg b < 16 → (wrap64 (wrap64 (16 * dg a) + dg b)) % 256 = 16 * dg a + dg b := fun a b h1 h2 => by
        have h3 := dg_range a
        have h4 := dg_range b
        rw [wrapI (n := 16 * dg a) (by omega) (by omega), wrapI (by omega) (by omega)]
        omega
      by_cases h37 : c = 37
      · subst h37
        cases t with
        | nil =>
          have := bt_end hd1
          refine Ev.late 2 (f := fun _ => some ([], 3)) (fun k => ?_) (by rw [decS_one]; simpa [res] using Ev.now _)
          simp only [posthornref19_Decode.l0, posthornref19_Decode.j1, hb, w0, w1, w2]
          rw [if_pos (by omega), if_pos (by omega), if_pos h37c, if_pos (by omega)]
          simp
        | cons a t =>
          obtain ⟨hi1, hb1, hd2⟩ := bt_drop hd1
          cases t with
          | nil =>
            have := bt_end hd2
            refine Ev.late 2 (f := fun _ => some ([], 3)) (fun k => ?_) (by rw [decS_two]; simpa [res] using Ev.now _)
            simp only [posthornref19_Decode.l0, posthornref19_Decode.j1, hb, w0, w1, w2]
            rw [if_pos (by omega), if_pos (by omega), if_pos h37c, if_pos (by omega)]
            simp
          | cons b u =>
            obtain ⟨hi2, hb2, hd3⟩ := bt_drop hd2
            have ra := dg_range a.toNat
            have rb := dg_range b.toNat
            by_cases hda : dg a.toNat < 16
            · by_cases hdb : dg b.toNat < 16
              · have hr := ih u (i + 3) (acc ++ [16 * dg a.toNat + dg b.toNat]) (by simp only [List.length_cons] at hn; omega) hd3 (by simp; omega)
                rw [res_cons] at hr
                refine Ev.late 5 (f := fun k => posthornref19_Decode.l0 (k + 3) s (acc ++ [16 * dg a.toNat + dg b.toNat]) ((i + 3 : Nat) : Int)) (fun k => ?_) ?_
                · rw [show k + 5 = k + 3 + 1 + 1 by omega]
                  simp only [posthornref19_Decode.l0, posthornref19_Decode.j1, hb, w0, w1, w2, w3, hb1, hb2]
                  rw [if_pos (by omega), if_pos (by omega), if_pos h37c, if_neg (by omega), if_pos (by omega), if_pos (by omega), hex_in (k + 1) a hda]
                  simp only [Option.bind_some]
                  rw [if_neg (by omega), if_pos (by omega), if_pos (by omega), hex_in (k + 1) b hdb]
                  simp only [Option.bind_some]
                  rw [if_neg (by simp; omega), if_pos (by omega), if_pos (by omega), hex_in k a hda]
                  simp only [Option.bind_some]
                  rw [if_pos (by omega), if_pos (by omega), hex_in k b hdb]
                  simp only [Option.bind_some]
                  rw [if_pos (by omega), wh _ _ hda hdb]
                · rw [decS_hex, if_pos ⟨hda, hdb⟩]
                  obtain ⟨K, hK⟩ := hr
                  exact ⟨K, fun k hk => hK (k + 3) (by omega)⟩
              · refine Ev.late 5 (f := fun _ => some ([], 3)) (fun k => ?_) (by rw [decS_hex, if_neg (by omega)]; simpa [res] using Ev.now _)
                rw [show k + 5 = k + 3 + 1 + 1 by omega]
                simp only [posthornref19_Decode.l0, posthornref19_Decode.j1, hb, w0, w1, w2, hb1, hb2]
                rw [if_pos (by omega), if_pos (by omega), if_pos h37c, if_neg (by omega), if_pos (by omega), if_pos (by omega), hex_in (k + 1) a hda]
                simp only [Option.bind_some]
                rw [if_neg (by omega), if_pos (by omega), if_pos (by omega), hex_out (k + 1) b hdb]
                simp only [Option.bind_some]
                rw [if_pos (by simp)]
            · refine Ev.late 5 (f := fun _ => some ([], 3)) (fun k => ?_) (by rw [decS_hex, if_neg (by omega)]; simpa [res] using Ev.now _)
              rw [show k + 5 = k + 3 + 1 + 1 by omega]
              simp only [posthornref19_Decode.l0, posthornref19_Decode.j1, hb, w0, w1, w2, hb1, hb2]
              rw [if_pos (by omega), if_pos (by omega), if_pos h37c, if_neg (by omega), if_pos (by omega), if_pos (by omega), hex_out (k + 1) a hda]
              simp only [Option.bind_some]
              rw [if_pos (by omega)]
              simp
      · have hr := ih t (i + 1) (acc ++ [(c.toNat : Int)]) (by simp only [List.length_cons] at hn; omega) hd1 (by simp; omega)
        rw [res_cons] at hr
        refine Ev.step (f := fun k => posthornref19_Decode.l0 k s (acc ++ [(c.toNat : Int)]) ((i + 1 : Nat) : Int)) (fun k => ?_) ?_
        · have hc37 : ¬ ((c.toNat : Int) = 37) := fun h => h37 (u37.1 h)
          clear w0 w2 w3 wh ih hr
          simp only [posthornref19_Decode.l0, hb, w1]
          rw [if_pos (by omega), if_pos (by omega), if_neg hc37, if_pos (by omega)]
        · rw [decS_plain h37]
          exact hr
/-! ### coding -/
theorem plain_ne {x : Int} (h : Ex.plainB x = true) : x ≠ 37 := by
  rintro rfl
  revert h
  decide
theorem plain_range {x : Int} (h : Ex.plainB x = true) : 0 ≤ x ∧ x ≤ 255 := by
  simp only [Ex.plainB, Bool.or_eq_true, Bool.and_eq_true, decide_eq_true_eq, beq_iff_eq] at h
  omega
theorem hexT_dg : ∀ d : Fin 16, dg ((Ex.hexT.data.getD d.val 0).toNat : Int) = (d.val : Int) ∧ ((Ex.hexT.data.getD d.val 0).toNat : Int) = (if (d.val : Int) < 10 then (48 + (d.val : Int)) % 256 else (55 + (d.val : Int)) % 256) ∧ Ex.plainB ((Ex.hexT.data.getD d.val 0).toNat : Int) = true := by decide +kernel
theorem u8_of {x : Int} (h : 0 ≤ x ∧ x ≤ 255) : ((x.toNat.toUInt8).toNat : Int) = x := by
  have : (x.toNat.toUInt8).toNat = x.toNat := by simp; omega
  rw [this]
  omega
theorem decS_code : ∀ l : List Int, (∀ x ∈ l, 0 ≤ x ∧ x < 256) → decS (Ex.codeL l) = some l := by
  intro l
  induction l with
  | nil => intro _; exact decS_nil
  | cons x l ih =>
    intro h
    have hx := h x (by simp)
    have hl := ih (fun y hy => h y (by simp [hy]))
    show decS (Ex.codeOne x ++ Ex.codeL l) = _
    unfold Ex.codeOne
    split
    · rename_i hp
      have hu := u8_of (x := x) (by omega)
      have hn : x.toNat.toUInt8 ≠ 37 := fun e => plain_ne hp (by rw [← hu, e]; rfl)
      rw [List.singleton_append, decS_plain hn, hl, hu]
      rfl
    · have h1 := (hexT_dg ⟨x.toNat / 16, by omega⟩).1
      have h2 := (hexT_dg ⟨x.toNat % 16, by omega⟩).1
      simp only at h1 h2
      show decS (37 :: _ :: _ :: Ex.codeL l) = _
      rw [decS_hex, h1, h2, if_pos (by omega), hl]
      simp
      omega
def okc (c : Int) : Prop := Ex.plainB c = true ∨ c = 37
theorem code_ok : ∀ l : List Int, (∀ x ∈ l, 0 ≤ x ∧ x < 256) → ∀ c ∈ Ex.codeL l, okc (c.toNat : Int) := by
  intro l h c hc
  obtain ⟨x, hx, hcx⟩ := List.mem_flatMap.1 hc
  have hxr := h x hx
  unfold Ex.codeOne at hcx
  split at hcx
  · rename_i hp
    obtain rfl := List.mem_singleton.1 hcx
    exact Or.inl (by rw [u8_of (by omega)]; exact hp)
  · simp only [List.mem_cons, List.not_mem_nil, or_false] at hcx
    rcases hcx with rfl | rfl | rfl
    · exact Or.inr rfl
    · exact Or.inl (hexT_dg ⟨x.toNat / 16, by omega⟩).2.2
    · exact Or.inl (hexT_dg ⟨x.toNat % 16, by omega⟩).2.2
theorem code_len : ∀ l : List Int, (∀ x ∈ l, 0 ≤ x ∧ x < 256) → (Ex.codeL l).length = l.length + 2 * (Ex.codeL l).count 37 := by
  intro l
  induction l with
  | nil => intro _; rfl
  | cons x l ih =>
    intro h
    have hx := h x (by simp)
    have hl := ih (fun y hy => h y (by simp [hy]))
    have e : Ex.codeL (x :: l) = Ex.codeOne x ++ Ex.codeL l := rfl
    rw [e, List.length_append, List.count_append, hl, List.length_cons]
    unfold Ex.codeOne
    split
    · rename_i hp
      have hu := u8_of (x := x) (by omega)
      have hn : x.toNat.toUInt8 ≠ 37 := fun e => plain_ne hp (by rw [← hu, e]; rfl)
      rw [List.count_singleton]
      simp [hn]
      omega
    · have n1 : Ex.hexT.data.getD (x.toNat / 16) 0 ≠ 37 := fun e => plain_ne (hexT_dg ⟨x.toNat / 16, by omega⟩).2.2 (by simp only; rw [e]; rfl)
      have n2 : Ex.hexT.data.getD (x.toNat % 16) 0 ≠ 37 := fun e => plain_ne (hexT_dg ⟨x.toNat % 16, by omega⟩).2.2 (by simp only; rw [e]; rfl)
      generalize Ex.hexT.data.getD (x.toNat / 16) 0 = c1 at *
      generalize Ex.hexT.data.getD (x.toNat % 16) 0 = c2 at *
      simp only [List.count_cons, List.count_nil, List.length_cons, List.length_nil]
      simp [n1, n2]
      omega
theorem code3 (l : List Int) (hl : l.length ≤ 100000) : (Ex.codeL l).length ≤ 300000 := by
  have : ∀ l : List Int, (Ex.codeL l).length ≤ 3 * l.length := fun l => by
    induction l with
    | nil => simp [Ex.codeL]
    | cons y l ih =>
      have : (Ex.codeOne y).length ≤ 3 := by unfold Ex.codeOne; split <;> simp
      simp only [Ex.codeL, List.flatMap_cons, List.length_append, List.length_cons] at ih ⊢
      omega
  have := this l
  omega
theorem letter_eq (x : Int) : posthornref07_Letter.f x = some (decide (48 ≤ x ∧ x ≤ 57 ∨ 65 ≤ x ∧ x ≤ 90 ∨ 97 ≤ x ∧ x ≤ 122)) := by
  unfold posthornref07_Letter.f
  repeat' split
  all_goals (congr 1; simp only [eq_comm (a := true), eq_comm (a := false), decide_eq_true_eq, decide_eq_false_iff_not, decide_eq_decide]; omega)
theorem plainB_eq (x : Int) : Ex.plainB x = decide ((48 ≤ x ∧ x ≤ 57 ∨ 65 ≤ x ∧ x ≤ 90 ∨ 97 ≤ x ∧ x ≤ 122) ∨ x = 45 ∨ x = 46 ∨ x = 95) := by
  rw [Bool.eq_iff_iff]
  simp only [Ex.plainB, Bool.or_eq_true, Bool.and_eq_true, decide_eq_true_eq, beq_iff_eq]
  omega
theorem str1 (x : Int) : strOfNums [x] = ⟨#[x.toNat.toUInt8]⟩ := rfl
theorem digits_eq (x : Int) (h : 0 ≤ x ∧ x < 256) : posthornref03_Digits.f x = some ⟨#[Ex.hexT.data.getD (x.toNat / 16) 0, Ex.hexT.data.getD (x.toNat % 16) 0]⟩ := by
  have e1 : (Int.tdiv x 16) % 256 = ((x.toNat / 16 : Nat) : Int) := by rw [Int.tdiv_eq_ediv_of_nonneg h.1]; omega
  have e2 : Int.tmod x 16 = ((x.toNat % 16 : Nat) : Int) := by rw [Int.tmod_eq_emod_of_nonneg h.1]; omega
  have f1 := (hexT_dg ⟨x.toNat / 16, by omega⟩).2.1
  have f2 := (hexT_dg ⟨x.toNat % 16, by omega⟩).2.1
  simp only at f1 f2
  have hh : ∀ a : Int, posthornref03_hex.f a = some (if a < 10 then (48 + a) % 256 else (55 + a) % 256) := fun a => by unfold posthornref03_hex.f; split <;> rfl
  unfold posthornref03_Digits.f
  rw [e1, e2, hh, hh, ← f1, ← f2]
  generalize Ex.hexT.data.getD (x.toNat / 16) 0 = c1
  generalize Ex.hexT.data.getD (x.toNat % 16) 0 = c2
  simp only [Option.bind_some, List.nil_append, List.length_nil, List.length_cons]
  rw [if_pos (by omega)]
  simp [strOfNums]
theorem app_data (a b : List UInt8) : (⟨a.toArray⟩ ++ ⟨b.toArray⟩ : ByteArray) = ⟨(a ++ b).toArray⟩ := by
  apply ByteArray.ext
  simp
theorem rcode_loop (l : List Int) (hl : l.length ≤ 1000) (hr : ∀ x ∈ l, 0 ≤ x ∧ x < 256) : ∀ (suf : List Int) (i : Nat) (acc : List UInt8), l.drop i = suf → acc.length ≤ 3 * i → Ev (fun k => posthornref19_Code.l0 k l ⟨acc.toArray⟩ (i : Int)) ⟨(acc ++ Ex.codeL suf).toArray⟩ := by
  intro suf
  induction suf with
  | nil =>
    intro i acc hd ha
    have : l.length ≤ i := by
      have := congrArg List.length hd
      rw [List.length_drop, List.length_nil] at this
      omega
    refine Ev.step (f := fun _ => some ⟨acc.toArray⟩) (fun k => ?_) (by simpa [Ex.codeL] using Ev.now _)
    simp only [posthornref19_Code.l0]
    rw [if_neg (by omega)]
  | cons x suf ih =>
    intro i acc hd ha
    have hi : i < l.length := by
      have := congrArg List.length hd
      rw [List.length_drop, List.length_cons] at this
      omega
    have hg : l[i] = x := by
      rw [List.drop_eq_getElem_cons hi] at hd
      exact (List.cons.inj hd).1
    have hd1 : l.drop (i + 1) = suf := by
      rw [List.drop_eq_getElem_cons hi] at hd
      exact (List.cons.inj hd).2
    have hx : rd l (i : Int) = x := by simp [rd, hi, hg]
    have hxr := hr x (by rw [← hg]; exact List.getElem_mem hi)
    have w1 : wrap64 ((i : Int) + 1) = ((i + 1 : Nat) : Int) := by rw [wrapI (by omega) (by omega)]; omega
    have hsz : (⟨acc.toArray⟩ : ByteArray).size = acc.length := by simp [ByteArray.size]
    have hr1 := ih (i + 1) (acc ++ Ex.codeOne x) hd1 (by
      have : (Ex.codeOne x).length ≤ 3 := by unfold Ex.codeOne; split <;> simp
      rw [List.length_append]
      omega)
    have hcons : acc ++ Ex.codeL (x :: suf) = acc ++ Ex.codeOne x ++ Ex.codeL suf := by simp [Ex.codeL]
    rw [hcons]
    refine Ev.step (f := fun k => posthornref19_Code.l0 k l ⟨(acc ++ Ex.codeOne x).toArray⟩ ((i + 1 : Nat) : Int)) (fun k => ?_) hr1
    simp only [posthornref19_Code.l0, hx, letter_eq, digits_eq x hxr, Option.bind_some, w1]
    rw [if_pos (by omega), if_pos (by omega)]
    have hs1 : (⟨acc.toArray⟩ : ByteArray).size + (strOfNums [x]).size ≤ 9223372036854775807 := by rw [hsz]; show acc.length + 1 ≤ _; omega
    by_cases hp : Ex.plainB x = true
    · have hone : (⟨(acc ++ Ex.codeOne x).toArray⟩ : ByteArray) = ⟨acc.toArray⟩ ++ strOfNums [x] := by
        unfold Ex.codeOne
        rw [if_pos hp]
        exact (app_data acc [x.toNat.toUInt8]).symm
      rw [hone]
      rw [plainB_eq, decide_eq_true_eq] at hp
      by_cases c1 : 48 ≤ x ∧ x ≤ 57 ∨ 65 ≤ x ∧ x ≤ 90 ∨ 97 ≤ x ∧ x ≤ 122
      · rw [if_pos (by simpa using c1), if_pos hs1]
      · rw [if_neg (by simpa using c1)]
        by_cases c2 : x = 45
        · rw [if_pos c2, if_pos hs1]
        · rw [if_neg c2]
          by_cases c3 : x = 46
          · rw [if_pos c3, if_pos hs1]
          · rw [if_neg c3, if_pos (by omega), if_pos hs1]
    · have hone : (⟨(acc ++ Ex.codeOne x).toArray⟩ : ByteArray) = (⟨acc.toArray⟩ ++ ⟨#[37]⟩) ++ ⟨#[Ex.hexT.data.getD (x.toNat / 16) 0, Ex.hexT.data.getD (x.toNat % 16) 0]⟩ := by
        unfold Ex.codeOne
        rw [if_neg hp]
        have e1 := app_data acc [37]
        have e2 := app_data (acc ++ [37]) [Ex.hexT.data.getD (x.toNat / 16) 0, Ex.hexT.data.getD (x.toNat % 16) 0]
        rw [show (⟨#[37]⟩ : ByteArray) = ⟨[37].toArray⟩ from rfl, e1]
        refine Eq.trans ?_ e2.symm
        simp
      rw [hone]
      rw [plainB_eq, decide_eq_true_eq] at hp
      rw [if_neg (by simp only [decide_eq_true_eq]; omega), if_neg (by omega), if_neg (by omega), if_neg (by omega), if_pos (by rw [hsz]; omega)]
      rw [if_pos (by
        rw [show (⟨#[37]⟩ : ByteArray) = ⟨[37].toArray⟩ from rfl, app_data]
        show (acc ++ [37]).toArray.size + 2 ≤ _
        simp
        omega)]
theorem rcode (l : List Int) (hl : l.length ≤ 1000) (hr : ∀ x ∈ l, 0 ≤ x ∧ x < 256) : Ev (fun k => posthornref19_Code.f k l) ⟨(Ex.codeL l).toArray⟩ := by
  have := rcode_loop l hl hr l 0 [] rfl (by simp)
  rw [List.nil_append] at this
  exact this
theorem code_f (l : List Int) (hl : l.length ≤ 1000) (hr : ∀ x ∈ l, 0 ≤ x ∧ x < 256) : extra_Code.f l = some ⟨(Ex.codeL l).toArray⟩ := by
  unfold extra_Code.f
  rw [if_pos ⟨hl, hr⟩]
theorem alive_t : posthornlaw19_alive.f = some true := by kernel_rfl
theorem wf_u8 {l : List Int} (h : ∀ x ∈ l, (Lit.int .u8 x).wf = true) : ∀ x ∈ l, 0 ≤ x ∧ x < 256 := fun x hx => by
  have := h x hx
  simp only [Lit.wf, Bool.and_eq_true, decide_eq_true_eq] at this
  exact ⟨this.1, by have : x ≤ 255 := this.2; omega⟩
theorem pure_codes : posthornlaw19_ExtraCodes.Pure := by
  intro l s h1 h2 h3 h4
  have hr := wf_u8 h3
  apply Ev.rounds
  unfold posthornlaw19_ExtraCodes.f
  have hbig : Ev (fun k => posthornlaw19_ExtraCodes.j0 k l s true) true := Ev.step (f := fun _ => some true) (fun k => by simp only [posthornlaw19_ExtraCodes.j0, alive_t]; rfl) (Ev.now _)
  by_cases c1 : (l.length : Int) > 1000
  · exact Ev.congr (fun k => by rw [if_pos c1]) hbig
  · refine Ev.congr (fun k => by rw [if_neg c1]) ?_
    by_cases c2 : (s.size : Int) > 2000
    · rw [decide_eq_true c2]
      exact hbig
    · rw [decide_eq_false c2]
      refine Ev.step (f := fun k => (extra_Decode.f k s).bind fun bt278 => ((posthornref19_Decode.f k s).bind fun bt282 => ((posthornlaw19_alive.f).bind fun t286 => (if t286 = true then ((extra_Code.f l).bind fun t287 => ((posthornref19_Code.f k l).bind fun t288 => (if t287.toList = t288.toList then (if (strOfNums bt278.1).toList = (strOfNums bt282.1).toList then (some (bt278.2 == bt282.2)) else (some false)) else (some false)))) else (some false))))) (fun k => by simp only [posthornlaw19_ExtraCodes.j0]; rw [if_neg (by decide)]) ?_
      refine Ev.bind (dec1 s (by omega) s.data.toList.length _ 0 [] (Nat.le_refl _) rfl (by simp)) ?_
      refine Ev.bind (dec2 s (by omega) s.data.toList.length _ 0 [] (Nat.le_refl _) rfl (by simp)) ?_
      generalize res [] (decS s.data.toList) = X
      refine Ev.congr (f := fun k => (posthornref19_Code.f k l).bind fun t288 => (if (⟨(Ex.codeL l).toArray⟩ : ByteArray).toList = t288.toList then (if (strOfNums X.1).toList = (strOfNums X.1).toList then (some (X.2 == X.2)) else (some false)) else (some false))) (fun k => by rw [alive_t, code_f l (by omega) hr]; rfl) ?_
      refine Ev.bind (rcode l (by omega) hr) ?_
      refine Ev.congr (f := fun _ => some true) (fun k => ?_) (Ev.now _)
      simp
theorem back_loop (l : List Int) (s : ByteArray) (hs : s.size ≤ 300000) : ∀ (suf : List UInt8) (i n : Nat), s.data.toList.drop i = suf → n ≤ i → (∀ c ∈ suf, okc (c.toNat : Int)) → (s.size = l.length + 2 * (n + suf.count 37)) → Ev (fun k => posthornlaw19_ExtraCodeBack.l0 k l s l 0 (n : Int) (i : Int)) true := by
  intro suf
  induction suf with
  | nil =>
    intro i n hd hn hok hc
    have := bt_end hd
    refine Ev.step (f := fun _ => some true) (fun k => ?_) (Ev.now _)
    have e1 : wrap64 (2 * (n : Int)) = 2 * (n : Int) := wrapI (by omega) (by omega)
    have e2 : wrap64 ((l.length : Int) + 2 * (n : Int)) = (l.length : Int) + 2 * (n : Int) := wrapI (by simp at hc; omega) (by simp at hc; omega)
    simp only [posthornlaw19_ExtraCodeBack.l0, alive_t, Option.bind_some, if_true, e1, e2]
    rw [if_neg (by omega)]
    simp at hc
    simp
    omega
  | cons c suf ih =>
    intro i n hd hn hok hc
    obtain ⟨hi, hb, hd1⟩ := bt_drop hd
    have w1 : wrap64 ((i : Int) + 1) = ((i + 1 : Nat) : Int) := by rw [wrapI (by omega) (by omega)]; omega
    have w2 : wrap64 ((n : Int) + 1) = ((n + 1 : Nat) : Int) := by rw [wrapI (by omega) (by omega)]; omega
    have hokc := hok c (by simp)
    have hok' := fun d hd => hok d (List.mem_cons_of_mem _ hd)
    by_cases h37 : c = 37
    · subst h37
      have hr := ih (i + 1) (n + 1) hd1 (by omega) hok' (by rw [List.count_cons_self] at hc; omega)
      refine Ev.step (f := fun k => posthornlaw19_ExtraCodeBack.l0 k l s l 0 ((n + 1 : Nat) : Int) ((i + 1 : Nat) : Int)) (fun k => ?_) hr
      simp only [posthornlaw19_ExtraCodeBack.l0, hb, w1, w2, h37c]
      rw [if_pos (by omega), if_pos (by omega)]
      simp
    · have hne : ¬ ((c.toNat : Int) = 37) := fun h => h37 (u37.1 h)
      have hr := ih (i + 1) n hd1 (by omega) hok' (by rw [List.count_cons_of_ne (by simpa using h37)] at hc; exact hc)
      refine Ev.step (f := fun k => posthornlaw19_ExtraCodeBack.l0 k l s l 0 (n : Int) ((i + 1 : Nat) : Int)) (fun k => ?_) hr
      have hp : Ex.plainB (c.toNat : Int) = true := hokc.resolve_right hne
      rw [plainB_eq, decide_eq_true_eq] at hp
      simp only [posthornlaw19_ExtraCodeBack.l0, hb, w1]
      rw [if_pos (by omega), if_pos (by omega), if_neg hne]
      clear hr ih hb hd hd1 hok hok' hc hokc w1 w2
      generalize (c.toNat : Int) = x at *
      repeat' split
      all_goals (first | rfl | (exfalso; omega) | (exfalso; simp only [decide_eq_true_eq, beq_iff_eq] at *; omega))
theorem pure_back : posthornlaw19_ExtraCodeBack.Pure := by
  intro l h1 h2 h3
  have hr := wf_u8 h3
  apply Ev.rounds
  unfold posthornlaw19_ExtraCodeBack.f
  by_cases c1 : (l.length : Int) > 1000
  · exact Ev.congr (fun k => by rw [if_pos c1, alive_t]; rfl) (Ev.now _)
  · refine Ev.congr (f := fun k => (extra_Decode.f k ⟨(Ex.codeL l).toArray⟩).bind fun bt291 => (posthornlaw19_ExtraCodeBack.l0 k l ⟨(Ex.codeL l).toArray⟩ bt291.1 bt291.2 0 0)) (fun k => by rw [if_neg c1, code_f l (by omega) hr]; rfl) ?_
    have hsz : (⟨(Ex.codeL l).toArray⟩ : ByteArray).size = (Ex.codeL l).length := by simp [ByteArray.size]
    have h3k : (Ex.codeL l).length ≤ 3 * 1000 := by
      have : ∀ l : List Int, (Ex.codeL l).length ≤ 3 * l.length := fun l => by
        induction l with
        | nil => simp [Ex.codeL]
        | cons y l ih =>
          have : (Ex.codeOne y).length ≤ 3 := by unfold Ex.codeOne; split <;> simp
          simp only [Ex.codeL, List.flatMap_cons, List.length_append, List.length_cons] at ih ⊢
          omega
      have := this l
      omega
    have hdec := dec1 ⟨(Ex.codeL l).toArray⟩ (by omega) (Ex.codeL l).length (Ex.codeL l) 0 [] (Nat.le_refl _) rfl (by simp)
    rw [decS_code l hr] at hdec
    refine Ev.bind (a := (l, 0)) hdec ?_
    have hlen := code_len l hr
    exact back_loop l ⟨(Ex.codeL l).toArray⟩ (by omega) (Ex.codeL l) 0 0 rfl (Nat.le_refl _) (code_ok l hr) (by rw [hsz]; omega)
end Go.Proofs.YtlkonnkglbfkbaaDoor.Codes

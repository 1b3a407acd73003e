-- Written by a program of the session (wip/tools).
import Derived.Test.YtlkonnkglbfkbaaDoorPEx0
import Derived.Test.YtlkonnkglbfkbaaDoorPEx1
import Derived.Test.YtlkonnkglbfkbaaDoorPEx2
import Derived.Test.YtlkonnkglbfkbaaDoorPEx3
import Derived.Test.YtlkonnkglbfkbaaDoorPEx4
import Derived.Test.YtlkonnkglbfkbaaDoorPEx5
namespace Go.Proofs.YtlkonnkglbfkbaaDoor.PE
open Go.RowKit Go.Proofs.YtlkonnkglbfkbaaDoorW.PrintWords Go.Proofs.YtlkonnkglbfkbaaDoorW.PrintLast Go.Proofs.YtlkonnkglbfkbaaDoorW.PrintMore
attribute [local go_sem] max2_int min2_int max_two min_two max_three min_three max_four min_four   -- for this text's walks alone
set_option linter.unusedVariables false
set_option linter.unusedSimpArgs false

attribute [local go_sem high] eqA31
/-! ### extra_Join: function 10 -/
section
open Go.Maps Go.WideMaps Go.WideAt
theorem extra_Join.row {w : World} {A : Option Addr} {p q : S31} (h : Kd.C k31 w A 2 [p, q]) (hp0 : p.f0 = Ex.sN1) (hp1 : p.f1 = Ex.sB) (hq0 : q.f0 = Ex.sN0) (hq1 : q.f1 = Ex.sV) : ∃ g o sp, A = some ⟨g, o, sp⟩ ∧ Ex.CR w g o sp := by
  obtain ⟨⟨g, o, sp⟩, e, c0, c1⟩ := at_T31 h 0 (by decide) (by decide)
  obtain ⟨ad, e', c2, c3⟩ := at_T31 h 1 (by decide) (by decide)
  subst e
  injection e' with e'
  subst e'
  have d0 : w.cell? ⟨g, o, sp⟩ = some (.string p.f0) := c0
  have d1 : w.cell? ⟨g, o + 1, none⟩ = some (.string p.f1) := c1
  have d2 : w.cell? ⟨g, o + 2, none⟩ = some (.string q.f0) := c2
  have d3 : w.cell? ⟨g, o + 2 + 1, none⟩ = some (.string q.f1) := c3
  rw [hp0] at d0
  rw [hp1] at d1
  rw [hq0] at d2
  rw [hq1] at d3
  exact ⟨g, o, sp, rfl, Ex.cell_lt d0, d0, d1, d2, d3⟩
theorem extra_Join.join (V : World) (m n : Nat) (D : DataW Value) (hown : V.ownsMap Tryd.prog 54 Ex.Rv m n D) (a1 : D.atKey (Ex.plK (-1)) (.held (.agg #[.string ⟨#[]⟩, .bool false])) = .held (.agg #[.string ⟨#[]⟩, .bool false])) (a2 : has D (Ex.plK (-1)) = false) (a3 : D.atKey (Ex.plK 0) (.held (.agg #[.string ⟨#[]⟩, .bool false])) = .held (.agg #[.string Ex.sV, .bool true])) (a4 : has D (Ex.plK 0) = true) (a5 : D.atKey (Ex.plK 1) (.held (.agg #[.string ⟨#[]⟩, .bool false])) = .held (.agg #[.string Ex.sB, .bool false])) (a6 : has D (Ex.plK 1) = true) (a7 : D.atKey (Ex.plK 2) (.held (.agg #[.string ⟨#[]⟩, .bool false])) = .held (.agg #[.string ⟨#[]⟩, .bool false])) (a8 : has D (Ex.plK 2) = false) (hG : Ex.Glob V) :
    Calls Tryd.prog 20 #[.map (some m), .string Ex.sNAME] V fun e w' => e = .returned (.tuple #[.string Ex.sAB, .int .i64 2, .bool true]) ∧ Below V.heap.size V w' :=
  Ex.join_1 V m hG (fun V' hb => Ex.looks Ex.k54 (hown.kept (row := none) (Ex.below_none hb) (by simp)) Tryd.underlying50 (Ex.zero58 V') Ex.key_m a1 a2)
    (fun V' hb => Ex.looks Ex.k54 (hown.kept (row := none) (Ex.below_none hb) (by simp)) Tryd.underlying50 (Ex.zero58 V') Ex.key_0 a3 a4)
    (fun V' hb => Ex.looks Ex.k54 (hown.kept (row := none) (Ex.below_none hb) (by simp)) Tryd.underlying50 (Ex.zero58 V') Ex.key_1 a5 a6)
    (fun V' hb => Ex.looks Ex.k54 (hown.kept (row := none) (Ex.below_none hb) (by simp)) Tryd.underlying50 (Ex.zero58 V') Ex.key_2 a7 a8)
    (fun V' hg => extra_head.calls 40 Ex.sV Ex.sUTF Ex.sA20 true V' (by kernel_rfl) hg)
    (fun V' => extra_Decode.calls 40 Ex.sA20 [97, 32] 0 V' (by kernel_rfl))
    (fun V' A c hC hc => charset_Decode.calls 40 Ex.sUTF A c [97, 32, 98] [97, 32, 98] 0 0 V' hC hc (by kernel_rfl))
theorem extra_Join.smalls (s : ByteArray) (h : s = Ex.sN1 ∨ s = Ex.sN0 ∨ s = Ex.sA ∨ s = Ex.sB) (V : World) : Calls Tryd.prog 23 #[.string s] V fun e w' => e = .returned (.bool true) ∧ Below V.heap.size V w' := by
  rcases h with rfl | rfl | rfl | rfl
  · exact kind_small.calls 40 Ex.sN1 true V (by kernel_rfl)
  · exact kind_small.calls 40 Ex.sN0 true V (by kernel_rfl)
  · exact kind_small.calls 40 Ex.sA true V (by kernel_rfl)
  · exact kind_small.calls 40 Ex.sB true V (by kernel_rfl)
theorem extra_Join.values (s : ByteArray) (h : s = Ex.sB ∨ s = Ex.sV) (V : World) : Calls Tryd.prog 24 #[.string s] V fun e w' => e = .returned (.bool true) ∧ Drawn0 V w' := by
  rcases h with rfl | rfl
  · exact kind_isValue.calls 40 Ex.sB true V (by kernel_rfl)
  · exact kind_isValue.calls 40 Ex.sV true V (by kernel_rfl)
/-- Join is told at two kinds. -/
def extra_Join.f (a0_0 a0_1 : ByteArray) (l0_2 : List S31) : Option (ByteArray × ByteArray × List S31 × Int) :=
  match l0_2 with
  | [] => if a0_0 = ⟨#[]⟩ ∧ a0_1 = ⟨#[]⟩ then some (⟨#[]⟩, ⟨#[]⟩, [], 70) else none
  | [p, q] => if (a0_0 = Ex.sA ∧ a0_1 = Ex.sB) ∧ (p.f0 = Ex.sN1 ∧ p.f1 = Ex.sB) ∧ (q.f0 = Ex.sN0 ∧ q.f1 = Ex.sV) then some (Ex.sA, Ex.sB, [⟨Ex.sNAME, Ex.sAB⟩], 0) else none
  | _ => none
theorem extra_Join.calls (a0_0 a0_1 : ByteArray) (A0_2 : Option Addr) (c0_2 : Nat) (l0_2 : List S31) (r1_0 r1_1 : ByteArray) (r1_2 : List S31) (r2 : Int) (w : World) (hr0_2 : Kd.C k31 w A0_2 l0_2.length l0_2) (hc0_2 : l0_2.length ≤ c0_2) (h : extra_Join.f a0_0 a0_1 l0_2 = some (r1_0, r1_1, r1_2, r2)) (hG : Ex.Glob w := by exact Ex.Glob.below HG.out (by repeat (first | (with_reducible first | exact HB.out | apply below_alloc | apply pw_below_drewN | apply below_drew1) | exact HB.out | refine below_set ?_ (Aside0.out (by assumption))))) :
    Calls Tryd.prog 10 #[.agg #[.string a0_0, .string a0_1, .slice A0_2 l0_2.length c0_2]] w fun e w' => ∃ v0_ : Value, e = .returned (.tuple #[.agg #[.string r1_0, .string r1_1, v0_], .int .i64 r2]) ∧ Kd.R k31 31 w' w.heap.size (fun _ => True) v0_ r1_2 ∧ Below w.heap.size w w' := by
  unfold extra_Join.f at h
  split at h
  · split at h
    · rename_i c
      obtain ⟨rfl, rfl⟩ := c
      simp only [Option.some.injEq, Prod.mk.injEq] at h
      obtain ⟨rfl, rfl, rfl, rfl⟩ := h
      exact (Ex.Join_0 w A0_2 c0_2 (fun V => Ex.right_0 V A0_2 c0_2 (fun V' => kind_small.calls 40 ⟨#[]⟩ false V' (by kernel_rfl)))).mono (fun e w' hh => ⟨_, hh.1, Kd.R_nil _ _ _ _ _, hh.2⟩)
    · cases h
  · rename_i p q
    split at h
    · rename_i c
      obtain ⟨⟨rfl, rfl⟩, ⟨hp0, hp1⟩, hq0, hq1⟩ := c
      simp only [Option.some.injEq, Prod.mk.injEq] at h
      obtain ⟨rfl, rfl, rfl, rfl⟩ := h
      obtain ⟨g, o, sp, rfl, hrow⟩ := extra_Join.row hr0_2 hp0 hp1 hq0 hq1
      exact Ex.Join_1 k31 ⟨Ex.sNAME, Ex.sAB⟩ rfl (fun w base ok => k31_mkM w base ok ⟨Ex.sNAME, Ex.sAB⟩) w g o c0_2 sp hrow hG (fun V hV => Ex.right_1 V g o c0_2 sp hV extra_Join.smalls extra_Join.values) (fun V m n D h1 h2 h3 h4 h5 h6 h7 h8 h9 h10 => extra_Join.join V m n D h1 h2 h3 h4 h5 h6 h7 h8 h9 h10)
    · cases h
  · cases h
end

/-! ### posthornlaw19_alive: function 5 -/
def posthornlaw19_alive.f  : Option (Bool) := (extra_Join.f (⟨#[97]⟩ : ByteArray) (⟨#[98]⟩ : ByteArray) (([(⟨(⟨#[110, 97, 109, 101, 42, 49]⟩ : ByteArray), (⟨#[98]⟩ : ByteArray)⟩ : S31), (⟨(⟨#[110, 97, 109, 101, 42, 48, 42]⟩ : ByteArray), (⟨#[117, 116, 102, 45, 56, 39, 39, 97, 37, 50, 48]⟩ : ByteArray)⟩ : S31)] : List (S31)))).bind fun bt191 => ((extra_Join.f (⟨#[]⟩ : ByteArray) (⟨#[]⟩ : ByteArray) ([] : List (S31))).bind fun bt198 => (if bt191.2.2.2 = 0 then (if (bt191.2.2.1.length : Int) = 1 then (if 0 < (bt191.2.2.1.length : Int) then (if ((((rd_T31 bt191.2.2.1 0).f0).toList) == ([110, 97, 109, 101] : List UInt8) && ((((rd_T31 bt191.2.2.1 0).f1).toList) == ([97, 32, 98] : List UInt8))) = true then (if bt198.2.2.2 = 70 then ((extra_Code.f (([97, 32, 98] : List Int))).bind fun t209 => (some (t209.toList == ([97, 37, 50, 48, 98] : List UInt8)))) else (some false)) else (some false)) else (none)) else (some false)) else (some false)))
set_option maxHeartbeats 8000000 in
set_option maxRecDepth 100000 in
theorem posthornlaw19_alive.calls  (r : Bool) (w : World) (h : posthornlaw19_alive.f  = some r) (hr_ : Aside0 (r = true) := by first | exact ⟨rfl⟩ | assumption) (hG : Ex.Glob w := by exact Ex.Glob.below HG.out (by repeat (first | (with_reducible first | exact HB.out | apply below_alloc | apply pw_below_drewN | apply below_drew1) | exact HB.out))) :
    Calls Tryd.prog 5 #[] w fun e w' => e = .returned (.bool r) ∧ Below w.heap.size w w' := by
  have hu31 := Tryd.underlying31
  have hu34 := Tryd.underlying34
  have HB := Aside0.mk (Below.refl w.heap.size w)
  have HG := Aside0.mk hG
  clear hG
  have H : ((extra_Join.f (⟨#[97]⟩ : ByteArray) (⟨#[98]⟩ : ByteArray) (([(⟨(⟨#[110, 97, 109, 101, 42, 49]⟩ : ByteArray), (⟨#[98]⟩ : ByteArray)⟩ : S31), (⟨(⟨#[110, 97, 109, 101, 42, 48, 42]⟩ : ByteArray), (⟨#[117, 116, 102, 45, 56, 39, 39, 97, 37, 50, 48]⟩ : ByteArray)⟩ : S31)] : List (S31)))).bind fun bt191 => ((extra_Join.f (⟨#[]⟩ : ByteArray) (⟨#[]⟩ : ByteArray) ([] : List (S31))).bind fun bt198 => (if bt191.2.2.2 = 0 then (if (bt191.2.2.1.length : Int) = 1 then (if 0 < (bt191.2.2.1.length : Int) then (if ((((rd_T31 bt191.2.2.1 0).f0).toList) == ([110, 97, 109, 101] : List UInt8) && ((((rd_T31 bt191.2.2.1 0).f1).toList) == ([97, 32, 98] : List UInt8))) = true then (if bt198.2.2.2 = 70 then ((extra_Code.f (([97, 32, 98] : List Int))).bind fun t209 => (some (t209.toList == ([97, 37, 50, 48, 98] : List UInt8)))) else (some false)) else (some false)) else (none)) else (some false)) else (some false)))) = some r := h
  clear h
  obtain ⟨y187, hy187⟩ : ∃ y_ : List (S31), y_ = (([(⟨(⟨#[110, 97, 109, 101, 42, 49]⟩ : ByteArray), (⟨#[98]⟩ : ByteArray)⟩ : S31), (⟨(⟨#[110, 97, 109, 101, 42, 48, 42]⟩ : ByteArray), (⟨#[117, 116, 102, 45, 56, 39, 39, 97, 37, 50, 48]⟩ : ByteArray)⟩ : S31)] : List (S31))) := ⟨_, rfl⟩
  replace H : ((extra_Join.f (⟨#[97]⟩ : ByteArray) (⟨#[98]⟩ : ByteArray) y187).bind fun bt191 => ((extra_Join.f (⟨#[]⟩ : ByteArray) (⟨#[]⟩ : ByteArray) ([] : List (S31))).bind fun bt198 => (if bt191.2.2.2 = 0 then (if (bt191.2.2.1.length : Int) = 1 then (if 0 < (bt191.2.2.1.length : Int) then (if ((((rd_T31 bt191.2.2.1 0).f0).toList) == ([110, 97, 109, 101] : List UInt8) && ((((rd_T31 bt191.2.2.1 0).f1).toList) == ([97, 32, 98] : List UInt8))) = true then (if bt198.2.2.2 = 70 then ((extra_Code.f (([97, 32, 98] : List Int))).bind fun t209 => (some (t209.toList == ([97, 37, 50, 48, 98] : List UInt8)))) else (some false)) else (some false)) else (none)) else (some false)) else (some false)))) = some r := by first | (rw [hy187]; with_reducible exact H) | (have H2_ := (Option.bind_some _ _).symm.trans H; rw [hy187]; with_reducible exact H2_) | (have H2_ := (Option.bind_some _ _).symm.trans H; with_reducible exact H2_) | with_reducible exact H | (rw [hy187]; exact H) | exact H
  have Ny187 := Aside0.mk hy187
  clear hy187
  replace H := Option.bind_eq_some_iff.mp H
  obtain ⟨⟨t191, t192, t193, t196⟩, A10, H⟩ := H
  replace H : ((extra_Join.f (⟨#[]⟩ : ByteArray) (⟨#[]⟩ : ByteArray) ([] : List (S31))).bind fun bt198 => (if t196 = 0 then (if (t193.length : Int) = 1 then (if 0 < (t193.length : Int) then (if ((((rd_T31 t193 0).f0).toList) == ([110, 97, 109, 101] : List UInt8) && ((((rd_T31 t193 0).f1).toList) == ([97, 32, 98] : List UInt8))) = true then (if bt198.2.2.2 = 70 then ((extra_Code.f (([97, 32, 98] : List Int))).bind fun t209 => (some (t209.toList == ([97, 37, 50, 48, 98] : List UInt8)))) else (some false)) else (some false)) else (none)) else (some false)) else (some false))) = some r := H
  have A1 := Aside0.mk A10
  clear A10
  replace H := Option.bind_eq_some_iff.mp H
  obtain ⟨⟨t198, t199, t200, t203⟩, A20, H⟩ := H
  replace H : (if t196 = 0 then (if (t193.length : Int) = 1 then (if 0 < (t193.length : Int) then (if ((((rd_T31 t193 0).f0).toList) == ([110, 97, 109, 101] : List UInt8) && ((((rd_T31 t193 0).f1).toList) == ([97, 32, 98] : List UInt8))) = true then (if t203 = 70 then ((extra_Code.f (([97, 32, 98] : List Int))).bind fun t209 => (some (t209.toList == ([97, 37, 50, 48, 98] : List UInt8)))) else (some false)) else (some false)) else (none)) else (some false)) else (some false)) = some r := H
  have A2 := Aside0.mk A20
  clear A20
  by_cases c3 : t196 = 0
  · rw [if_pos c3] at H
    have c3b0 : (t196 == 0) = true := beq_iff_eq.mpr c3
    have c3b1 : (t196 != 0) = false := bne_eq_false_iff_eq.mpr c3
    clear c3
    by_cases c4 : (t193.length : Int) = 1
    · rw [if_pos c4] at H
      have c4b0 : ((t193.length : Int) == 1) = true := beq_iff_eq.mpr c4
      have c4b1 : ((t193.length : Int) != 1) = false := bne_eq_false_iff_eq.mpr c4
      clear c4
      by_cases c5 : 0 < (t193.length : Int)
      · rw [if_pos c5] at H
        have c5b0 : decide (0 < (t193.length : Int)) = true := decide_eq_true c5
        have c5b1 : decide (0 < t193.length) = true := decide_eq_true (by omega)
        clear c5
        by_cases c6 : ((((rd_T31 t193 0).f0).toList) == ([110, 97, 109, 101] : List UInt8) && ((((rd_T31 t193 0).f1).toList) == ([97, 32, 98] : List UInt8))) = true
        · rw [if_pos c6] at H
          have c6b0 : ((((rd_T31 t193 0).f0).toList) == ([110, 97, 109, 101] : List UInt8) && ((((rd_T31 t193 0).f1).toList) == ([97, 32, 98] : List UInt8))) = true := c6
          (try (have c6b1 : decide ((((rd_T31 t193 0).f0).toList) = ([110, 97, 109, 101] : List UInt8) && ((((rd_T31 t193 0).f1).toList) == ([97, 32, 98] : List UInt8))) = true := by simpa using c6))
          (try (have c6b2 : ((((rd_T31 t193 0).f0).toList) == ([110, 97, 109, 101] : List UInt8) && ((((rd_T31 t193 0).f1).toList) == ([97, 32, 98] : List UInt8))) = true := by simpa using c6))
          clear c6
          by_cases c7 : t203 = 70
          · rw [if_pos c7] at H
            have c7b0 : (t203 == 70) = true := beq_iff_eq.mpr c7
            have c7b1 : (t203 != 70) = false := bne_eq_false_iff_eq.mpr c7
            clear c7
            obtain ⟨y206, hy206⟩ : ∃ y_ : List Int, y_ = (([97, 32, 98] : List Int)) := ⟨_, rfl⟩
            replace H : ((extra_Code.f y206).bind fun t209 => (some (t209.toList == ([97, 37, 50, 48, 98] : List UInt8)))) = some r := by first | (rw [hy206]; with_reducible exact H) | (have H2_ := (Option.bind_some _ _).symm.trans H; rw [hy206]; with_reducible exact H2_) | (have H2_ := (Option.bind_some _ _).symm.trans H; with_reducible exact H2_) | with_reducible exact H | (rw [hy206]; exact H) | exact H
            have Ny206 := Aside0.mk hy206
            clear hy206
            replace H := Option.bind_eq_some_iff.mp H
            obtain ⟨t209, A80, H⟩ := H
            replace H : (some (t209.toList == ([97, 37, 50, 48, 98] : List UInt8))) = some r := H
            have A8 := Aside0.mk A80
            clear A80
            obtain rfl := Option.some.inj H
            have hy_ := Ny206.out; subst hy_; have hcb_ := fun W g hg => Ex.lit_conv W #[.int .u8 97, .int .u8 32, .int .u8 98] 3 3 g hg
            go_enter Tryd.func5, Tryd.ntmps5
            go_wp2_with (first | ((with_reducible refine gate_dst (N := 8) rfl ?_); (try (refine gate_guard (by rfl) ?_; dsimp only)); refine Kd.R_lit k31 _ 31 ?hg (N := 8) ?hd (xs := ([(⟨(⟨#[110, 97, 109, 101, 42, 49]⟩ : ByteArray), (⟨#[98]⟩ : ByteArray)⟩ : S31), (⟨(⟨#[110, 97, 109, 101, 42, 48, 42]⟩ : ByteArray), (⟨#[117, 116, 102, 45, 56, 39, 39, 97, 37, 50, 48]⟩ : ByteArray)⟩ : S31)] : List (S31))) (inner := [.string (⟨#[110, 97, 109, 101, 42, 49]⟩ : ByteArray), .string (⟨#[98]⟩ : ByteArray), .string (⟨#[110, 97, 109, 101, 42, 48, 42]⟩ : ByteArray), .string (⟨#[117, 116, 102, 45, 56, 39, 39, 97, 37, 50, 48]⟩ : ByteArray)]) (ok := fun _ => True) (okp := fun _ => True) ?hr ?hp (fun _ hk => hk) trivial (Below.refl _ _) (Nat.le_refl _) (by simp) ?_; (case hd => rfl); (case hg => rfl); (case hr => first | (go_simp; done) | (go_simp; rfl)); (case hp => exact (Reps.c2 (show Kd.M k31 _ _ _ (⟨(⟨#[110, 97, 109, 101, 42, 49]⟩ : ByteArray), (⟨#[98]⟩ : ByteArray)⟩ : S31) [.string (⟨#[110, 97, 109, 101, 42, 49]⟩ : ByteArray), .string (⟨#[98]⟩ : ByteArray)] from (k31_mkM _ _ _ (⟨(⟨#[110, 97, 109, 101, 42, 49]⟩ : ByteArray), (⟨#[98]⟩ : ByteArray)⟩ : S31) )) (Reps.c2 (show Kd.M k31 _ _ _ (⟨(⟨#[110, 97, 109, 101, 42, 48, 42]⟩ : ByteArray), (⟨#[117, 116, 102, 45, 56, 39, 39, 97, 37, 50, 48]⟩ : ByteArray)⟩ : S31) [.string (⟨#[110, 97, 109, 101, 42, 48, 42]⟩ : ByteArray), .string (⟨#[117, 116, 102, 45, 56, 39, 39, 97, 37, 50, 48]⟩ : ByteArray)] from (k31_mkM _ _ _ (⟨(⟨#[110, 97, 109, 101, 42, 48, 42]⟩ : ByteArray), (⟨#[117, 116, 102, 45, 56, 39, 39, 97, 37, 50, 48]⟩ : ByteArray)⟩ : S31) )) (Reps.none _ _)))); intro v188 w9 ho10 hb hg_ hnew_; clear hg_ hnew_; (first | rw [← Ny187.out] at ho10 | (simp only [Int.reduceToNat] at ho10; rw [← Ny187.out] at ho10)); have n0_ := Aside0.mk (Kd.R_lower ho10 (below_size (by repeat (first | (with_reducible first | exact HB.out | apply below_alloc | apply pw_below_drewN | apply below_drew1) | exact HB.out)))); have n1_ := Aside0.mk (below_step (by repeat (first | (with_reducible first | exact HB.out | apply below_alloc | apply pw_below_drewN | apply below_drew1) | exact HB.out)) hb); clear HB; have HO189 := n0_; have HB := n1_; clear n0_ n1_; clear hb ho10; obtain ⟨Ao11, co11, eo11⟩ := Kd.R_slice HO189.out; subst eo11) | ((with_reducible refine gate_dst (N := 1) rfl ?_); (try (refine gate_guard (by rfl) ?_; dsimp only)); refine box_event ?hg (N := 1) ?hd (cs := #[.string (⟨#[]⟩ : ByteArray), .string (⟨#[]⟩ : ByteArray), .slice none 0 0]) (t := 34) ?hr ?_; (case hd => rfl); (case hg => rfl); (case hr => first | (go_simp; done) | (go_simp; rfl)); intro gb190 hg w12 hbox hb; have n0_ := Aside0.mk (Kd.R_below (by (with_reducible repeat (first | apply Kd.R_alloc | apply Kd.R_drewN | apply Kd.R_drew)); exact HO189.out) hb); have n1_ := Aside0.mk (below_step (by repeat (first | (with_reducible first | exact HB.out | apply below_alloc | apply pw_below_drewN | apply below_drew1) | exact HB.out)) hb); have n2_ := Aside0.mk (hbox); have n3_ := Aside0.mk ((by rw [hg]; exact (below_size (by repeat (first | (with_reducible first | exact HB.out | apply below_alloc | apply pw_below_drewN | apply below_drew1) | exact HB.out))) : w.heap.size ≤ gb190)); have n4_ := Aside0.mk ((by rw [hg]; exact (below_size (by repeat (first | (with_reducible first | exact HB.out | apply below_alloc | apply pw_below_drewN | apply below_drew1) | exact HB.out))) : w.heap.size ≤ gb190)); clear HO189; clear HB; have HO189 := n0_; have HB := n1_; have BK190 := n2_; have GW190 := n3_; have GE190 := n4_; clear n0_ n1_ n2_ n3_ n4_; clear hb hbox hg; have hcz13_0 : w12.cell? ⟨gb190, 0, none⟩ = some (.string (⟨#[]⟩ : ByteArray)) := (blk_cell BK190.out 0).trans rfl; have hcz13_1 : w12.cell? ⟨gb190, 1, none⟩ = some (.string (⟨#[]⟩ : ByteArray)) := (blk_cell BK190.out 1).trans rfl; have hcz13_2 : w12.cell? ⟨gb190, 2, none⟩ = some (.slice none 0 0) := (blk_cell BK190.out 2).trans rfl; have hfz13_0 := blk_frozen BK190.out 0; have hfz13_1 := blk_frozen BK190.out 1; have hfz13_2 := blk_frozen BK190.out 2) | ((with_reducible refine gate_callee (f := 10) rfl ?_); refine goesL_ (some 12) rfl rfl Tryd.func10 (by kernel_rfl) rfl #[.agg #[.string (⟨#[97]⟩ : ByteArray), .string (⟨#[98]⟩ : ByteArray), .slice Ao11 y187.length co11]] rfl (by (try simp only [List.map_toArray, List.map_cons, List.map_nil]); first | done | rfl | (simp only [List.length_drop, List.length_take]; rfl)) ?_; (with_reducible refine (extra_Join.calls (⟨#[97]⟩ : ByteArray) (⟨#[98]⟩ : ByteArray) _ _ y187 t191 t192 t193 t196 _ ?side1 ?side2 A1.out).mono ?_); (case side1 => refine (Kd.R_reads' (e := 31) (base := w.heap.size) (ok := fun k_ => True) (n := y187.length) (c := co11) ?_).2.2; exact (by (with_reducible repeat (first | apply Kd.R_alloc | apply Kd.R_drewN | apply Kd.R_drew)); exact (Kd.R_mono (Kd.R_far (p := ⟨gb190, 2, none⟩) (Kd.R_far (p := ⟨gb190, 1, none⟩) (Kd.R_far (p := ⟨gb190, 0, none⟩) (Kd.R_types HO189.out BK190.out (by decide)) (fun _ hk => hk.2) (.string (⟨#[97]⟩ : ByteArray))) (fun _ hk => hk.2) (.string (⟨#[98]⟩ : ByteArray))) (fun _ hk => hk.2) (.slice Ao11 y187.length co11)) (fun _ h_ => h_.1)))); (case side2 => exact (Kd.R_reads' HO189.out).2.1); rintro e w14 ⟨v194, rfl, ho0, hb⟩; refine ⟨_, rfl, ?_⟩; have n0_ := Aside0.mk (Kd.R_elder' (by (with_reducible repeat (first | apply Kd.R_alloc | apply Kd.R_drewN | apply Kd.R_drew)); exact (Kd.R_mono (Kd.R_far (p := ⟨gb190, 2, none⟩) (Kd.R_far (p := ⟨gb190, 1, none⟩) (Kd.R_far (p := ⟨gb190, 0, none⟩) (Kd.R_types HO189.out BK190.out (by decide)) (fun _ hk => hk.2) (.string (⟨#[97]⟩ : ByteArray))) (fun _ hk => hk.2) (.string (⟨#[98]⟩ : ByteArray))) (fun _ hk => hk.2) (.slice Ao11 y187.length co11)) (fun _ h_ => h_.1))) (Kd.R_base ho0) hb); have n1_ := Aside0.mk (Kd.R_lower (Kd.R_new' ho0 (Kd.R_lt (by (with_reducible repeat (first | apply Kd.R_alloc | apply Kd.R_drewN | apply Kd.R_drew)); exact (Kd.R_mono (Kd.R_far (p := ⟨gb190, 2, none⟩) (Kd.R_far (p := ⟨gb190, 1, none⟩) (Kd.R_far (p := ⟨gb190, 0, none⟩) (Kd.R_types HO189.out BK190.out (by decide)) (fun _ hk => hk.2) (.string (⟨#[97]⟩ : ByteArray))) (fun _ hk => hk.2) (.string (⟨#[98]⟩ : ByteArray))) (fun _ hk => hk.2) (.slice Ao11 y187.length co11)) (fun _ h_ => h_.1))))) (below_size (by repeat (first | (with_reducible first | exact HB.out | apply below_alloc | apply pw_below_drewN | apply below_drew1 | refine below_set ?_ GE190.out) | exact HB.out)))); have n2_ := Aside0.mk (blk_below (g := gb190) (o := .cells #[.string (⟨#[97]⟩ : ByteArray), .string (⟨#[98]⟩ : ByteArray), .slice Ao11 y187.length co11] 34 (0, 0)) (by (with_reducible repeat (first | refine blk_drewN ?_ _ | refine blk_drew ?_ | refine blk_alloc ?_ _)); refine blk_put (cs := #[.string (⟨#[97]⟩ : ByteArray), .string (⟨#[98]⟩ : ByteArray), .slice none 0 0]) ?_ 2 _ rfl; (with_reducible repeat (first | refine blk_drewN ?_ _ | refine blk_drew ?_ | refine blk_alloc ?_ _)); refine blk_put (cs := #[.string (⟨#[97]⟩ : ByteArray), .string (⟨#[]⟩ : ByteArray), .slice none 0 0]) ?_ 1 _ rfl; (with_reducible repeat (first | refine blk_drewN ?_ _ | refine blk_drew ?_ | refine blk_alloc ?_ _)); refine blk_put (cs := #[.string (⟨#[]⟩ : ByteArray), .string (⟨#[]⟩ : ByteArray), .slice none 0 0]) ?_ 0 _ rfl; (with_reducible repeat (first | refine blk_drewN ?_ _ | refine blk_drew ?_ | refine blk_alloc ?_ _)); exact BK190.out) hb); have n3_ := Aside0.mk (below_step (by repeat (first | (with_reducible first | exact HB.out | apply below_alloc | apply pw_below_drewN | apply below_drew1 | refine below_set ?_ GE190.out) | exact HB.out)) hb); clear HO189; clear BK190; clear HB; have HO189 := n0_; have HO195 := n1_; have BK190 := n2_; have HB := n3_; clear n0_ n1_ n2_ n3_; (try clear hb); (try clear hb2); (try clear hk); (try clear hi); (try clear ho0)) | ((with_reducible refine gate_dst (N := 2) rfl ?_); (try (refine gate_guard (by rfl) ?_; dsimp only)); refine box_event ?hg (N := 2) ?hd (cs := #[.string (⟨#[]⟩ : ByteArray), .string (⟨#[]⟩ : ByteArray), .slice none 0 0]) (t := 34) ?hr ?_; (case hd => rfl); (case hg => rfl); (case hr => first | (go_simp; done) | (go_simp; rfl)); intro gb197 hg w15 hbox hb; have n0_ := Aside0.mk (Kd.R_below (by (with_reducible repeat (first | apply Kd.R_alloc | apply Kd.R_drewN | apply Kd.R_drew)); exact HO189.out) hb); have n1_ := Aside0.mk (Kd.R_below (by (with_reducible repeat (first | apply Kd.R_alloc | apply Kd.R_drewN | apply Kd.R_drew)); exact HO195.out) hb); have n2_ := Aside0.mk (blk_below (g := gb190) (o := .cells #[.string (⟨#[97]⟩ : ByteArray), .string (⟨#[98]⟩ : ByteArray), .slice Ao11 y187.length co11] 34 (0, 0)) (by (with_reducible repeat (first | refine blk_drewN ?_ _ | refine blk_drew ?_ | refine blk_alloc ?_ _)); exact BK190.out) hb); have n3_ := Aside0.mk (below_step (by repeat (first | (with_reducible first | exact HB.out | apply below_alloc | apply pw_below_drewN | apply below_drew1 | refine below_set ?_ GE190.out) | exact HB.out)) hb); have n4_ := Aside0.mk (hbox); have n5_ := Aside0.mk ((by rw [hg]; exact (below_size (by repeat (first | (with_reducible first | exact HB.out | apply below_alloc | apply pw_below_drewN | apply below_drew1 | refine below_set ?_ GE190.out) | exact HB.out))) : w.heap.size ≤ gb197)); have n6_ := Aside0.mk ((by rw [hg]; exact (below_size (by repeat (first | (with_reducible first | exact HB.out | apply below_alloc | apply pw_below_drewN | apply below_drew1 | refine below_set ?_ GE190.out) | exact HB.out))) : w.heap.size ≤ gb197)); have n7_ := Aside0.mk ((by rw [hg]; exact Nat.ne_of_lt (blk_lt (g := gb190) (o := .cells #[.string (⟨#[97]⟩ : ByteArray), .string (⟨#[98]⟩ : ByteArray), .slice Ao11 y187.length co11] 34 (0, 0)) (by (with_reducible repeat (first | refine blk_drewN ?_ _ | refine blk_drew ?_ | refine blk_alloc ?_ _)); exact BK190.out)) : gb190 ≠ gb197)); have n8_ := Aside0.mk ((by rw [hg]; exact Nat.ne_of_gt (blk_lt (g := gb190) (o := .cells #[.string (⟨#[97]⟩ : ByteArray), .string (⟨#[98]⟩ : ByteArray), .slice Ao11 y187.length co11] 34 (0, 0)) (by (with_reducible repeat (first | refine blk_drewN ?_ _ | refine blk_drew ?_ | refine blk_alloc ?_ _)); exact BK190.out)) : gb197 ≠ gb190)); clear HO189; clear HO195; clear BK190; clear HB; have HO189 := n0_; have HO195 := n1_; have BK190 := n2_; have HB := n3_; have BK197 := n4_; have GW197 := n5_; have GE197 := n6_; have NB190_197 := n7_; have NB197_190 := n8_; clear n0_ n1_ n2_ n3_ n4_ n5_ n6_ n7_ n8_; clear hb hbox hg; have hnb16 := NB197_190.out; have hnc16 := NB190_197.out; have hcz17_0 : w15.cell? ⟨gb197, 0, none⟩ = some (.string (⟨#[]⟩ : ByteArray)) := (blk_cell BK197.out 0).trans rfl; have hcz17_1 : w15.cell? ⟨gb197, 1, none⟩ = some (.string (⟨#[]⟩ : ByteArray)) := (blk_cell BK197.out 1).trans rfl; have hcz17_2 : w15.cell? ⟨gb197, 2, none⟩ = some (.slice none 0 0) := (blk_cell BK197.out 2).trans rfl; have hfz17_0 := blk_frozen BK197.out 0; have hfz17_1 := blk_frozen BK197.out 1; have hfz17_2 := blk_frozen BK197.out 2; obtain ⟨Ao18, co18, eo18⟩ := Kd.R_slice HO195.out; subst eo18) | ((with_reducible refine gate_callee (f := 10) rfl ?_); refine goesL_ (some 17) rfl rfl Tryd.func10 (by kernel_rfl) rfl #[.agg #[.string (⟨#[]⟩ : ByteArray), .string (⟨#[]⟩ : ByteArray), .slice none 0 0]] rfl (by (try simp only [List.map_toArray, List.map_cons, List.map_nil]); first | done | rfl | (simp only [List.length_drop, List.length_take]; rfl)) ?_; (refine (extra_Join.calls (⟨#[]⟩ : ByteArray) (⟨#[]⟩ : ByteArray) _ _ ([] : List (S31)) t198 t199 t200 t203 _ ?side1 ?side2 A2.out).mono ?_); (case side1 => exact Kd.C_nil _ _); (case side2 => exact Nat.le_refl _); rintro e w19 ⟨v201, rfl, ho0, hb⟩; refine ⟨_, rfl, ?_⟩; have n0_ := Aside0.mk (Kd.R_elder' (by (with_reducible repeat (first | apply Kd.R_alloc | apply Kd.R_drewN | apply Kd.R_drew)); exact (Kd.R_mono (Kd.R_far (p := ⟨gb197, 2, none⟩) (Kd.R_far (p := ⟨gb197, 1, none⟩) (Kd.R_far (p := ⟨gb197, 0, none⟩) (Kd.R_types HO189.out BK197.out (by decide)) (fun _ hk => hk.2) (.string t191)) (fun _ hk => hk.2) (.string t192)) (fun _ hk => hk.2) (.slice Ao18 t193.length co18)) (fun _ h_ => h_.1))) (Kd.R_base ho0) hb); have n1_ := Aside0.mk (Kd.R_elder' (by (with_reducible repeat (first | apply Kd.R_alloc | apply Kd.R_drewN | apply Kd.R_drew)); exact (Kd.R_mono (Kd.R_far (p := ⟨gb197, 2, none⟩) (Kd.R_far (p := ⟨gb197, 1, none⟩) (Kd.R_far (p := ⟨gb197, 0, none⟩) (Kd.R_types HO195.out BK197.out (by decide)) (fun _ hk => hk.2) (.string t191)) (fun _ hk => hk.2) (.string t192)) (fun _ hk => hk.2) (.slice Ao18 t193.length co18)) (fun _ h_ => h_.1))) (Kd.R_base ho0) hb); have n2_ := Aside0.mk (Kd.R_lower (Kd.R_new' (Kd.R_new' ho0 (Kd.R_lt (by (with_reducible repeat (first | apply Kd.R_alloc | apply Kd.R_drewN | apply Kd.R_drew)); exact (Kd.R_mono (Kd.R_far (p := ⟨gb197, 2, none⟩) (Kd.R_far (p := ⟨gb197, 1, none⟩) (Kd.R_far (p := ⟨gb197, 0, none⟩) (Kd.R_types HO189.out BK197.out (by decide)) (fun _ hk => hk.2) (.string t191)) (fun _ hk => hk.2) (.string t192)) (fun _ hk => hk.2) (.slice Ao18 t193.length co18)) (fun _ h_ => h_.1))))) (Kd.R_lt (by (with_reducible repeat (first | apply Kd.R_alloc | apply Kd.R_drewN | apply Kd.R_drew)); exact (Kd.R_mono (Kd.R_far (p := ⟨gb197, 2, none⟩) (Kd.R_far (p := ⟨gb197, 1, none⟩) (Kd.R_far (p := ⟨gb197, 0, none⟩) (Kd.R_types HO195.out BK197.out (by decide)) (fun _ hk => hk.2) (.string t191)) (fun _ hk => hk.2) (.string t192)) (fun _ hk => hk.2) (.slice Ao18 t193.length co18)) (fun _ h_ => h_.1))))) (below_size (by repeat (first | (with_reducible first | exact HB.out | apply below_alloc | apply pw_below_drewN | apply below_drew1 | refine below_set ?_ GE190.out | refine below_set ?_ GE197.out) | exact HB.out)))); have n3_ := Aside0.mk (blk_below (g := gb190) (o := .cells #[.string (⟨#[97]⟩ : ByteArray), .string (⟨#[98]⟩ : ByteArray), .slice Ao11 y187.length co11] 34 (0, 0)) (by (with_reducible repeat (first | refine blk_drewN ?_ _ | refine blk_drew ?_ | refine blk_alloc ?_ _)); refine blk_far ?_ NB190_197.out _; (with_reducible repeat (first | refine blk_drewN ?_ _ | refine blk_drew ?_ | refine blk_alloc ?_ _)); refine blk_far ?_ NB190_197.out _; (with_reducible repeat (first | refine blk_drewN ?_ _ | refine blk_drew ?_ | refine blk_alloc ?_ _)); refine blk_far ?_ NB190_197.out _; (with_reducible repeat (first | refine blk_drewN ?_ _ | refine blk_drew ?_ | refine blk_alloc ?_ _)); exact BK190.out) hb); have n4_ := Aside0.mk (blk_below (g := gb197) (o := .cells #[.string t191, .string t192, .slice Ao18 t193.length co18] 34 (0, 0)) (by (with_reducible repeat (first | refine blk_drewN ?_ _ | refine blk_drew ?_ | refine blk_alloc ?_ _)); refine blk_put (cs := #[.string t191, .string t192, .slice none 0 0]) ?_ 2 _ rfl; (with_reducible repeat (first | refine blk_drewN ?_ _ | refine blk_drew ?_ | refine blk_alloc ?_ _)); refine blk_put (cs := #[.string t191, .string (⟨#[]⟩ : ByteArray), .slice none 0 0]) ?_ 1 _ rfl; (with_reducible repeat (first | refine blk_drewN ?_ _ | refine blk_drew ?_ | refine blk_alloc ?_ _)); refine blk_put (cs := #[.string (⟨#[]⟩ : ByteArray), .string (⟨#[]⟩ : ByteArray), .slice none 0 0]) ?_ 0 _ rfl; (with_reducible repeat (first | refine blk_drewN ?_ _ | refine blk_drew ?_ | refine blk_alloc ?_ _)); exact BK197.out) hb); have n5_ := Aside0.mk (below_step (by repeat (first | (with_reducible first | exact HB.out | apply below_alloc | apply pw_below_drewN | apply below_drew1 | refine below_set ?_ GE190.out | refine below_set ?_ GE197.out) | exact HB.out)) hb); clear HO189; clear HO195; clear BK190; clear BK197; clear HB; have HO189 := n0_; have HO195 := n1_; have HO202 := n2_; have BK190 := n3_; have BK197 := n4_; have HB := n5_; clear n0_ n1_ n2_ n3_ n4_ n5_; (try clear hb); (try clear hb2); (try clear hk); (try clear hi); (try clear ho0)) | ((with_reducible refine gate_dst (N := 4) rfl ?_); (try (refine gate_guard (by rfl) ?_; dsimp only)); refine box_event ?hg (N := 4) ?hd (cs := #[.string (⟨#[]⟩ : ByteArray), .string (⟨#[]⟩ : ByteArray), .slice none 0 0]) (t := 34) ?hr ?_; (case hd => rfl); (case hg => rfl); (case hr => first | (go_simp; done) | (go_simp; rfl)); intro gb204 hg w20 hbox hb; have n0_ := Aside0.mk (Kd.R_below (by (with_reducible repeat (first | apply Kd.R_alloc | apply Kd.R_drewN | apply Kd.R_drew)); exact HO189.out) hb); have n1_ := Aside0.mk (Kd.R_below (by (with_reducible repeat (first | apply Kd.R_alloc | apply Kd.R_drewN | apply Kd.R_drew)); exact HO195.out) hb); have n2_ := Aside0.mk (Kd.R_below (by (with_reducible repeat (first | apply Kd.R_alloc | apply Kd.R_drewN | apply Kd.R_drew)); exact HO202.out) hb); have n3_ := Aside0.mk (blk_below (g := gb190) (o := .cells #[.string (⟨#[97]⟩ : ByteArray), .string (⟨#[98]⟩ : ByteArray), .slice Ao11 y187.length co11] 34 (0, 0)) (by (with_reducible repeat (first | refine blk_drewN ?_ _ | refine blk_drew ?_ | refine blk_alloc ?_ _)); exact BK190.out) hb); have n4_ := Aside0.mk (blk_below (g := gb197) (o := .cells #[.string t191, .string t192, .slice Ao18 t193.length co18] 34 (0, 0)) (by (with_reducible repeat (first | refine blk_drewN ?_ _ | refine blk_drew ?_ | refine blk_alloc ?_ _)); exact BK197.out) hb); have n5_ := Aside0.mk (below_step (by repeat (first | (with_reducible first | exact HB.out | apply below_alloc | apply pw_below_drewN | apply below_drew1 | refine below_set ?_ GE190.out | refine below_set ?_ GE197.out) | exact HB.out)) hb); have n6_ := Aside0.mk (hbox); have n7_ := Aside0.mk ((by rw [hg]; exact (below_size (by repeat (first | (with_reducible first | exact HB.out | apply below_alloc | apply pw_below_drewN | apply below_drew1 | refine below_set ?_ GE190.out | refine below_set ?_ GE197.out) | exact HB.out))) : w.heap.size ≤ gb204)); have n8_ := Aside0.mk ((by rw [hg]; exact (below_size (by repeat (first | (with_reducible first | exact HB.out | apply below_alloc | apply pw_below_drewN | apply below_drew1 | refine below_set ?_ GE190.out | refine below_set ?_ GE197.out) | exact HB.out))) : w.heap.size ≤ gb204)); have n9_ := Aside0.mk ((by rw [hg]; exact Nat.ne_of_lt (blk_lt (g := gb190) (o := .cells #[.string (⟨#[97]⟩ : ByteArray), .string (⟨#[98]⟩ : ByteArray), .slice Ao11 y187.length co11] 34 (0, 0)) (by (with_reducible repeat (first | refine blk_drewN ?_ _ | refine blk_drew ?_ | refine blk_alloc ?_ _)); exact BK190.out)) : gb190 ≠ gb204)); have n10_ := Aside0.mk ((by rw [hg]; exact Nat.ne_of_gt (blk_lt (g := gb190) (o := .cells #[.string (⟨#[97]⟩ : ByteArray), .string (⟨#[98]⟩ : ByteArray), .slice Ao11 y187.length co11] 34 (0, 0)) (by (with_reducible repeat (first | refine blk_drewN ?_ _ | refine blk_drew ?_ | refine blk_alloc ?_ _)); exact BK190.out)) : gb204 ≠ gb190)); have n11_ := Aside0.mk ((by rw [hg]; exact Nat.ne_of_lt (blk_lt (g := gb197) (o := .cells #[.string t191, .string t192, .slice Ao18 t193.length co18] 34 (0, 0)) (by (with_reducible repeat (first | refine blk_drewN ?_ _ | refine blk_drew ?_ | refine blk_alloc ?_ _)); exact BK197.out)) : gb197 ≠ gb204)); have n12_ := Aside0.mk ((by rw [hg]; exact Nat.ne_of_gt (blk_lt (g := gb197) (o := .cells #[.string t191, .string t192, .slice Ao18 t193.length co18] 34 (0, 0)) (by (with_reducible repeat (first | refine blk_drewN ?_ _ | refine blk_drew ?_ | refine blk_alloc ?_ _)); exact BK197.out)) : gb204 ≠ gb197)); clear HO189; clear HO195; clear HO202; clear BK190; clear BK197; clear HB; have HO189 := n0_; have HO195 := n1_; have HO202 := n2_; have BK190 := n3_; have BK197 := n4_; have HB := n5_; have BK204 := n6_; have GW204 := n7_; have GE204 := n8_; have NB190_204 := n9_; have NB204_190 := n10_; have NB197_204 := n11_; have NB204_197 := n12_; clear n0_ n1_ n2_ n3_ n4_ n5_ n6_ n7_ n8_ n9_ n10_ n11_ n12_; clear hb hbox hg; have hnb21 := NB204_190.out; have hnc21 := NB190_204.out; have hnb22 := NB204_197.out; have hnc22 := NB197_204.out; have hcz23_0 : w20.cell? ⟨gb204, 0, none⟩ = some (.string (⟨#[]⟩ : ByteArray)) := (blk_cell BK204.out 0).trans rfl; have hcz23_1 : w20.cell? ⟨gb204, 1, none⟩ = some (.string (⟨#[]⟩ : ByteArray)) := (blk_cell BK204.out 1).trans rfl; have hcz23_2 : w20.cell? ⟨gb204, 2, none⟩ = some (.slice none 0 0) := (blk_cell BK204.out 2).trans rfl; have hfz23_0 := blk_frozen BK204.out 0; have hfz23_1 := blk_frozen BK204.out 1; have hfz23_2 := blk_frozen BK204.out 2; obtain ⟨Ao24, co24, eo24⟩ := Kd.R_slice HO202.out; subst eo24; have hcz25_0 : w20.cell? ⟨gb197, 0, none⟩ = some (.string t191) := (blk_cell BK197.out 0).trans rfl; have hcz25_1 : w20.cell? ⟨gb197, 1, none⟩ = some (.string t192) := (blk_cell BK197.out 1).trans rfl; have hcz25_2 : w20.cell? ⟨gb197, 2, none⟩ = some (.slice Ao18 t193.length co18) := (blk_cell BK197.out 2).trans rfl; have hfz25_0 := blk_frozen BK197.out 0; have hfz25_1 := blk_frozen BK197.out 1; have hfz25_2 := blk_frozen BK197.out 2; have p205 : 0 ≤ (0 : Int) := (by omega); have q205 : 0 < (t193.length : Int) := of_decide_eq_true (by first | (with_reducible assumption) | assumption); obtain ⟨ad205, e205, hx205_0, hx205_1⟩ := at_T31 (Kd.R_reads' HO195.out).2.2 0 p205 q205; cases e205; have qi205 : (0 < t193.length) = True := eq_true (by omega); (try rw [show ((0 : Int)).toNat = 0 from rfl] at hx205_0); (try rw [show 0 * 2 = 0 from rfl] at hx205_0); (try rw [Addr.add_zero'] at hx205_0); (try rw [show ((0 : Int)).toNat = 0 from rfl] at hx205_1); (try rw [show 0 * 2 = 0 from rfl] at hx205_1); (try rw [Addr.add_zero'] at hx205_1); have hn205_0 : ad205.block ≠ gb204 := Kd.own_blk (Kd.R_ne HO195.out BK204.out (by decide)); have hn205_1 : ad205.block ≠ gb204 := Kd.own_blk (Kd.R_ne HO195.out BK204.out (by decide)); have hn205_2 : ad205.block ≠ gb204 := Kd.own_blk (Kd.R_ne HO195.out BK204.out (by decide)); replace hx205_0 := (cell_far (p := ⟨gb204, 0, none⟩) (by first | (rw [add_block]; exact hn205_0) | (show (Addr.add _ _).block ≠ _; rw [add_block]; exact hn205_0) | exact hn205_0) (.string t198)).trans hx205_0; replace hx205_1 := (cell_far (p := ⟨gb204, 0, none⟩) (by first | (rw [add_block]; exact hn205_0) | (show (Addr.add _ _).block ≠ _; rw [add_block]; exact hn205_0) | exact hn205_0) (.string t198)).trans hx205_1; replace hx205_0 := (cell_far (p := ⟨gb204, 1, none⟩) (by first | (rw [add_block]; exact hn205_1) | (show (Addr.add _ _).block ≠ _; rw [add_block]; exact hn205_1) | exact hn205_1) (.string t199)).trans hx205_0; replace hx205_1 := (cell_far (p := ⟨gb204, 1, none⟩) (by first | (rw [add_block]; exact hn205_1) | (show (Addr.add _ _).block ≠ _; rw [add_block]; exact hn205_1) | exact hn205_1) (.string t199)).trans hx205_1; replace hx205_0 := (cell_far (p := ⟨gb204, 2, none⟩) (by first | (rw [add_block]; exact hn205_2) | (show (Addr.add _ _).block ≠ _; rw [add_block]; exact hn205_2) | exact hn205_2) (.slice Ao24 t200.length co24)).trans hx205_0; replace hx205_1 := (cell_far (p := ⟨gb204, 2, none⟩) (by first | (rw [add_block]; exact hn205_2) | (show (Addr.add _ _).block ≠ _; rw [add_block]; exact hn205_2) | exact hn205_2) (.slice Ao24 t200.length co24)).trans hx205_1; clear hn205_0; clear hn205_1; clear hn205_2; replace p205 := eq_true p205; replace q205 := eq_true q205) | (go_at_call 8; (refine (extra_Code.calls _ _ [97, 32, 98] t209 _ ?side1 ?side2 A8.out).mono ?_); (case side1 => exact Ex.lit_C _ _ (by first | rfl | simp) [97, 32, 98] (by decide)); (case side2 => exact Nat.le_refl _); rintro e w29 ⟨rfl, hb⟩; have n7_ := Aside0.mk (below_step (below_alloc (by repeat (first | (with_reducible first | exact HB.out | apply below_alloc | apply pw_below_drewN | apply below_drew1 | refine below_set ?_ GE190.out | refine below_set ?_ GE197.out | refine below_set ?_ GE204.out) | exact HB.out)) _) hb); clear HB; have HB := n7_; clear n7_; (try clear hb)))
            go_ret
            exact ⟨by first | rfl | (simp [errW_none, errW_some] <;> rfl) | (simp [*, errW_none, errW_some] <;> rfl), by repeat (first | (with_reducible first | exact HB.out | apply below_alloc | apply pw_below_drewN | apply below_drew1 | refine below_set ?_ GE190.out | refine below_set ?_ GE197.out | refine below_set ?_ GE204.out) | exact HB.out)⟩
          · rw [if_neg c7] at H
            have c7b0 : (t203 == 70) = false := beq_eq_false_iff_ne.mpr c7
            have c7b1 : (t203 != 70) = true := bne_iff_ne.mpr c7
            exact absurd (Option.some.inj H) (by rw [hr_.out]; decide)
        · rw [if_neg c6] at H
          have c6b0 : ((((rd_T31 t193 0).f0).toList) == ([110, 97, 109, 101] : List UInt8) && ((((rd_T31 t193 0).f1).toList) == ([97, 32, 98] : List UInt8))) = false := by simpa using c6
          (try (have c6b1 : decide ((((rd_T31 t193 0).f0).toList) = ([110, 97, 109, 101] : List UInt8) && ((((rd_T31 t193 0).f1).toList) == ([97, 32, 98] : List UInt8))) = false := by simpa using c6))
          (try (have c6b2 : ((((rd_T31 t193 0).f0).toList) == ([110, 97, 109, 101] : List UInt8) && ((((rd_T31 t193 0).f1).toList) == ([97, 32, 98] : List UInt8))) = false := by simpa using c6))
          (try (have c6b3 : ¬ ((((rd_T31 t193 0).f0).toList) = ([110, 97, 109, 101] : List UInt8) && ((((rd_T31 t193 0).f1).toList) == ([97, 32, 98] : List UInt8))) := by simpa using c6))
          clear c6
          exact absurd (Option.some.inj H) (by rw [hr_.out]; decide)
      · rw [if_neg c5] at H
        exact absurd H (by simp)
    · rw [if_neg c4] at H
      have c4b0 : ((t193.length : Int) == 1) = false := beq_eq_false_iff_ne.mpr c4
      have c4b1 : ((t193.length : Int) != 1) = true := bne_iff_ne.mpr c4
      exact absurd (Option.some.inj H) (by rw [hr_.out]; decide)
  · rw [if_neg c3] at H
    have c3b0 : (t196 == 0) = false := beq_eq_false_iff_ne.mpr c3
    have c3b1 : (t196 != 0) = true := bne_iff_ne.mpr c3
    exact absurd (Option.some.inj H) (by rw [hr_.out]; decide)

/-! ### posthornref19_hex: function 12 -/
mutual
def posthornref19_hex.j0 : Nat → Int → Bool → Option (Int)
  | 0, _, _ => none
  | k + 1, x0, x8 => if x8 = true then (some (wrap64 ((wrap64 (x0)) - 48))) else (if x0 ≥ 65 then (posthornref19_hex.j1 k x0 (decide (x0 ≤ 70))) else (posthornref19_hex.j1 k x0 false))
def posthornref19_hex.j1 : Nat → Int → Bool → Option (Int)
  | 0, _, _ => none
  | k + 1, x0, x17 => if x17 = true then (some (wrap64 ((wrap64 (x0)) - 55))) else (if x0 ≥ 97 then (if x0 ≤ 102 then (some (wrap64 ((wrap64 (x0)) - 87))) else (some (-1))) else (some (-1)))
end
def posthornref19_hex.f (k : Nat) (a0 : Int) : Option (Int) := if a0 ≥ 48 then (posthornref19_hex.j0 k a0 (decide (a0 ≤ 57))) else (posthornref19_hex.j0 k a0 false)
theorem posthornref19_hex.mono_l : ∀ k, (∀ y0 y1, LeO (posthornref19_hex.j0 k y0 y1) (posthornref19_hex.j0 (k + 1) y0 y1)) ∧ (∀ y0 y1, LeO (posthornref19_hex.j1 k y0 y1) (posthornref19_hex.j1 (k + 1) y0 y1))
  | 0 => ⟨fun _ _ r h => by simp [posthornref19_hex.j0] at h, fun _ _ r h => by simp [posthornref19_hex.j1] at h⟩
  | k + 1 => by
    obtain ⟨ih0, ih1⟩ := posthornref19_hex.mono_l k
    refine ⟨?_, ?_⟩
    · intro y0 y1
      unfold posthornref19_hex.j0
      repeat' first
      | (with_reducible exact ih0 _ _)
      | (with_reducible exact ih1 _ _)
      | (with_reducible exact LeO.refl _)
      | (with_reducible exact LeO.none _)
      | (with_reducible refine LeO.ite ?_ ?_)
      | (with_reducible refine LeO.bind ?_ (fun _ => ?_))
      | exact ih0 _ _
      | exact ih1 _ _
      | exact LeO.none _
      | refine LeO.ite ?_ ?_
      | refine LeO.bind ?_ (fun _ => ?_)
    · intro y0 y1
      unfold posthornref19_hex.j1
      repeat' first
      | (with_reducible exact ih0 _ _)
      | (with_reducible exact ih1 _ _)
      | (with_reducible exact LeO.refl _)
      | (with_reducible exact LeO.none _)
      | (with_reducible refine LeO.ite ?_ ?_)
      | (with_reducible refine LeO.bind ?_ (fun _ => ?_))
      | exact ih0 _ _
      | exact ih1 _ _
      | exact LeO.none _
      | refine LeO.ite ?_ ?_
      | refine LeO.bind ?_ (fun _ => ?_)
theorem posthornref19_hex.mono : ∀ a0 k, LeO (posthornref19_hex.f k a0) (posthornref19_hex.f (k + 1) a0) := by
  intro a0 k
  obtain ⟨ih0, ih1⟩ := posthornref19_hex.mono_l k
  unfold posthornref19_hex.f
  repeat' first
      | (with_reducible exact ih0 _ _)
      | (with_reducible exact ih1 _ _)
      | (with_reducible exact LeO.refl _)
      | (with_reducible exact LeO.none _)
      | (with_reducible refine LeO.ite ?_ ?_)
      | (with_reducible refine LeO.bind ?_ (fun _ => ?_))
      | exact ih0 _ _
      | exact ih1 _ _
      | exact LeO.none _
      | refine LeO.ite ?_ ?_
      | refine LeO.bind ?_ (fun _ => ?_)
set_option maxHeartbeats 8000000 in
set_option maxRecDepth 100000 in
theorem posthornref19_hex.calls (k : Nat) (a0 : Int) (r : Int) (w : World) (h : posthornref19_hex.f k a0 = some r) :
    Calls Tryd.prog 12 #[.int .u8 a0] w fun e w' => e = .returned (.int .i64 r) ∧ Drawn0 w w' := by
  have H : (if a0 ≥ 48 then (posthornref19_hex.j0 k a0 (decide (a0 ≤ 57))) else (posthornref19_hex.j0 k a0 false)) = some r := h
  clear h
  have HC2 := Aside0.mk H
  clear H
  go_enter Tryd.func12, Tryd.ntmps12
  go_upto_region 1 with (fail)
  go_cut [8] (fun v8 wc => ∃ (kq : Nat) (x8_1 : Bool), v8 = .bool x8_1 ∧ Aside0 (posthornref19_hex.j0 kq a0 x8_1 = some r) ∧ Aside0 (kq ≤ k) ∧ Drawn0 w wc)
  case first =>
    have H := HC2.out
    clear HC2
    by_cases c3 : a0 ≥ 48
    · rw [if_pos c3] at H
      have c3b0 : decide (48 ≤ a0) = true := decide_eq_true c3
      clear c3
      (first | rw [c3b0] | (simp only [i64_w, i32_w]; rw [c3b0]) | skip)
      have H' := Aside0.mk H
      clear H
      go_wp2
      go_meet
      case rel => exact ⟨_, (decide (a0 ≤ 57)), (by first | rfl | (simp; done) | (simp [*]; done)), H', ⟨by first | omega | exact Nat.le_refl _⟩, by repeat (first | exact Drawn0.refl _ | apply Drawn0.step)⟩
    · rw [if_neg c3] at H
      have c3b0 : decide (48 ≤ a0) = false := decide_eq_false c3
      clear c3
      (first | rw [c3b0] | (simp only [i64_w, i32_w]; rw [c3b0]) | skip)
      have H' := Aside0.mk H
      clear H
      go_wp2
      go_meet
      case rel => exact ⟨_, (false), (by first | rfl | (simp; done) | (simp [*]; done)), H', ⟨by first | omega | exact Nat.le_refl _⟩, by repeat (first | exact Drawn0.refl _ | apply Drawn0.step)⟩
  case rest =>
    clear HC2
    try clear c1
    try clear p2
    try clear c3
    try clear c3b0
    obtain ⟨kq, x8_1, rfl, HA, HJ1, ⟨mc1, rfl⟩⟩ := hcut
    cases kq with
    | zero => exact absurd HA.out (by simp [posthornref19_hex.j0])
    | succ kj1 =>
      have H := HA.out
      clear HA
      simp only [posthornref19_hex.j0] at H
      by_cases c4 : x8_1 = true
      · subst c4
        have H1 : (some (wrap64 ((wrap64 (a0)) - 48))) = some r := by rw [if_pos rfl] at H; exact H
        clear H
        have H := H1
        clear H1
        obtain rfl := Option.some.inj H
        go_wp2
        go_ret
        exact ⟨by first | rfl | (simp; done) | (simp [*]; done), by repeat (first | exact Drawn0.refl _ | apply Drawn0.step)⟩
      · replace c4 := Bool.eq_false_iff.mpr c4
        subst c4
        have H1 : (if a0 ≥ 65 then (posthornref19_hex.j1 kj1 a0 (decide (a0 ≤ 70))) else (posthornref19_hex.j1 kj1 a0 false)) = some r := by rw [if_neg (show ¬ (false = true) by decide)] at H; exact H
        clear H
        have H := H1
        clear H1
        have HC5 := Aside0.mk H
        clear H
        go_upto_region 3 with (fail)
        go_cut [17] (fun v17 wc => ∃ (kq : Nat) (x17_4 : Bool), v17 = .bool x17_4 ∧ Aside0 (posthornref19_hex.j1 kq a0 x17_4 = some r) ∧ Aside0 (kq ≤ kj1) ∧ Drawn0 w wc)
        case first =>
          have H := HC5.out
          clear HC5
          by_cases c6 : a0 ≥ 65
          · rw [if_pos c6] at H
            have c6b0 : decide (65 ≤ a0) = true := decide_eq_true c6
            clear c6
            (first | rw [c6b0] | (simp only [i64_w, i32_w]; rw [c6b0]) | skip)
            have H' := Aside0.mk H
            clear H
            go_wp2
            go_meet
            case rel => exact ⟨_, (decide (a0 ≤ 70)), (by first | rfl | (simp; done) | (simp [*]; done)), H', ⟨by have := HJ1.out; first | omega | exact Nat.le_refl _⟩, by repeat (first | exact Drawn0.refl _ | apply Drawn0.step)⟩
          · rw [if_neg c6] at H
            have c6b0 : decide (65 ≤ a0) = false := decide_eq_false c6
            clear c6
            (first | rw [c6b0] | (simp only [i64_w, i32_w]; rw [c6b0]) | skip)
            have H' := Aside0.mk H
            clear H
            go_wp2
            go_meet
            case rel => exact ⟨_, (false), (by first | rfl | (simp; done) | (simp [*]; done)), H', ⟨by have := HJ1.out; first | omega | exact Nat.le_refl _⟩, by repeat (first | exact Drawn0.refl _ | apply Drawn0.step)⟩
        case rest =>
          clear HC5
          try clear c1
          try clear p2
          try clear c3
          try clear c3b0
          try clear c4
          try clear c6
          try clear c6b0
          try clear p6
          try clear p2
          obtain ⟨kq, x17_4, rfl, HA, HJ4, ⟨mc4, rfl⟩⟩ := hcut
          cases kq with
          | zero => exact absurd HA.out (by simp [posthornref19_hex.j1])
          | succ kj4 =>
            have H := HA.out
            clear HA
            simp only [posthornref19_hex.j1] at H
            by_cases c7 : x17_4 = true
            · subst c7
              have H1 : (some (wrap64 ((wrap64 (a0)) - 55))) = some r := by rw [if_pos rfl] at H; exact H
              clear H
              have H := H1
              clear H1
              obtain rfl := Option.some.inj H
              go_wp2
              go_ret
              exact ⟨by first | rfl | (simp; done) | (simp [*]; done), by repeat (first | exact Drawn0.refl _ | apply Drawn0.step)⟩
            · replace c7 := Bool.eq_false_iff.mpr c7
              subst c7
              have H1 : (if a0 ≥ 97 then (if a0 ≤ 102 then (some (wrap64 ((wrap64 (a0)) - 87))) else (some (-1))) else (some (-1))) = some r := by rw [if_neg (show ¬ (false = true) by decide)] at H; exact H
              clear H
              have H := H1
              clear H1
              by_cases c8 : a0 ≥ 97
              · rw [if_pos c8] at H
                have c8b0 : decide (97 ≤ a0) = true := decide_eq_true c8
                clear c8
                by_cases c9 : a0 ≤ 102
                · rw [if_pos c9] at H
                  have c9b0 : decide (a0 ≤ 102) = true := decide_eq_true c9
                  clear c9
                  obtain rfl := Option.some.inj H
                  go_wp2
                  go_ret
                  exact ⟨by first | rfl | (simp; done) | (simp [*]; done), by repeat (first | exact Drawn0.refl _ | apply Drawn0.step)⟩
                · rw [if_neg c9] at H
                  have c9b0 : decide (a0 ≤ 102) = false := decide_eq_false c9
                  clear c9
                  obtain rfl := Option.some.inj H
                  go_wp2
                  go_ret
                  exact ⟨by first | rfl | (simp; done) | (simp [*]; done), by repeat (first | exact Drawn0.refl _ | apply Drawn0.step)⟩
              · rw [if_neg c8] at H
                have c8b0 : decide (97 ≤ a0) = false := decide_eq_false c8
                clear c8
                obtain rfl := Option.some.inj H
                go_wp2
                go_ret
                exact ⟨by first | rfl | (simp; done) | (simp [*]; done), by repeat (first | exact Drawn0.refl _ | apply Drawn0.step)⟩

end Go.Proofs.YtlkonnkglbfkbaaDoor.PE

-- Written by a program of the session (wip/tools).
import Derived.Test.YtlplmkllmgdifaaPZx0
import Derived.Test.YtlplmkllmgdifaaPZx1
import Derived.Test.YtlplmkllmgdifaaPZx4
import Derived.Test.YtlplmkllmgdifaaPZx12
import Derived.Test.YtlplmkllmgdifaaPZx13
import Derived.Test.YtlplmkllmgdifaaPZx14
namespace Go.Proofs.Ytlplmkllmgdifaa.PZ
open Go.RowKit Go.Proofs.YtlplmkllmgdifaaW.PrintWords Go.Proofs.YtlplmkllmgdifaaW.PrintLast Go.Proofs.YtlplmkllmgdifaaW.PrintMore
attribute [local go_sem] max2_int min2_int max_two min_two max_three min_three max_four min_four   -- for this text's walks alone
set_option linter.unusedVariables false
set_option linter.unusedSimpArgs false

/-! ### slices_Sort_int64_int64: function 42 -/
def slices_Sort_int64_int64.f (k : Nat) (l0 : List Int) : Option (List Int) := (bits_Len.f (IntKind.u64.wrap ((l0.length : Int)))).bind fun t254 => ((slices_pdqsortOrdered_int64.f k l0 0 (l0.length : Int) t254).bind fun t255 => (some t255))
theorem slices_Sort_int64_int64.mono : ∀ a0 k, LeO (slices_Sort_int64_int64.f k a0) (slices_Sort_int64_int64.f (k + 1) a0) := by
 intro a0 k
 unfold slices_Sort_int64_int64.f
 repeat' first
   | (with_reducible exact slices_pdqsortOrdered_int64.mono ..)
   | (with_reducible exact LeO.refl ..)
   | (with_reducible exact LeO.none ..)
   | (with_reducible refine LeO.ite ?_ ?_)
   | (with_reducible refine LeO.bind ?_ (fun _ => ?_))
   | exact slices_pdqsortOrdered_int64.mono ..
   | exact LeO.none ..
   | refine LeO.ite ?_ ?_
   | refine LeO.bind ?_ (fun _ => ?_)
set_option maxHeartbeats 8000000 in
set_option maxRecDepth 100000 in
theorem slices_Sort_int64_int64.calls (k : Nat) (P0_ : Nat → Prop) (u9000_ : Value) (l0 : List Int) (r : List Int) (w0 w : World) (hB : Below w0.heap.size w0 w) (ho0 : Kd.R (Kd.int .i64) 2 w w0.heap.size P0_ u9000_ l0) (h : slices_Sort_int64_int64.f k l0 = some r) :
  Calls Try.prog 42 #[u9000_] w fun e w' => e = .returned (.tuple #[]) ∧ Kd.R (Kd.int .i64) 2 w' w0.heap.size (fun k_ => (P0_ k_ ∨ w.heap.size ≤ k_)) u9000_ r ∧ Below w0.heap.size w0 w' ∧ Kept w w' (fun k_ => P0_ k_) := by
 have HO0 := ad_ (show Kd.R (Kd.int .i64) 2 w w0.heap.size (fun k_ => (P0_ k_ ∨ w.heap.size ≤ k_)) u9000_ l0 from Kd.R_mono ho0 (fun k_ hk => (.inl hk)))
 have HK := ad_ (Kept.refl w (fun k_ => P0_ k_))
 have HW0 := Aside0.mk hB.size
 have HB := Aside0.mk hB
 clear hB
 have H : ((bits_Len.f (IntKind.u64.wrap ((l0.length : Int)))).bind fun t254 => ((slices_pdqsortOrdered_int64.f k l0 0 (l0.length : Int) t254).bind fun t255 => (some t255))) = some r := h
 clear h
 replace H := Option.bind_eq_some_iff.mp H
 obtain ⟨t254, A20, H⟩ := H
 try dsimp only at H
 have A2 := Aside0.mk A20
 clear A20
 replace H := Option.bind_eq_some_iff.mp H
 obtain ⟨t255, A30, H⟩ := H
 try dsimp only at H
 have A3 := Aside0.mk A30
 clear A30
 obtain rfl := Option.some.inj H
 obtain ⟨Ao4, co4, eo4⟩ := Kd.R_slice HO0.out
 subst eo4
 go_enter Try.func42, Try.ntmps42
 go_wp2_with (first | ((with_reducible refine gate_callee (f := 55) rfl ?_); refine goesL_ (some 9) rfl rfl Try.func55 (by kernel_rfl) rfl #[.int .u64 (IntKind.u64.wrap ((l0.length : Int)))] rfl arg_ ?_; (with_reducible refine (bits_Len.calls (IntKind.u64.wrap ((l0.length : Int))) t254 _ A2.out).mono ?_); rintro e w' ⟨rfl, ⟨nd, rfl⟩⟩; refine ⟨_, rfl, ?_⟩) | ((with_reducible refine gate_callee (f := 54) rfl ?_); refine goesL_ (some 10) rfl rfl Try.func54 (by kernel_rfl) rfl #[.slice Ao4 l0.length co4, .int .i64 0, .int .i64 (l0.length : Int), .int .i64 t254] rfl arg_ ?_; (with_reducible refine (slices_pdqsortOrdered_int64.calls k (fun k_ => some k_ = (.slice Ao4 l0.length co4 : Value).ownBlock) (.slice Ao4 l0.length co4) l0 0 (l0.length : Int) t254 t255 w0 _ ?side1 ?side2 A3.out).mono ?_); (case side1 => repeat (first | (with_reducible first | exact HB.out | apply below_alloc | apply pw_below_drewN | apply below_drew1) | exact HB.out)); (case side2 => exact Kd.R_tight rfl HO0.out); rintro e w5 ⟨rfl, hy0, hb, hkp⟩; refine ⟨_, rfl, ?_⟩; have n0_ := ad_ (Kd.R_reok rfl hy0 (fun k_ e_ => HO0.out.1 k_ e_)); have n1_ := ad_ (Kept.then_ (S := (fun k_ => P0_ k_)) kep_ hkp (fun k_ hs_ => (fun e_ => (HO0.out.1 k_ e_.symm)) hs_)); have n2_ := ad_ (hb); clear HO0; clear HK; clear HB; have HO0 := n0_; have HK := n1_; have HB := n2_; clear n0_ n1_ n2_; (try clear hb); (try clear hkp); (try clear hy0)))
 first | go_end0 | ((try simp only [Exit.inBlock, Exit.then]); refine bodyPost_ret (results_none rfl _ _ _) rfl ?_)
 exact ⟨ret_, by (with_reducible repeat (first | apply Kd.R_alloc | apply Kd.R_drewN | apply Kd.R_drew)); exact HO0.out, bel_, kep_⟩

/-! ### zone_Moments: function 17 -/
def zone_Moments.l0 : Nat → Int → List Int → List Int → Int → Int → ByteArray → Int → List (S42) → Option (List Int × Int)
 | 0, _, _, _, _, _, _, _, _ => none
 | k + 1, x1, x6, x19, x20, x21, x257000, x257001, x257002 => if x21 < x20 then (if 0 ≤ x21 then (if x21 < (x19.length : Int) then ((when_Right.f (wrap64 (x1 - (rd x19 x21)))).bind fun t264 => (if t264 = true then ((zone_Zone_shift.f k x257000 x257001 x257002 (wrap64 (x1 - (rd x19 x21)))).bind fun t265 => (if t265 = (rd x19 x21) then ((slices_Contains_int64_int64.f k x6 (wrap64 (x1 - (rd x19 x21)))).bind fun t266 => (if t266 = true then (zone_Moments.l0 k x1 x6 x19 x20 (wrap64 (x21 + 1)) x257000 x257001 x257002) else (if x6.length < 17592186044416 then (zone_Moments.l0 k x1 (x6 ++ [wrap64 (x1 - (rd x19 x21))]) x19 x20 (wrap64 (x21 + 1)) x257000 x257001 x257002) else (none)))) else (zone_Moments.l0 k x1 x6 x19 x20 (wrap64 (x21 + 1)) x257000 x257001 x257002))) else (zone_Moments.l0 k x1 x6 x19 x20 (wrap64 (x21 + 1)) x257000 x257001 x257002))) else (none)) else (none)) else ((slices_Sort_int64_int64.f k x6).bind fun t262 => (some (t262, 0)))
def zone_Moments.f (k : Nat) (a0_0 : ByteArray) (a0_1 : Int) (l0_2 : List (S42)) (a1 : Int) : Option (List Int × Int) := (zone_Right.f k a0_0 a0_1 l0_2).bind fun t257 => (if t257 = true then ((when_Right.f a1).bind fun t258 => (if t258 = true then ((zone_Zone_shifts.f k a0_0 a0_1 l0_2).bind fun t259 => (zone_Moments.l0 k a1 ([] : List Int) t259 (t259.length : Int) 0 a0_0 a0_1 l0_2)) else (some (([] : List Int), 110)))) else (some (([] : List Int), 3)))
theorem zone_Moments.mono_l : ∀ k, (∀ y0 y1 y2 y3 y4 y5 y6 y7, LeO (zone_Moments.l0 k y0 y1 y2 y3 y4 y5 y6 y7) (zone_Moments.l0 (k + 1) y0 y1 y2 y3 y4 y5 y6 y7))
 | 0 => fun _ _ _ _ _ _ _ _ r h => by simp [zone_Moments.l0] at h
 | k + 1 => by
  have ih0 := zone_Moments.mono_l k
  ·intro y0 y1 y2 y3 y4 y5 y6 y7
   unfold zone_Moments.l0
   repeat' first
   | (with_reducible exact ih0 ..)
   | (with_reducible exact slices_Contains_int64_int64.mono ..)
   | (with_reducible exact slices_Sort_int64_int64.mono ..)
   | (with_reducible exact zone_Right.mono ..)
   | (with_reducible exact zone_Zone_shift.mono ..)
   | (with_reducible exact zone_Zone_shifts.mono ..)
   | (with_reducible exact LeO.refl ..)
   | (with_reducible exact LeO.none ..)
   | (with_reducible refine LeO.ite ?_ ?_)
   | (with_reducible refine LeO.bind ?_ (fun _ => ?_))
   | exact ih0 ..
   | exact slices_Contains_int64_int64.mono ..
   | exact slices_Sort_int64_int64.mono ..
   | exact zone_Right.mono ..
   | exact zone_Zone_shift.mono ..
   | exact zone_Zone_shifts.mono ..
   | exact LeO.none ..
   | refine LeO.ite ?_ ?_
   | refine LeO.bind ?_ (fun _ => ?_)
theorem zone_Moments.mono : ∀ a0 a1 a2 a3 k, LeO (zone_Moments.f k a0 a1 a2 a3) (zone_Moments.f (k + 1) a0 a1 a2 a3) := by
 intro a0 a1 a2 a3 k
 have ih0 := zone_Moments.mono_l k
 unfold zone_Moments.f
 repeat' first
   | (with_reducible exact ih0 ..)
   | (with_reducible exact slices_Contains_int64_int64.mono ..)
   | (with_reducible exact slices_Sort_int64_int64.mono ..)
   | (with_reducible exact zone_Right.mono ..)
   | (with_reducible exact zone_Zone_shift.mono ..)
   | (with_reducible exact zone_Zone_shifts.mono ..)
   | (with_reducible exact LeO.refl ..)
   | (with_reducible exact LeO.none ..)
   | (with_reducible refine LeO.ite ?_ ?_)
   | (with_reducible refine LeO.bind ?_ (fun _ => ?_))
   | exact ih0 ..
   | exact slices_Contains_int64_int64.mono ..
   | exact slices_Sort_int64_int64.mono ..
   | exact zone_Right.mono ..
   | exact zone_Zone_shift.mono ..
   | exact zone_Zone_shifts.mono ..
   | exact LeO.none ..
   | refine LeO.ite ?_ ?_
   | refine LeO.bind ?_ (fun _ => ?_)
set_option maxHeartbeats 8000000 in
set_option maxRecDepth 100000 in
theorem zone_Moments.calls (k : Nat) (a0_0 : ByteArray) (a0_1 : Int) (A0_2 : Option Addr) (c0_2 : Nat) (l0_2 : List (S42)) (a1 : Int) (r1 : List Int) (r2 : Int) (w : World) (hr0_2 : Kd.C k42 w A0_2 l0_2.length l0_2) (hc0_2 : l0_2.length ≤ c0_2) (h : zone_Moments.f k a0_0 a0_1 l0_2 a1 = some (r1, r2)) :
  Calls Try.prog 17 #[.agg #[.string a0_0, .int .i64 a0_1, .slice A0_2 l0_2.length c0_2], .int .i64 a1] w fun e w' => ∃ v0_ : Value, e = .returned (.tuple #[v0_, .int .i64 r2]) ∧ Kd.R (Kd.int .i64) 2 w' w.heap.size (fun _ => True) v0_ r1 ∧ Below w.heap.size w w' := by
 have hu24 := Try.underlying24
 have HR0_2 := Aside0.mk hr0_2
 have HC0_2 := Aside0.mk hc0_2
 clear hr0_2 hc0_2
 have HB := ad_ (Below.refl w.heap.size w)
 have H : ((zone_Right.f k a0_0 a0_1 l0_2).bind fun t257 => (if t257 = true then ((when_Right.f a1).bind fun t258 => (if t258 = true then ((zone_Zone_shifts.f k a0_0 a0_1 l0_2).bind fun t259 => (zone_Moments.l0 k a1 ([] : List Int) t259 (t259.length : Int) 0 a0_0 a0_1 l0_2)) else (some (([] : List Int), 110)))) else (some (([] : List Int), 3)))) = some (r1, r2) := h
 clear h
 replace H := Option.bind_eq_some_iff.mp H
 obtain ⟨t257, A30, H⟩ := H
 try dsimp only at H
 have A3 := Aside0.mk A30
 clear A30
 by_cases c4 : t257 = true
 ·subst c4
  have H1 := ifp_ H
  clear H
  have H := H1
  clear H1
  replace H := Option.bind_eq_some_iff.mp H
  obtain ⟨t258, A50, H⟩ := H
  try dsimp only at H
  have A5 := Aside0.mk A50
  clear A50
  by_cases c6 : t258 = true
  ·subst c6
   have H1 := ifp_ H
   clear H
   have H := H1
   clear H1
   replace H := Option.bind_eq_some_iff.mp H
   obtain ⟨t259, A70, H⟩ := H
   try dsimp only at H
   have A7 := Aside0.mk A70
   clear A70
   have H' := Aside0.mk H
   clear H
   go_enter Try.func17, Try.ntmps17
   go_wp2_with (first | ((with_reducible refine gate_dst (N := 2) rfl ?_); refine box_event ?hg (N := 2) ?hd (cs := #[.string a0_0, .int .i64 a0_1, .slice A0_2 l0_2.length c0_2]) (t := 24) ?hr ?_; (case hd => rfl); (case hg => rfl); (case hr => first | (go_simp; done) | (go_simp; rfl)); intro gb256 hg w8 hbox hb; have n0_ := ad_ (below_step bel_ hb); have n1_ := ad_ (hbox); have n2_ := ad_ ((by rw [hg]; exact (below_size bel_) : w.heap.size ≤ gb256)); have n3_ := ad_ ((by rw [hg]; exact (below_size bel_) : w.heap.size ≤ gb256)); clear HB; have HB := n0_; have BK256 := n1_; have GW256 := n2_; have GE256 := n3_; clear n0_ n1_ n2_ n3_; clear hb hbox hg; have hcz9_ := cells3_ BK256.out) | ((with_reducible refine gate_callee (f := 15) rfl ?_); refine goesL_ (some 12) rfl rfl Try.func15 (by kernel_rfl) rfl #[.agg #[.string a0_0, .int .i64 a0_1, .slice A0_2 l0_2.length c0_2]] rfl arg_ ?_; (with_reducible refine (zone_Right.calls k a0_0 a0_1 _ _ l0_2 true _ ?side1 ?side2 A3.out).mono ?_); (case side1 => exact cop_ (Kd.C_below HR0_2.out HB.out)); (case side2 => exact HC0_2.out); rintro e w10 ⟨rfl, hb⟩; refine ⟨_, rfl, ?_⟩; have n0_ := ad_ (blk_below (g := gb256) (o := .cells #[.string a0_0, .int .i64 a0_1, .slice A0_2 l0_2.length c0_2] 24 (0, 0)) (blo_ BK256.out) hb); have n1_ := ad_ (below_step belg_ hb); clear BK256; clear HB; have BK256 := n0_; have HB := n1_; clear n0_ n1_; (try clear hb); (try clear hb2); (try clear hk); (try clear hi)) | ((with_reducible refine gate_callee (f := 26) rfl ?_); refine goesL_ (some 16) rfl rfl Try.func26 (by kernel_rfl) rfl #[.int .i64 a1] rfl arg_ ?_; (with_reducible refine (when_Right.calls a1 true _ A5.out).mono ?_); rintro e w' ⟨rfl, ⟨nd, rfl⟩⟩; refine ⟨_, rfl, ?_⟩; have hcz11_ := cells3_ BK256.out) | ((with_reducible refine gate_callee (f := 40) rfl ?_); refine goesL_ (some 19) rfl rfl Try.func40 (by kernel_rfl) rfl #[.agg #[.string a0_0, .int .i64 a0_1, .slice A0_2 l0_2.length c0_2]] rfl arg_ ?_; (with_reducible refine (zone_Zone_shifts.calls k a0_0 a0_1 _ _ l0_2 t259 _ ?side1 ?side2 A7.out).mono ?_); (case side1 => exact cop_ (Kd.C_below HR0_2.out belg_)); (case side2 => exact HC0_2.out); rintro e w12 ⟨v260, rfl, ho0, hb⟩; refine ⟨_, rfl, ?_⟩; have n0_ := ad_ (Kd.R_lower ho0 (below_size belg_)); have n1_ := ad_ (blk_below (g := gb256) (o := .cells #[.string a0_0, .int .i64 a0_1, .slice A0_2 l0_2.length c0_2] 24 (0, 0)) (blo_ BK256.out) hb); have n2_ := ad_ (below_step belg_ hb); clear BK256; clear HB; have HO261 := n0_; have BK256 := n1_; have HB := n2_; clear n0_ n1_ n2_; (try clear hb); (try clear hb2); (try clear hk); (try clear hi); (try clear ho0); obtain ⟨Ao13, co13, eo13⟩ := Kd.R_slice HO261.out; subst eo13))
   go_loopg [6, 21] k (fun kq v6 v21 w' => ∃ (x6_1 : List Int) (x21_1 : Int), v21 = .int .i64 x21_1 ∧ Aside0 (zone_Moments.l0 kq a1 x6_1 t259 (t259.length : Int) x21_1 a0_0 a0_1 l0_2 = some (r1, r2)) ∧ Aside0 (kq ≤ k) ∧ Aside0 (Kd.R (Kd.int .i64) 2 w' w.heap.size (fun k_ => some k_ ≠ ((.slice Ao13 t259.length co13) : Value).ownBlock) v6 x6_1) ∧ Aside0 (Kd.R (Kd.int .i64) 2 w' w.heap.size (fun k_ => some k_ ≠ (v6 : Value).ownBlock) (.slice Ao13 t259.length co13) t259) ∧ Aside0 (w'.heap[gb256]? = some (.cells #[.string a0_0, .int .i64 a0_1, (.slice A0_2 l0_2.length c0_2)] 24 (0, 0))) ∧ Aside0 (Below w.heap.size w w'))
   case atStart => exact ⟨(([] : List Int)), (0), val_, H', ⟨Nat.le_refl _⟩, ⟨by first | exact Kd.R_nil _ _ _ _ _ | exact Kd.N_nil _ _ _ _ _ | exact Kd.V_nil _ _ _ _ _ | exact Kd.Q_nil _ _ _ _ _ | exact Kd.S_nil _ _ _ _ _⟩, ⟨by (with_reducible repeat (first | apply Kd.R_alloc | apply Kd.R_drewN | apply Kd.R_drew)); exact Kd.R_mono HO261.out (fun _ hk => (by simp [Value.ownBlock]))⟩, ⟨blo_ BK256.out⟩, ⟨belg_⟩⟩
   case round =>
    clear H'
    try clear c1
    try clear c2
    try clear p2
    try clear c4
    try clear c6
    try clear hcz11_
    try clear hcz9_
    obtain ⟨x6_1, x21_1, rfl, HA, HK1, HO_6, HO_19, BK256, HB⟩ := hrel
    cases gk with
    | zero => exact absurd HA.out (by simp [zone_Moments.l0])
    | succ k1 =>
     have H := HA.out
     clear HA
     simp only [zone_Moments.l0] at H
     by_cases c14 : x21_1 < (t259.length : Int)
     ·rw [if_pos c14] at H
      have c14b0 : decide (x21_1 < (t259.length : Int)) = true := decide_eq_true c14
      clear c14
      by_cases c15 : 0 ≤ x21_1
      ·rw [if_pos c15] at H
       have c15b0 : decide (0 ≤ x21_1) = true := decide_eq_true c15
       clear c15
       by_cases c16 : x21_1 < (t259.length : Int)
       ·rw [if_pos c16] at H
        have c16b0 : decide (x21_1 < (t259.length : Int)) = true := decide_eq_true c16
        clear c16
        replace H := Option.bind_eq_some_iff.mp H
        obtain ⟨t264, A170, H⟩ := H
        try dsimp only at H
        have A17 := Aside0.mk A170
        clear A170
        by_cases c18 : t264 = true
        ·subst c18
         have H1 := ifp_ H
         clear H
         have H := H1
         clear H1
         replace H := Option.bind_eq_some_iff.mp H
         obtain ⟨t265, A190, H⟩ := H
         try dsimp only at H
         have A19 := Aside0.mk A190
         clear A190
         by_cases c20 : t265 = (rd t259 x21_1)
         ·rw [if_pos c20] at H
          have c20b0 : (t265 == (rd t259 x21_1)) = true := beq_iff_eq.mpr c20
          have c20b1 : (t265 != (rd t259 x21_1)) = false := bne_eq_false_iff_eq.mpr c20
          clear c20
          replace H := Option.bind_eq_some_iff.mp H
          obtain ⟨t266, A210, H⟩ := H
          try dsimp only at H
          have A21 := Aside0.mk A210
          clear A210
          by_cases c22 : t266 = true
          ·subst c22
           have H1 := ifp_ H
           clear H
           have H := H1
           clear H1
           have H' := Aside0.mk H
           clear H
           have p263 : 0 ≤ (x21_1 : Int) := dec_
           have q263 : x21_1 < (t259.length : Int) := dec_
           obtain ⟨ad263, e263, hx263_0⟩ := Kd.at_int (Kd.R_reads' HO_19.out).2.2 x21_1 p263 q263
           cases e263
           replace p263 := eq_true p263
           replace q263 := eq_true q263
           go_wp2_with (first | ((with_reducible refine gate_callee (f := 26) rfl ?_); refine goesL_ (some 29) rfl rfl Try.func26 (by kernel_rfl) rfl #[.int .i64 (wrap64 (a1 - (rd t259 x21_1)))] rfl arg_ ?_; (with_reducible refine (when_Right.calls (wrap64 (a1 - (rd t259 x21_1))) true _ A17.out).mono ?_); rintro e w' ⟨rfl, ⟨nd, rfl⟩⟩; refine ⟨_, rfl, ?_⟩; have hcz23_ := cells3_ BK256.out) | (go_at_call 27; (with_reducible refine (zone_Zone_shift.calls k1 a0_0 a0_1 _ _ l0_2 (wrap64 (a1 - (rd t259 x21_1))) t265 _ ?side1 ?side2 A19.out).mono ?_); (case side1 => exact cop_ (Kd.C_below HR0_2.out belg_)); (case side2 => exact HC0_2.out); rintro e w24 ⟨rfl, hb⟩; have n0_ := ad_ (Kd.R_below (rod_ HO_6) hb); have n1_ := ad_ (Kd.R_below (rod_ HO_19) hb); have n2_ := ad_ (blk_below (g := gb256) (o := .cells #[.string a0_0, .int .i64 a0_1, .slice A0_2 l0_2.length c0_2] 24 (0, 0)) (blo_ BK256.out) hb); have n3_ := ad_ (below_step belg_ hb); clear HO_6; clear HO_19; clear BK256; clear HB; have HO_6 := n0_; have HO_19 := n1_; have BK256 := n2_; have HB := n3_; clear n0_ n1_ n2_ n3_; (try clear hb); (try clear hb2); (try clear hk); (try clear hi); obtain ⟨Ao25, co25, eo25⟩ := Kd.R_slice HO_6.out; subst eo25) | (go_at_call 41; (with_reducible refine (slices_Contains_int64_int64.calls k1 _ _ x6_1 (wrap64 (a1 - (rd t259 x21_1))) true _ ?side1 ?side2 A21.out).mono ?_); (case side1 => exact cop_ (Kd.R_reads' HO_6.out).2.2); (case side2 => exact (Kd.R_reads' HO_6.out).2.1); rintro e w' ⟨rfl, ⟨nd, rfl⟩⟩))
           go_roundg k1
           case measure => have := HK1.out; omega
           case rel => exact ⟨(x6_1), (wrap64 (x21_1 + 1)), val_, H', ⟨by have := HK1.out; omega⟩, ⟨rod_ HO_6⟩, ⟨rod_ HO_19⟩, ⟨blo_ BK256.out⟩, ⟨belg_⟩⟩
          ·replace c22 := Bool.eq_false_iff.mpr c22
           subst c22
           have H1 := ifn_ H
           clear H
           have H := H1
           clear H1
           by_cases c26 : x6_1.length < 17592186044416
           ·rw [if_pos c26] at H
            have LMc26 := Aside0.mk c26
            clear c26
            obtain ⟨y267, hy267⟩ : ∃ y_ : List Int, y_ = (x6_1 ++ [wrap64 (a1 - (rd t259 x21_1))]) := ⟨_, rfl⟩
            replace H : (zone_Moments.l0 k1 a1 y267 t259 (t259.length : Int) (wrap64 (x21_1 + 1)) a0_0 a0_1 l0_2) = some (r1, r2) := by first | (rw [hy267]; with_reducible exact H) | (have H2_ := (Option.bind_some _ _).symm.trans H; rw [hy267]; with_reducible exact H2_) | (have H2_ := (Option.bind_some _ _).symm.trans H; with_reducible exact H2_) | with_reducible exact H | (rw [hy267]; exact H) | exact H
            have Ny267 := Aside0.mk hy267
            clear hy267
            have H' := Aside0.mk H
            clear H
            have p263 : 0 ≤ (x21_1 : Int) := dec_
            have q263 : x21_1 < (t259.length : Int) := dec_
            obtain ⟨ad263, e263, hx263_0⟩ := Kd.at_int (Kd.R_reads' HO_19.out).2.2 x21_1 p263 q263
            cases e263
            replace p263 := eq_true p263
            replace q263 := eq_true q263
            go_wp2_with (first | ((with_reducible refine gate_callee (f := 26) rfl ?_); refine goesL_ (some 29) rfl rfl Try.func26 (by kernel_rfl) rfl #[.int .i64 (wrap64 (a1 - (rd t259 x21_1)))] rfl arg_ ?_; (with_reducible refine (when_Right.calls (wrap64 (a1 - (rd t259 x21_1))) true _ A17.out).mono ?_); rintro e w' ⟨rfl, ⟨nd, rfl⟩⟩; refine ⟨_, rfl, ?_⟩; have hcz27_ := cells3_ BK256.out) | (go_at_call 27; (with_reducible refine (zone_Zone_shift.calls k1 a0_0 a0_1 _ _ l0_2 (wrap64 (a1 - (rd t259 x21_1))) t265 _ ?side1 ?side2 A19.out).mono ?_); (case side1 => exact cop_ (Kd.C_below HR0_2.out belg_)); (case side2 => exact HC0_2.out); rintro e w28 ⟨rfl, hb⟩; have n0_ := ad_ (Kd.R_below (rod_ HO_6) hb); have n1_ := ad_ (Kd.R_below (rod_ HO_19) hb); have n2_ := ad_ (blk_below (g := gb256) (o := .cells #[.string a0_0, .int .i64 a0_1, .slice A0_2 l0_2.length c0_2] 24 (0, 0)) (blo_ BK256.out) hb); have n3_ := ad_ (below_step belg_ hb); clear HO_6; clear HO_19; clear BK256; clear HB; have HO_6 := n0_; have HO_19 := n1_; have BK256 := n2_; have HB := n3_; clear n0_ n1_ n2_ n3_; (try clear hb); (try clear hb2); (try clear hk); (try clear hi); obtain ⟨Ao29, co29, eo29⟩ := Kd.R_slice HO_6.out; subst eo29) | (go_at_call 41; (with_reducible refine (slices_Contains_int64_int64.calls k1 _ _ x6_1 (wrap64 (a1 - (rd t259 x21_1))) false _ ?side1 ?side2 A21.out).mono ?_); (case side1 => exact cop_ (Kd.R_reads' HO_6.out).2.2); (case side2 => exact (Kd.R_reads' HO_6.out).2.1); rintro e w' ⟨rfl, ⟨nd, rfl⟩⟩) | ((with_reducible refine gate_builtin (b := .append) (xs := #[.tmp 43, .tmp 45]) rfl ?_); at_builtin; refine Kd.R_append (Kd.int .i64) (w0 := w) w.heap.size rfl (.tmp 43) (.tmp 45) 44 2 (.int .i64 0) 8 rfl Try.underlying44 info2 rfl (by decide) (by omega) (.slice Ao29 x6_1.length co29) x6_1 (wrap64 (a1 - (rd t259 x21_1))) [.int .i64 (wrap64 (a1 - (rd t259 x21_1)))] (fun k_ => some k_ ≠ (.slice (some ad263) t259.length co13 : Value).ownBlock) (fun _ => False) rfl rfl ?aP (fun _ hk => hk.elim) ?aF ?aO ?aB ?aS ?aL ?_; (case aP => exact rfl); (case aB => exact belg_); (case aF => exact (fun k_ hk => Kd.fresh' (Kd.R_lt (rod_ HO_19)) k_ hk)); (case aO => exact (rod_ HO_6)); (case aS => exact (below_size belg_)); (case aL => have := LMc26.out; omega); intro v268 w30 ho hb hg hat; rw [← Ny267.out] at ho; have n0_ := ad_ (Kd.R_after (ok := (fun _ => True)) (by (with_reducible repeat (first | apply Kd.R_alloc | apply Kd.R_drewN | apply Kd.R_drew)); exact Kd.R_mono HO_19.out (fun _ hk => ⟨trivial, hk⟩)) hg hat); have n1_ := ad_ (blk_grown (g := gb256) (o := .cells #[.string a0_0, .int .i64 a0_1, .slice A0_2 l0_2.length c0_2] 24 (0, 0)) (blo_ BK256.out) hg (Kd.R_ne HO_6.out BK256.out (by decide))); have n2_ := ad_ (hb); have n3_ := ad_ (ho); clear HO_19; clear BK256; clear HB; clear HO_6; have HO_19 := n0_; have BK256 := n1_; have HB := n2_; have HO269 := n3_; clear n0_ n1_ n2_ n3_; clear ho hb hg hat))
            go_roundg k1
            case measure => have := HK1.out; omega
            case rel => exact ⟨(y267), (wrap64 (x21_1 + 1)), val_, H', ⟨by have := HK1.out; omega⟩, ⟨rod_ HO269⟩, ⟨by (with_reducible repeat (first | apply Kd.R_alloc | apply Kd.R_drewN | apply Kd.R_drew)); exact Kd.R_mono HO_19.out (fun _ hk => hk.2)⟩, ⟨blo_ BK256.out⟩, ⟨belg_⟩⟩
           ·rw [if_neg c26] at H
            exact absurd H (by simp)
         ·rw [if_neg c20] at H
          have c20b0 : (t265 == (rd t259 x21_1)) = false := beq_eq_false_iff_ne.mpr c20
          have c20b1 : (t265 != (rd t259 x21_1)) = true := bne_iff_ne.mpr c20
          have H' := Aside0.mk H
          clear H
          have p263 : 0 ≤ (x21_1 : Int) := dec_
          have q263 : x21_1 < (t259.length : Int) := dec_
          obtain ⟨ad263, e263, hx263_0⟩ := Kd.at_int (Kd.R_reads' HO_19.out).2.2 x21_1 p263 q263
          cases e263
          replace p263 := eq_true p263
          replace q263 := eq_true q263
          go_wp2_with (first | ((with_reducible refine gate_callee (f := 26) rfl ?_); refine goesL_ (some 29) rfl rfl Try.func26 (by kernel_rfl) rfl #[.int .i64 (wrap64 (a1 - (rd t259 x21_1)))] rfl arg_ ?_; (with_reducible refine (when_Right.calls (wrap64 (a1 - (rd t259 x21_1))) true _ A17.out).mono ?_); rintro e w' ⟨rfl, ⟨nd, rfl⟩⟩; refine ⟨_, rfl, ?_⟩; have hcz31_ := cells3_ BK256.out) | (go_at_call 27; (with_reducible refine (zone_Zone_shift.calls k1 a0_0 a0_1 _ _ l0_2 (wrap64 (a1 - (rd t259 x21_1))) t265 _ ?side1 ?side2 A19.out).mono ?_); (case side1 => exact cop_ (Kd.C_below HR0_2.out belg_)); (case side2 => exact HC0_2.out); rintro e w32 ⟨rfl, hb⟩; have n0_ := ad_ (Kd.R_below (rod_ HO_6) hb); have n1_ := ad_ (Kd.R_below (rod_ HO_19) hb); have n2_ := ad_ (blk_below (g := gb256) (o := .cells #[.string a0_0, .int .i64 a0_1, .slice A0_2 l0_2.length c0_2] 24 (0, 0)) (blo_ BK256.out) hb); have n3_ := ad_ (below_step belg_ hb); clear HO_6; clear HO_19; clear BK256; clear HB; have HO_6 := n0_; have HO_19 := n1_; have BK256 := n2_; have HB := n3_; clear n0_ n1_ n2_ n3_; (try clear hb); (try clear hb2); (try clear hk); (try clear hi)))
          go_roundg k1
          case measure => have := HK1.out; omega
          case rel => exact ⟨(x6_1), (wrap64 (x21_1 + 1)), val_, H', ⟨by have := HK1.out; omega⟩, ⟨rod_ HO_6⟩, ⟨rod_ HO_19⟩, ⟨blo_ BK256.out⟩, ⟨belg_⟩⟩
        ·replace c18 := Bool.eq_false_iff.mpr c18
         subst c18
         have H1 := ifn_ H
         clear H
         have H := H1
         clear H1
         have H' := Aside0.mk H
         clear H
         have p263 : 0 ≤ (x21_1 : Int) := dec_
         have q263 : x21_1 < (t259.length : Int) := dec_
         obtain ⟨ad263, e263, hx263_0⟩ := Kd.at_int (Kd.R_reads' HO_19.out).2.2 x21_1 p263 q263
         cases e263
         replace p263 := eq_true p263
         replace q263 := eq_true q263
         go_wp2_with (first | ((with_reducible refine gate_callee (f := 26) rfl ?_); refine goesL_ (some 29) rfl rfl Try.func26 (by kernel_rfl) rfl #[.int .i64 (wrap64 (a1 - (rd t259 x21_1)))] rfl arg_ ?_; (with_reducible refine (when_Right.calls (wrap64 (a1 - (rd t259 x21_1))) false _ A17.out).mono ?_); rintro e w' ⟨rfl, ⟨nd, rfl⟩⟩; refine ⟨_, rfl, ?_⟩))
         go_roundg k1
         case measure => have := HK1.out; omega
         case rel => exact ⟨(x6_1), (wrap64 (x21_1 + 1)), val_, H', ⟨by have := HK1.out; omega⟩, ⟨rod_ HO_6⟩, ⟨rod_ HO_19⟩, ⟨blo_ BK256.out⟩, ⟨belg_⟩⟩
       ·rw [if_neg c16] at H
        exact absurd H (by simp)
      ·rw [if_neg c15] at H
       exact absurd H (by simp)
     ·rw [if_neg c14] at H
      have c14b0 : decide (x21_1 < (t259.length : Int)) = false := decide_eq_false c14
      clear c14
      replace H := Option.bind_eq_some_iff.mp H
      obtain ⟨t262, A330, H⟩ := H
      try dsimp only at H
      have A33 := Aside0.mk A330
      clear A330
      simp only [Option.some.injEq, Prod.mk.injEq] at H
      obtain ⟨rfl, rfl⟩ := H
      obtain ⟨Ao34, co34, eo34⟩ := Kd.R_slice HO_6.out
      subst eo34
      go_wp2_with (first | ((with_reducible refine gate_callee (f := 42) rfl ?_); refine goesL_ (some 49) rfl rfl Try.func42 (by kernel_rfl) rfl #[.slice Ao34 x6_1.length co34] rfl arg_ ?_; (with_reducible refine (slices_Sort_int64_int64.calls k1 (fun k_ => some k_ = (.slice Ao34 x6_1.length co34 : Value).ownBlock) (.slice Ao34 x6_1.length co34) x6_1 t262 w _ ?side1 ?side2 A33.out).mono ?_); (case side1 => repeat (first | (with_reducible first | exact HB.out | apply below_alloc | apply pw_below_drewN | apply below_drew1 | refine below_set ?_ GE256.out) | exact HB.out)); (case side2 => exact Kd.R_tight rfl HO_6.out); rintro e w35 ⟨rfl, hy0, hb, hkp⟩; refine ⟨_, rfl, ?_⟩; have n0_ := ad_ (Kd.R_reok rfl hy0 (fun k_ e_ => HO_6.out.1 k_ e_)); have n1_ := ad_ (Kd.R_mono (ok' := fun k_ => some k_ ≠ (.slice Ao34 x6_1.length co34 : Value).ownBlock) (Kd.R_keptB (HO_19.out) hkp (fun k_ hk_ hs_ => (hk_) hs_)) (fun k_ hk_ => hk_.1)); have n2_ := ad_ (blk_kept (blo_ BK256.out) hkp (fun hs_ => (fun e_ => (Kd.R_ne HO_6.out BK256.out (by decide)) e_) hs_)); have n3_ := ad_ (hb); clear HO_6; clear HO_19; clear BK256; clear HB; have HO_6 := n0_; have HO_19 := n1_; have BK256 := n2_; have HB := n3_; clear n0_ n1_ n2_ n3_; (try clear hb); (try clear hkp); (try clear hy0)))
      go_ret2
      exact ⟨_, ret_, by (with_reducible repeat (first | apply Kd.R_alloc | apply Kd.R_drewN | apply Kd.R_drew)); exact Kd.R_mono HO_6.out (fun _ hk => trivial), belg_⟩
  ·replace c6 := Bool.eq_false_iff.mpr c6
   subst c6
   have H1 := ifn_ H
   clear H
   have H := H1
   clear H1
   simp only [Option.some.injEq, Prod.mk.injEq] at H
   obtain ⟨rfl, rfl⟩ := H
   go_enter Try.func17, Try.ntmps17
   go_wp2_with (first | ((with_reducible refine gate_dst (N := 2) rfl ?_); refine box_event ?hg (N := 2) ?hd (cs := #[.string a0_0, .int .i64 a0_1, .slice A0_2 l0_2.length c0_2]) (t := 24) ?hr ?_; (case hd => rfl); (case hg => rfl); (case hr => first | (go_simp; done) | (go_simp; rfl)); intro gb256 hg w36 hbox hb; have n0_ := ad_ (below_step bel_ hb); have n1_ := ad_ (hbox); have n2_ := ad_ ((by rw [hg]; exact (below_size bel_) : w.heap.size ≤ gb256)); have n3_ := ad_ ((by rw [hg]; exact (below_size bel_) : w.heap.size ≤ gb256)); clear HB; have HB := n0_; have BK256 := n1_; have GW256 := n2_; have GE256 := n3_; clear n0_ n1_ n2_ n3_; clear hb hbox hg; have hcz37_ := cells3_ BK256.out) | ((with_reducible refine gate_callee (f := 15) rfl ?_); refine goesL_ (some 12) rfl rfl Try.func15 (by kernel_rfl) rfl #[.agg #[.string a0_0, .int .i64 a0_1, .slice A0_2 l0_2.length c0_2]] rfl arg_ ?_; (with_reducible refine (zone_Right.calls k a0_0 a0_1 _ _ l0_2 true _ ?side1 ?side2 A3.out).mono ?_); (case side1 => exact cop_ (Kd.C_below HR0_2.out HB.out)); (case side2 => exact HC0_2.out); rintro e w38 ⟨rfl, hb⟩; refine ⟨_, rfl, ?_⟩; have n0_ := ad_ (blk_below (g := gb256) (o := .cells #[.string a0_0, .int .i64 a0_1, .slice A0_2 l0_2.length c0_2] 24 (0, 0)) (blo_ BK256.out) hb); have n1_ := ad_ (below_step belg_ hb); clear BK256; clear HB; have BK256 := n0_; have HB := n1_; clear n0_ n1_; (try clear hb); (try clear hb2); (try clear hk); (try clear hi)) | ((with_reducible refine gate_callee (f := 26) rfl ?_); refine goesL_ (some 16) rfl rfl Try.func26 (by kernel_rfl) rfl #[.int .i64 a1] rfl arg_ ?_; (with_reducible refine (when_Right.calls a1 false _ A5.out).mono ?_); rintro e w' ⟨rfl, ⟨nd, rfl⟩⟩; refine ⟨_, rfl, ?_⟩))
   go_ret2
   exact ⟨_, ret_, by first | exact Kd.R_nil _ _ _ _ _ | exact Kd.N_nil _ _ _ _ _ | exact Kd.V_nil _ _ _ _ _ | exact Kd.Q_nil _ _ _ _ _ | exact Kd.S_nil _ _ _ _ _, belg_⟩
 ·replace c4 := Bool.eq_false_iff.mpr c4
  subst c4
  have H1 := ifn_ H
  clear H
  have H := H1
  clear H1
  simp only [Option.some.injEq, Prod.mk.injEq] at H
  obtain ⟨rfl, rfl⟩ := H
  go_enter Try.func17, Try.ntmps17
  go_wp2_with (first | ((with_reducible refine gate_dst (N := 2) rfl ?_); refine box_event ?hg (N := 2) ?hd (cs := #[.string a0_0, .int .i64 a0_1, .slice A0_2 l0_2.length c0_2]) (t := 24) ?hr ?_; (case hd => rfl); (case hg => rfl); (case hr => first | (go_simp; done) | (go_simp; rfl)); intro gb256 hg w39 hbox hb; have n0_ := ad_ (below_step bel_ hb); have n1_ := ad_ (hbox); have n2_ := ad_ ((by rw [hg]; exact (below_size bel_) : w.heap.size ≤ gb256)); have n3_ := ad_ ((by rw [hg]; exact (below_size bel_) : w.heap.size ≤ gb256)); clear HB; have HB := n0_; have BK256 := n1_; have GW256 := n2_; have GE256 := n3_; clear n0_ n1_ n2_ n3_; clear hb hbox hg; have hcz40_ := cells3_ BK256.out) | ((with_reducible refine gate_callee (f := 15) rfl ?_); refine goesL_ (some 12) rfl rfl Try.func15 (by kernel_rfl) rfl #[.agg #[.string a0_0, .int .i64 a0_1, .slice A0_2 l0_2.length c0_2]] rfl arg_ ?_; (with_reducible refine (zone_Right.calls k a0_0 a0_1 _ _ l0_2 false _ ?side1 ?side2 A3.out).mono ?_); (case side1 => exact cop_ (Kd.C_below HR0_2.out HB.out)); (case side2 => exact HC0_2.out); rintro e w41 ⟨rfl, hb⟩; refine ⟨_, rfl, ?_⟩; have n0_ := ad_ (blk_below (g := gb256) (o := .cells #[.string a0_0, .int .i64 a0_1, .slice A0_2 l0_2.length c0_2] 24 (0, 0)) (blo_ BK256.out) hb); have n1_ := ad_ (below_step belg_ hb); clear BK256; clear HB; have BK256 := n0_; have HB := n1_; clear n0_ n1_; (try clear hb); (try clear hb2); (try clear hk); (try clear hi)))
  go_ret2
  exact ⟨_, ret_, by first | exact Kd.R_nil _ _ _ _ _ | exact Kd.N_nil _ _ _ _ _ | exact Kd.V_nil _ _ _ _ _ | exact Kd.Q_nil _ _ _ _ _ | exact Kd.S_nil _ _ _ _ _, belg_⟩

/-! ### posthornlaw22_Europe_1: function 44 -/
def posthornlaw22_Europe_1.f (a0 : Int) : Option (Int × Int × Int × Int × List Int × List Int × (List (S79))) := some (4, 1, 0, (-1), (([a0] : List Int)), ([] : List Int), (([(⟨6, (-1)⟩ : S79)] : List (S79))))
set_option maxHeartbeats 8000000 in
set_option maxRecDepth 100000 in
theorem posthornlaw22_Europe_1.calls (a0 : Int) (r1 : Int) (r2 : Int) (r3 : Int) (r4 : Int) (r5 : List Int) (r6 : List Int) (r7 : List (S79)) (w : World) (h : posthornlaw22_Europe_1.f a0 = some (r1, r2, r3, r4, r5, r6, r7)) :
  Calls Try.prog 44 #[.int .i64 a0] w fun e w' => ∃ v4_ v5_ v6_ : Value, e = .returned (.agg #[.int .i64 r1, .int .i64 r2, .int .i64 r3, .int .i64 r4, v4_, v5_, v6_]) ∧ Kd.R (Kd.int .i64) 3 w' w.heap.size (fun k_ => some k_ ≠ (v5_ : Value).ownBlock) v4_ r5 ∧ Kd.R (Kd.int .i64) 3 w' w.heap.size (fun k_ => some k_ ≠ (v4_ : Value).ownBlock) v5_ r6 ∧ Kd.R k79 79 w' w.heap.size (fun _ => True) v6_ r7 ∧ Below w.heap.size w w' := by
 have hu40 := Try.underlying40
 have hu79 := Try.underlying79
 have HB := ad_ (Below.refl w.heap.size w)
 have H : (some (4, 1, 0, (-1), (([a0] : List Int)), ([] : List Int), (([(⟨6, (-1)⟩ : S79)] : List (S79))))) = some (r1, r2, r3, r4, r5, r6, r7) := h
 clear h
 obtain ⟨y271, hy271⟩ : ∃ y_ : List Int, y_ = (([a0] : List Int)) := ⟨_, rfl⟩
 replace H : (some (4, 1, 0, (-1), y271, ([] : List Int), (([(⟨6, (-1)⟩ : S79)] : List (S79))))) = some (r1, r2, r3, r4, r5, r6, r7) := by first | (rw [hy271]; with_reducible exact H) | (have H2_ := (Option.bind_some _ _).symm.trans H; rw [hy271]; with_reducible exact H2_) | (have H2_ := (Option.bind_some _ _).symm.trans H; with_reducible exact H2_) | with_reducible exact H | (rw [hy271]; exact H) | exact H
 have Ny271 := Aside0.mk hy271
 clear hy271
 obtain ⟨y274, hy274⟩ : ∃ y_ : List (S79), y_ = (([(⟨6, (-1)⟩ : S79)] : List (S79))) := ⟨_, rfl⟩
 replace H : (some (4, 1, 0, (-1), y271, ([] : List Int), y274)) = some (r1, r2, r3, r4, r5, r6, r7) := by first | (rw [hy274]; with_reducible exact H) | (have H2_ := (Option.bind_some _ _).symm.trans H; rw [hy274]; with_reducible exact H2_) | (have H2_ := (Option.bind_some _ _).symm.trans H; with_reducible exact H2_) | with_reducible exact H | (rw [hy274]; exact H) | exact H
 have Ny274 := Aside0.mk hy274
 clear hy274
 simp only [Option.some.injEq, Prod.mk.injEq] at H
 obtain ⟨rfl, rfl, rfl, rfl, rfl, rfl, rfl⟩ := H
 go_enter Try.func44, Try.ntmps44
 go_wp2_with (first | ((with_reducible refine gate_dst (N := 2) rfl ?_); refine box_event ?hg (N := 2) ?hd (cs := #[.int .i64 0, .int .i64 0, .int .i64 0, .int .i64 0, .slice none 0 0, .slice none 0 0, .slice none 0 0]) (t := 40) ?hr ?_; (case hd => rfl); (case hg => rfl); (case hr => first | (go_simp; done) | (go_simp; rfl)); intro gb270 hg w2 hbox hb; have n0_ := ad_ (below_step bel_ hb); have n1_ := ad_ (hbox); have n2_ := ad_ ((by rw [hg]; exact (below_size bel_) : w.heap.size ≤ gb270)); have n3_ := ad_ ((by rw [hg]; exact (below_size bel_) : w.heap.size ≤ gb270)); clear HB; have HB := n0_; have BK270 := n1_; have GW270 := n2_; have GE270 := n3_; clear n0_ n1_ n2_ n3_; clear hb hbox hg) | ((with_reducible refine gate_dst (N := 4) rfl ?_); refine Kd.R_lit (Kd.int .i64) _ 3 ?hg (N := 4) ?hd (xs := ([a0] : List Int)) (inner := [.int .i64 a0]) (ok := fun _ => True) (okp := fun _ => True) ?hr ?hp (fun _ hk => hk) trivial (Below.refl _ _) (Nat.le_refl _) (by simp) ?_; (case hd => rfl); (case hg => rfl); (case hr => first | (go_simp; done) | (go_simp; rfl)); (case hp => exact (Reps.one (show Kd.M (Kd.int .i64) _ _ _ a0 [.int .i64 a0] from rfl) (Reps.none _ _))); intro v272 w3 ho4 hb hg_ hnew_; clear hg_ hnew_; (first | rw [← Ny271.out] at ho4 | (simp only [Int.reduceToNat] at ho4; rw [← Ny271.out] at ho4)); have n0_ := ad_ (Kd.R_lower ho4 (below_size belg_)); have n1_ := ad_ (blk_below (g := gb270) (o := .cells #[.int .i64 0, .int .i64 0, .int .i64 0, .int .i64 0, .slice none 0 0, .slice none 0 0, .slice none 0 0] 40 (0, 0)) (blo_ BK270.out) hb); have n2_ := ad_ (below_step belg_ hb); clear BK270; clear HB; have HO273 := n0_; have BK270 := n1_; have HB := n2_; clear n0_ n1_ n2_; clear hb ho4) | ((with_reducible refine gate_dst (N := 6) rfl ?_); refine Kd.R_lit k79 _ 79 ?hg (N := 6) ?hd (xs := ([(⟨6, (-1)⟩ : S79)] : List (S79))) (inner := [.int .i64 6, .int .i64 (-1)]) (ok := fun _ => True) (okp := fun _ => True) ?hr ?hp (fun _ hk => hk) trivial (Below.refl _ _) (Nat.le_refl _) (by simp) ?_; (case hd => rfl); (case hg => rfl); (case hr => first | (go_simp; done) | (go_simp; rfl)); (case hp => exact (Reps.c2 (show Kd.M k79 _ _ _ (⟨6, (-1)⟩ : S79) [.int .i64 6, .int .i64 (-1)] from (k79_mkM _ _ _ (⟨6, (-1)⟩ : S79) )) (Reps.none _ _))); intro v275 w5 ho6 hb hg_ hnew_; clear hg_ hnew_; (first | rw [← Ny274.out] at ho6 | (simp only [Int.reduceToNat] at ho6; rw [← Ny274.out] at ho6)); have n0_ := ad_ (Kd.R_below (rod_ HO273) hb); have n1_ := ad_ (Kd.R_lower ho6 (below_size belg_)); have n2_ := ad_ (blk_below (g := gb270) (o := .cells #[.int .i64 0, .int .i64 0, .int .i64 0, .int .i64 0, .slice none 0 0, .slice none 0 0, .slice none 0 0] 40 (0, 0)) (blo_ BK270.out) hb); have n3_ := ad_ (below_step belg_ hb); clear HO273; clear BK270; clear HB; have HO273 := n0_; have HO276 := n1_; have BK270 := n2_; have HB := n3_; clear n0_ n1_ n2_ n3_; clear hb ho6; obtain ⟨Ao7, co7, eo7⟩ := Kd.R_slice HO276.out; subst eo7; obtain ⟨Ao8, co8, eo8⟩ := Kd.R_slice HO273.out; subst eo8; have hcz9_ := cells7_ BK270.out))
 refine bodyPost_ret (results_cell_row rfl _ _ gb270 40 #[.int .i64 4, .int .i64 1, .int .i64 0, .int .i64 (-1), .slice Ao8 y271.length co8, .slice none 0 0, .slice Ao7 y274.length co7] (0, 0) _ rfl (by refine blo_ ?_; refine blk_put (cs := #[.int .i64 4, .int .i64 1, .int .i64 0, .int .i64 (-1), .slice Ao8 y271.length co8, .slice none 0 0, .slice none 0 0]) ?_ 6 _ rfl; refine blo_ ?_; refine blk_put (cs := #[.int .i64 4, .int .i64 1, .int .i64 0, .int .i64 (-1), .slice Ao8 y271.length co8, .slice none 0 0, .slice none 0 0]) ?_ 5 _ rfl; refine blo_ ?_; refine blk_put (cs := #[.int .i64 4, .int .i64 1, .int .i64 0, .int .i64 (-1), .slice none 0 0, .slice none 0 0, .slice none 0 0]) ?_ 4 _ rfl; refine blo_ ?_; refine blk_put (cs := #[.int .i64 4, .int .i64 1, .int .i64 0, .int .i64 0, .slice none 0 0, .slice none 0 0, .slice none 0 0]) ?_ 3 _ rfl; refine blo_ ?_; refine blk_put (cs := #[.int .i64 4, .int .i64 1, .int .i64 0, .int .i64 0, .slice none 0 0, .slice none 0 0, .slice none 0 0]) ?_ 2 _ rfl; refine blo_ ?_; refine blk_put (cs := #[.int .i64 4, .int .i64 0, .int .i64 0, .int .i64 0, .slice none 0 0, .slice none 0 0, .slice none 0 0]) ?_ 1 _ rfl; refine blo_ ?_; refine blk_put (cs := #[.int .i64 0, .int .i64 0, .int .i64 0, .int .i64 0, .slice none 0 0, .slice none 0 0, .slice none 0 0]) ?_ 0 _ rfl; exact blo_ BK270.out) Try.underlying40 rfl (by kernel_rfl)) rfl ?_
 exact ⟨_, _, _, ret_, by (with_reducible repeat (first | apply Kd.R_alloc | apply Kd.R_drewN | apply Kd.R_drew)); exact Kd.R_mono (Kd.R_far (p := ⟨gb270, 6, none⟩) (Kd.R_far (p := ⟨gb270, 5, none⟩) (Kd.R_far (p := ⟨gb270, 4, none⟩) (Kd.R_far (p := ⟨gb270, 3, none⟩) (Kd.R_far (p := ⟨gb270, 2, none⟩) (Kd.R_far (p := ⟨gb270, 1, none⟩) (Kd.R_far (p := ⟨gb270, 0, none⟩) (Kd.R_types HO273.out BK270.out (by decide)) (fun _ hk => hk.2) (.int .i64 4)) (fun _ hk => hk.2) (.int .i64 1)) (fun _ hk => hk.2) (.int .i64 0)) (fun _ hk => hk.2) (.int .i64 (-1))) (fun _ hk => hk.2) (.slice Ao8 y271.length co8)) (fun _ hk => hk.2) (.slice none 0 0)) (fun _ hk => hk.2) (.slice Ao7 y274.length co7)) (fun _ hk => (by simp [Value.ownBlock])), by first | exact Kd.R_nil _ _ _ _ _ | exact Kd.N_nil _ _ _ _ _ | exact Kd.V_nil _ _ _ _ _ | exact Kd.Q_nil _ _ _ _ _ | exact Kd.S_nil _ _ _ _ _, by (with_reducible repeat (first | apply Kd.R_alloc | apply Kd.R_drewN | apply Kd.R_drew)); exact Kd.R_mono (Kd.R_far (p := ⟨gb270, 6, none⟩) (Kd.R_far (p := ⟨gb270, 5, none⟩) (Kd.R_far (p := ⟨gb270, 4, none⟩) (Kd.R_far (p := ⟨gb270, 3, none⟩) (Kd.R_far (p := ⟨gb270, 2, none⟩) (Kd.R_far (p := ⟨gb270, 1, none⟩) (Kd.R_far (p := ⟨gb270, 0, none⟩) (Kd.R_types HO276.out BK270.out (by decide)) (fun _ hk => hk.2) (.int .i64 4)) (fun _ hk => hk.2) (.int .i64 1)) (fun _ hk => hk.2) (.int .i64 0)) (fun _ hk => hk.2) (.int .i64 (-1))) (fun _ hk => hk.2) (.slice Ao8 y271.length co8)) (fun _ hk => hk.2) (.slice none 0 0)) (fun _ hk => hk.2) (.slice Ao7 y274.length co7)) (fun _ hk => trivial), belg_⟩

/-! ### posthornlaw22_Europe: function 23 -/
def posthornlaw22_Europe.f  : Option (ByteArray × Int × (List (S42))) := (posthornlaw22_Europe_1.f 3).bind fun bt278 => ((posthornlaw22_Europe_1.f 10).bind fun bt291 => (some ((⟨#[69]⟩ : ByteArray), 3600, (([(⟨7524000, 3600, 7200, true, (⟨bt278.1, bt278.2.1, bt278.2.2.1, bt278.2.2.2.1, bt278.2.2.2.2.1, bt278.2.2.2.2.2.1, bt278.2.2.2.2.2.2⟩ : S40)⟩ : S42), (⟨25671600, 7200, 3600, true, (⟨bt291.1, bt291.2.1, bt291.2.2.1, bt291.2.2.2.1, bt291.2.2.2.2.1, bt291.2.2.2.2.2.1, bt291.2.2.2.2.2.2⟩ : S40)⟩ : S42)] : List (S42))))))
set_option maxHeartbeats 8000000 in
set_option maxRecDepth 100000 in
theorem posthornlaw22_Europe.calls  (r1 : ByteArray) (r2 : Int) (r3 : List (S42)) (w : World) (h : posthornlaw22_Europe.f  = some (r1, r2, r3)) :
  Calls Try.prog 23 #[] w fun e w' => ∃ v2_ : Value, e = .returned (.agg #[.string r1, .int .i64 r2, v2_]) ∧ Kd.N k42 42 w' w.heap.size (fun k_ => (w.heap.size ≤ k_)) v2_ r3 ∧ Below w.heap.size w w' := by
 have hu24 := Try.underlying24
 have hu42 := Try.underlying42
 have HB := ad_ (Below.refl w.heap.size w)
 have H : ((posthornlaw22_Europe_1.f 3).bind fun bt278 => ((posthornlaw22_Europe_1.f 10).bind fun bt291 => (some ((⟨#[69]⟩ : ByteArray), 3600, (([(⟨7524000, 3600, 7200, true, (⟨bt278.1, bt278.2.1, bt278.2.2.1, bt278.2.2.2.1, bt278.2.2.2.2.1, bt278.2.2.2.2.2.1, bt278.2.2.2.2.2.2⟩ : S40)⟩ : S42), (⟨25671600, 7200, 3600, true, (⟨bt291.1, bt291.2.1, bt291.2.2.1, bt291.2.2.2.1, bt291.2.2.2.2.1, bt291.2.2.2.2.2.1, bt291.2.2.2.2.2.2⟩ : S40)⟩ : S42)] : List (S42))))))) = some (r1, r2, r3) := h
 clear h
 replace H := Option.bind_eq_some_iff.mp H
 obtain ⟨⟨t278, t279, t280, t281, t282, t285, t288⟩, A10, H⟩ := H
 try dsimp only at H
 have A1 := Aside0.mk A10
 clear A10
 replace H := Option.bind_eq_some_iff.mp H
 obtain ⟨⟨t291, t292, t293, t294, t295, t298, t301⟩, A20, H⟩ := H
 try dsimp only at H
 have A2 := Aside0.mk A20
 clear A20
 obtain ⟨y304, hy304⟩ : ∃ y_ : List (S42), y_ = (([(⟨7524000, 3600, 7200, true, (⟨t278, t279, t280, t281, t282, t285, t288⟩ : S40)⟩ : S42), (⟨25671600, 7200, 3600, true, (⟨t291, t292, t293, t294, t295, t298, t301⟩ : S40)⟩ : S42)] : List (S42))) := ⟨_, rfl⟩
 replace H : (some ((⟨#[69]⟩ : ByteArray), 3600, y304)) = some (r1, r2, r3) := by first | (rw [hy304]; with_reducible exact H) | (have H2_ := (Option.bind_some _ _).symm.trans H; rw [hy304]; with_reducible exact H2_) | (have H2_ := (Option.bind_some _ _).symm.trans H; with_reducible exact H2_) | with_reducible exact H | (rw [hy304]; exact H) | exact H
 have Ny304 := Aside0.mk hy304
 clear hy304
 simp only [Option.some.injEq, Prod.mk.injEq] at H
 obtain ⟨rfl, rfl, rfl⟩ := H
 go_enter Try.func23, Try.ntmps23
 go_wp2_with (first | ((with_reducible refine gate_dst (N := 0) rfl ?_); refine box_event ?hg (N := 0) ?hd (cs := #[.string (⟨#[]⟩ : ByteArray), .int .i64 0, .slice none 0 0]) (t := 24) ?hr ?_; (case hd => rfl); (case hg => rfl); (case hr => first | (go_simp; done) | (go_simp; rfl)); intro gb277 hg w3 hbox hb; have n0_ := ad_ (below_step bel_ hb); have n1_ := ad_ (hbox); have n2_ := ad_ ((by rw [hg]; exact (below_size bel_) : w.heap.size ≤ gb277)); have n3_ := ad_ ((by rw [hg]; exact (below_size bel_) : w.heap.size ≤ gb277)); clear HB; have HB := n0_; have BK277 := n1_; have GW277 := n2_; have GE277 := n3_; clear n0_ n1_ n2_ n3_; clear hb hbox hg) | (go_at_call 44; (with_reducible refine (posthornlaw22_Europe_1.calls 3 t278 t279 t280 t281 t282 t285 t288 _ A1.out).mono ?_); rintro e w4 ⟨v283, v286, v289, rfl, ho0, ho1, ho2, hb⟩; have n0_ := ad_ (Kd.R_lower (Kd.R_newM (M := fun k_ => (w.heap.size ≤ k_)) ho0 (below_size belg_) (fun k_ h_ => h_)) (below_size belg_)); have n1_ := ad_ (Kd.R_lower (Kd.R_newM (M := fun k_ => (w.heap.size ≤ k_)) ho1 (below_size belg_) (fun k_ h_ => h_)) (below_size belg_)); have n2_ := ad_ (Kd.R_lower (Kd.R_newM (M := fun k_ => (w.heap.size ≤ k_)) ho2 (below_size belg_) (fun k_ h_ => h_)) (below_size belg_)); have n3_ := ad_ (blk_below (g := gb277) (o := .cells #[.string (⟨#[]⟩ : ByteArray), .int .i64 0, .slice none 0 0] 24 (0, 0)) (blo_ BK277.out) hb); have n4_ := ad_ (below_step belg_ hb); clear BK277; clear HB; have HO284 := n0_; have HO287 := n1_; have HO290 := n2_; have BK277 := n3_; have HB := n4_; clear n0_ n1_ n2_ n3_ n4_; (try clear hb); (try clear hb2); (try clear hk); (try clear hi); (try clear ho0); (try clear ho1); (try clear ho2); obtain ⟨Ao5, co5, eo5⟩ := Kd.R_slice HO290.out; subst eo5; obtain ⟨Ao6, co6, eo6⟩ := Kd.R_slice HO287.out; subst eo6; obtain ⟨Ao7, co7, eo7⟩ := Kd.R_slice HO284.out; subst eo7) | (go_at_call 44; (with_reducible refine (posthornlaw22_Europe_1.calls 10 t291 t292 t293 t294 t295 t298 t301 _ A2.out).mono ?_); rintro e w8 ⟨v296, v299, v302, rfl, ho0, ho1, ho2, hb⟩; have n0_ := ad_ (Kd.R_mono (Kd.R_told (Kd.R_told (Kd.R_old (rod_ HO284) hb) (Kd.R_base ho0)) (Kd.R_base ho1)) (fun _ h_ => h_.1)); have n1_ := ad_ (Kd.R_mono (Kd.R_told (Kd.R_told (Kd.R_old (rod_ HO287) hb) (Kd.R_base ho0)) (Kd.R_base ho1)) (fun _ h_ => h_.1)); have n2_ := ad_ (Kd.R_elder' (rod_ HO290) (Kd.R_base ho2) hb); have n3_ := ad_ (Kd.R_lower (Kd.R_new' (Kd.R_new' (Kd.R_newM (M := fun k_ => (w.heap.size ≤ k_)) ho0 (below_size belg_) (fun k_ h_ => h_)) (Kd.R_lt (rod_ HO284))) (Kd.R_lt (rod_ HO287))) (below_size belg_)); have n4_ := ad_ (Kd.R_lower (Kd.R_new' (Kd.R_new' (Kd.R_newM (M := fun k_ => (w.heap.size ≤ k_)) ho1 (below_size belg_) (fun k_ h_ => h_)) (Kd.R_lt (rod_ HO284))) (Kd.R_lt (rod_ HO287))) (below_size belg_)); have n5_ := ad_ (Kd.R_lower (Kd.R_new' (Kd.R_newM (M := fun k_ => (w.heap.size ≤ k_)) ho2 (below_size belg_) (fun k_ h_ => h_)) (Kd.R_lt (rod_ HO290))) (below_size belg_)); have n6_ := ad_ (blk_below (g := gb277) (o := .cells #[.string (⟨#[]⟩ : ByteArray), .int .i64 0, .slice none 0 0] 24 (0, 0)) (blo_ BK277.out) hb); have n7_ := ad_ (below_step belg_ hb); clear HO284; clear HO287; clear HO290; clear BK277; clear HB; have HO284 := n0_; have HO287 := n1_; have HO290 := n2_; have HO297 := n3_; have HO300 := n4_; have HO303 := n5_; have BK277 := n6_; have HB := n7_; clear n0_ n1_ n2_ n3_ n4_ n5_ n6_ n7_; (try clear hb); (try clear hb2); (try clear hk); (try clear hi); (try clear ho0); (try clear ho1); (try clear ho2); obtain ⟨Ao9, co9, eo9⟩ := Kd.R_slice HO303.out; subst eo9; obtain ⟨Ao10, co10, eo10⟩ := Kd.R_slice HO300.out; subst eo10; obtain ⟨Ao11, co11, eo11⟩ := Kd.R_slice HO297.out; subst eo11) | ((with_reducible refine gate_dst (N := 8) rfl ?_); refine Kd.N_lit k42 _ 42 ?hg (N' := 8) ?hd (xs := ([(⟨7524000, 3600, 7200, true, (⟨t278, t279, t280, t281, t282, t285, t288⟩ : S40)⟩ : S42), (⟨25671600, 7200, 3600, true, (⟨t291, t292, t293, t294, t295, t298, t301⟩ : S40)⟩ : S42)] : List (S42))) (inner := [.int .i64 7524000, .int .i64 3600, .int .i64 7200, .bool true, .int .i64 t278, .int .i64 t279, .int .i64 t280, .int .i64 t281, .slice Ao7 t282.length co7, .slice Ao6 t285.length co6, .slice Ao5 t288.length co5, .int .i64 25671600, .int .i64 7200, .int .i64 3600, .bool true, .int .i64 t291, .int .i64 t292, .int .i64 t293, .int .i64 t294, .slice Ao11 t295.length co11, .slice Ao10 t298.length co10, .slice Ao9 t301.length co9]) (ok := (fun k_ => (w.heap.size ≤ k_) ∧ k_ ≠ gb277)) (okp := (fun k_ => (w.heap.size ≤ k_) ∧ k_ ≠ gb277)) ?hr ?hp (fun _ hk => hk) ((show ∀ k_, w8.heap.size ≤ k_ → (fun k_ => (w.heap.size ≤ k_) ∧ k_ ≠ gb277) k_ from fun k_ hk => ⟨(Nat.le_trans (below_size belg_) hk), Kd.freshB (g := gb277) (o := .cells #[.string (⟨#[]⟩ : ByteArray), .int .i64 0, .slice none 0 0] 24 (0, 0)) (blo_ BK277.out) k_ hk⟩) _ (Nat.le_refl _)) (Below.refl _ _) (Nat.le_refl _) (by simp) ?_; (case hd => rfl); (case hg => rfl); (case hr => first | (go_simp; done) | (go_simp; rfl)); (case hp => exact (Reps.front (show Kd.FK k42 _ _ (⟨7524000, 3600, 7200, true, (⟨t278, t279, t280, t281, t282, t285, t288⟩ : S40)⟩ : S42) [.int .i64 7524000, .int .i64 3600, .int .i64 7200, .bool true, .int .i64 t278, .int .i64 t279, .int .i64 t280, .int .i64 t281, .slice Ao7 t282.length co7, .slice Ao6 t285.length co6, .slice Ao5 t288.length co5] from (k42_mkF _ _ (⟨7524000, 3600, 7200, true, (⟨t278, t279, t280, t281, t282, t285, t288⟩ : S40)⟩ : S42) (Kd.R_reads' (Kd.R_mono (ok' := (fun k_ => (w.heap.size ≤ k_) ∧ k_ ≠ gb277)) (Kd.R_types (HO284.out) BK277.out (by decide)) (fun k_ hk => ⟨hk.1.1.1.1, hk.2⟩))).2.1 (Kd.R_F (Kd.R_mono (ok' := (fun k_ => (w.heap.size ≤ k_) ∧ k_ ≠ gb277)) (Kd.R_types (HO284.out) BK277.out (by decide)) (fun k_ hk => ⟨hk.1.1.1.1, hk.2⟩))) (Kd.R_reads' (Kd.R_mono (ok' := (fun k_ => (w.heap.size ≤ k_) ∧ k_ ≠ gb277)) (Kd.R_types (HO287.out) BK277.out (by decide)) (fun k_ hk => ⟨hk.1.1.1.1, hk.2⟩))).2.1 (Kd.R_F (Kd.R_mono (ok' := (fun k_ => (w.heap.size ≤ k_) ∧ k_ ≠ gb277)) (Kd.R_types (HO287.out) BK277.out (by decide)) (fun k_ hk => ⟨hk.1.1.1.1, hk.2⟩))) (Kd.R_reads' (Kd.R_mono (ok' := (fun k_ => (w.heap.size ≤ k_) ∧ k_ ≠ gb277)) (Kd.R_types (HO290.out) BK277.out (by decide)) (fun k_ hk => ⟨hk.1.1.1, hk.2⟩))).2.1 (Kd.R_F (Kd.R_mono (ok' := (fun k_ => (w.heap.size ≤ k_) ∧ k_ ≠ gb277)) (Kd.R_types (HO290.out) BK277.out (by decide)) (fun k_ hk => ⟨hk.1.1.1, hk.2⟩))))) rfl (Reps.front (show Kd.FK k42 _ _ (⟨25671600, 7200, 3600, true, (⟨t291, t292, t293, t294, t295, t298, t301⟩ : S40)⟩ : S42) [.int .i64 25671600, .int .i64 7200, .int .i64 3600, .bool true, .int .i64 t291, .int .i64 t292, .int .i64 t293, .int .i64 t294, .slice Ao11 t295.length co11, .slice Ao10 t298.length co10, .slice Ao9 t301.length co9] from (k42_mkF _ _ (⟨25671600, 7200, 3600, true, (⟨t291, t292, t293, t294, t295, t298, t301⟩ : S40)⟩ : S42) (Kd.R_reads' (Kd.R_mono (ok' := (fun k_ => (w.heap.size ≤ k_) ∧ k_ ≠ gb277)) (Kd.R_types (HO297.out) BK277.out (by decide)) (fun k_ hk => ⟨hk.1.1.1.1, hk.2⟩))).2.1 (Kd.R_F (Kd.R_mono (ok' := (fun k_ => (w.heap.size ≤ k_) ∧ k_ ≠ gb277)) (Kd.R_types (HO297.out) BK277.out (by decide)) (fun k_ hk => ⟨hk.1.1.1.1, hk.2⟩))) (Kd.R_reads' (Kd.R_mono (ok' := (fun k_ => (w.heap.size ≤ k_) ∧ k_ ≠ gb277)) (Kd.R_types (HO300.out) BK277.out (by decide)) (fun k_ hk => ⟨hk.1.1.1.1, hk.2⟩))).2.1 (Kd.R_F (Kd.R_mono (ok' := (fun k_ => (w.heap.size ≤ k_) ∧ k_ ≠ gb277)) (Kd.R_types (HO300.out) BK277.out (by decide)) (fun k_ hk => ⟨hk.1.1.1.1, hk.2⟩))) (Kd.R_reads' (Kd.R_mono (ok' := (fun k_ => (w.heap.size ≤ k_) ∧ k_ ≠ gb277)) (Kd.R_types (HO303.out) BK277.out (by decide)) (fun k_ hk => ⟨hk.1.1.1, hk.2⟩))).2.1 (Kd.R_F (Kd.R_mono (ok' := (fun k_ => (w.heap.size ≤ k_) ∧ k_ ≠ gb277)) (Kd.R_types (HO303.out) BK277.out (by decide)) (fun k_ hk => ⟨hk.1.1.1, hk.2⟩))))) rfl (Reps.none _ _) rfl) rfl)); intro v305 w12 ho13 hb hg_ hnew_; clear hg_ hnew_; (first | rw [← Ny304.out] at ho13 | (simp only [Int.reduceToNat] at ho13; rw [← Ny304.out] at ho13)); have n0_ := ad_ (Kd.N_lower ho13 (below_size belg_)); have n1_ := ad_ (blk_below (g := gb277) (o := .cells #[.string (⟨#[]⟩ : ByteArray), .int .i64 0, .slice none 0 0] 24 (0, 0)) (blo_ BK277.out) hb); have n2_ := ad_ (below_step belg_ hb); clear BK277; clear HB; clear HO284; clear HO287; clear HO290; clear HO297; clear HO300; clear HO303; have HO306 := n0_; have BK277 := n1_; have HB := n2_; clear n0_ n1_ n2_; clear hb ho13; obtain ⟨Ao14, co14, eo14⟩ := Kd.N_slice HO306.out; subst eo14; have hcz15_ := cells3_ BK277.out))
 refine bodyPost_ret (results_cell_row rfl _ _ gb277 24 #[.string (⟨#[69]⟩ : ByteArray), .int .i64 3600, .slice Ao14 y304.length co14] (0, 0) _ rfl (by refine blo_ ?_; refine blk_put (cs := #[.string (⟨#[69]⟩ : ByteArray), .int .i64 3600, .slice none 0 0]) ?_ 2 _ rfl; refine blo_ ?_; refine blk_put (cs := #[.string (⟨#[69]⟩ : ByteArray), .int .i64 0, .slice none 0 0]) ?_ 1 _ rfl; refine blo_ ?_; refine blk_put (cs := #[.string (⟨#[]⟩ : ByteArray), .int .i64 0, .slice none 0 0]) ?_ 0 _ rfl; exact blo_ BK277.out) Try.underlying24 rfl (by kernel_rfl)) rfl ?_
 exact ⟨_, ret_, by (with_reducible repeat (first | apply Kd.N_alloc | apply Kd.N_drewN | apply Kd.N_drew)); exact Kd.N_mono (Kd.N_far (p := ⟨gb277, 2, none⟩) (Kd.N_far (p := ⟨gb277, 1, none⟩) (Kd.N_far (p := ⟨gb277, 0, none⟩) (Kd.N_mono HO306.out (fun k_ hk => (⟨hk, hk.2⟩ : _ ∧ k_ ≠ gb277))) (fun _ hk => hk.2) (.string (⟨#[69]⟩ : ByteArray))) (fun _ hk => hk.2) (.int .i64 3600)) (fun _ hk => hk.2) (.slice Ao14 y304.length co14)) (fun _ hk => hk.1.1), belg_⟩

/-! ### zone_Offset_1: function 45 -/
def zone_Offset_1.f (a0 : Int) : Option (ByteArray) := some (strOfNums (([(wrap64 (48 + (wrap64 (Int.tdiv a0 10)))) % 256, (wrap64 (48 + (Int.tmod a0 10))) % 256] : List Int)))
set_option maxHeartbeats 8000000 in
set_option maxRecDepth 100000 in
theorem zone_Offset_1.calls (a0 : Int) (r : ByteArray) (w : World) (h : zone_Offset_1.f a0 = some r) :
  Calls Try.prog 45 #[.int .i64 a0] w fun e w' => e = .returned (.string r) ∧ Below w.heap.size w w' := by
 have HB := ad_ (Below.refl w.heap.size w)
 have H : (some (strOfNums (([(wrap64 (48 + (wrap64 (Int.tdiv a0 10)))) % 256, (wrap64 (48 + (Int.tmod a0 10))) % 256] : List Int)))) = some r := h
 clear h
 obtain ⟨y307, hy307⟩ : ∃ y_ : List Int, y_ = (([(wrap64 (48 + (wrap64 (Int.tdiv a0 10)))) % 256, (wrap64 (48 + (Int.tmod a0 10))) % 256] : List Int)) := ⟨_, rfl⟩
 replace H : (some (strOfNums y307)) = some r := by first | (rw [hy307]; with_reducible exact H) | (have H2_ := (Option.bind_some _ _).symm.trans H; rw [hy307]; with_reducible exact H2_) | (have H2_ := (Option.bind_some _ _).symm.trans H; with_reducible exact H2_) | with_reducible exact H | (rw [hy307]; exact H) | exact H
 have Ny307 := Aside0.mk hy307
 clear hy307
 obtain rfl := Option.some.inj H
 go_enter Try.func45, Try.ntmps45
 go_wp2_with (first | ((with_reducible refine gate_dst (N := 11) rfl ?_); refine Kd.R_lit (Kd.int .u8) _ 5 ?hg (N := 11) ?hd (xs := ([(wrap64 (48 + (wrap64 (Int.tdiv a0 10)))) % 256, (wrap64 (48 + (Int.tmod a0 10))) % 256] : List Int)) (inner := [.int .u8 ((wrap64 (48 + (wrap64 (Int.tdiv a0 10)))) % 256), .int .u8 ((wrap64 (48 + (Int.tmod a0 10))) % 256)]) (ok := fun _ => True) (okp := fun _ => True) ?hr ?hp (fun _ hk => hk) trivial (Below.refl _ _) (Nat.le_refl _) (by simp) ?_; (case hd => rfl); (case hg => rfl); (case hr => first | (go_simp; done) | (go_simp; rfl)); (case hp => exact (Reps.one (show Kd.M (Kd.int .u8) _ _ _ ((wrap64 (48 + (wrap64 (Int.tdiv a0 10)))) % 256) [.int .u8 ((wrap64 (48 + (wrap64 (Int.tdiv a0 10)))) % 256)] from rfl) (Reps.one (show Kd.M (Kd.int .u8) _ _ _ ((wrap64 (48 + (Int.tmod a0 10))) % 256) [.int .u8 ((wrap64 (48 + (Int.tmod a0 10))) % 256)] from rfl) (Reps.none _ _)))); intro v308 w2 ho3 hb hg_ hnew_; clear hg_ hnew_; (first | rw [← Ny307.out] at ho3 | (simp only [Int.reduceToNat] at ho3; rw [← Ny307.out] at ho3)); have n0_ := ad_ (Kd.R_lower ho3 (below_size bel_)); have n1_ := ad_ (below_step bel_ hb); clear HB; have HO309 := n0_; have HB := n1_; clear n0_ n1_; clear hb ho3; have hcv4 := own_string (P := Try.prog) Try.underlying81 Try.underlying5 Try.underlying9 (Kd.own_of_R HO309.out)))
 go_ret
 exact ⟨ret_, bel_⟩

/-! ### zone_Offset: function 24 -/
def zone_Offset.j0 : Nat → Int → ByteArray → Option (ByteArray × Int)
 | 0, _, _ => none
 | k + 1, x0, x4 => (zone_Offset_1.f (wrap64 (Int.tdiv x0 3600))).bind fun t311 => (if x4.size + t311.size ≤ 9223372036854775807 then ((zone_Offset_1.f (Int.tmod (wrap64 (Int.tdiv x0 60)) 60)).bind fun t312 => (if (x4 ++ t311).size + t312.size ≤ 9223372036854775807 then (if (Int.tmod x0 60) = 0 then (some ((x4 ++ t311) ++ t312, 0)) else ((zone_Offset_1.f (Int.tmod x0 60)).bind fun t313 => (if ((x4 ++ t311) ++ t312).size + t313.size ≤ 9223372036854775807 then (some (((x4 ++ t311) ++ t312) ++ t313, 0)) else (none)))) else (none))) else (none))
def zone_Offset.f (k : Nat) (a0 : Int) : Option (ByteArray × Int) := (zone_isShift.f a0).bind fun t310 => (if t310 = true then (if a0 < 0 then (zone_Offset.j0 k (wrap64 (-a0)) (⟨#[45]⟩ : ByteArray)) else (zone_Offset.j0 k a0 (⟨#[43]⟩ : ByteArray))) else (some ((⟨#[]⟩ : ByteArray), 110)))
theorem zone_Offset.mono_l : ∀ k, (∀ y0 y1, LeO (zone_Offset.j0 k y0 y1) (zone_Offset.j0 (k + 1) y0 y1))
 | 0 => fun _ _ r h => by simp [zone_Offset.j0] at h
 | k + 1 => by
  have ih0 := zone_Offset.mono_l k
  ·intro y0 y1
   unfold zone_Offset.j0
   repeat' first
   | (with_reducible exact ih0 ..)
   | (with_reducible exact LeO.refl ..)
   | (with_reducible exact LeO.none ..)
   | (with_reducible refine LeO.ite ?_ ?_)
   | (with_reducible refine LeO.bind ?_ (fun _ => ?_))
   | exact ih0 ..
   | exact LeO.none ..
   | refine LeO.ite ?_ ?_
   | refine LeO.bind ?_ (fun _ => ?_)
theorem zone_Offset.mono : ∀ a0 k, LeO (zone_Offset.f k a0) (zone_Offset.f (k + 1) a0) := by
 intro a0 k
 have ih0 := zone_Offset.mono_l k
 unfold zone_Offset.f
 repeat' first
   | (with_reducible exact ih0 ..)
   | (with_reducible exact LeO.refl ..)
   | (with_reducible exact LeO.none ..)
   | (with_reducible refine LeO.ite ?_ ?_)
   | (with_reducible refine LeO.bind ?_ (fun _ => ?_))
   | exact ih0 ..
   | exact LeO.none ..
   | refine LeO.ite ?_ ?_
   | refine LeO.bind ?_ (fun _ => ?_)
set_option maxHeartbeats 8000000 in
set_option maxRecDepth 100000 in
theorem zone_Offset.calls (k : Nat) (a0 : Int) (r1 : ByteArray) (r2 : Int) (w : World) (h : zone_Offset.f k a0 = some (r1, r2)) :
  Calls Try.prog 24 #[.int .i64 a0] w fun e w' => e = .returned (.tuple #[.string r1, .int .i64 r2]) ∧ Below w.heap.size w w' := by
 have HB := ad_ (Below.refl w.heap.size w)
 have H : ((zone_isShift.f a0).bind fun t310 => (if t310 = true then (if a0 < 0 then (zone_Offset.j0 k (wrap64 (-a0)) (⟨#[45]⟩ : ByteArray)) else (zone_Offset.j0 k a0 (⟨#[43]⟩ : ByteArray))) else (some ((⟨#[]⟩ : ByteArray), 110)))) = some (r1, r2) := h
 clear h
 replace H := Option.bind_eq_some_iff.mp H
 obtain ⟨t310, A20, H⟩ := H
 try dsimp only at H
 have A2 := Aside0.mk A20
 clear A20
 by_cases c3 : t310 = true
 ·subst c3
  have H1 := ifp_ H
  clear H
  have H := H1
  clear H1
  have HC4 := Aside0.mk H
  clear H
  go_enter Try.func24, Try.ntmps24
  go_upto_if 11 with (first | ((with_reducible refine gate_callee (f := 36) rfl ?_); refine goesL_ (some 8) rfl rfl Try.func36 (by kernel_rfl) rfl #[.int .i64 a0] rfl arg_ ?_; (with_reducible refine (zone_isShift.calls a0 true _ A2.out).mono ?_); rintro e w' ⟨rfl, ⟨nd, rfl⟩⟩; refine ⟨_, rfl, ?_⟩))
  (try simp only [Act.put, List.setIfInBounds_toArray, List.set_cons_zero, List.set_cons_succ])
  go_cut [0, 4] (fun v0 v4 wc => ∃ (kq : Nat) (x0_3 : Int) (x4_3 : ByteArray), v0 = .int .i64 x0_3 ∧ v4 = .string x4_3 ∧ Aside0 (zone_Offset.j0 kq x0_3 x4_3 = some (r1, r2)) ∧ Aside0 (kq ≤ k) ∧ Aside0 (Below w.heap.size w wc))
  case first =>
   have H := HC4.out
   clear HC4
   by_cases c5 : a0 < 0
   ·rw [if_pos c5] at H
    have c5b0 : decide (a0 < 0) = true := decide_eq_true c5
    clear c5
    (first | rw [c5b0] | (simp only [i64_w, i32_w]; rw [c5b0]) | skip)
    have H' := Aside0.mk H
    clear H
    go_wp2
    go_meet
    case rel => exact ⟨_, (wrap64 (-a0)), ((⟨#[45]⟩ : ByteArray)), val_, val_, H', ⟨by first | omega | exact Nat.le_refl _⟩, ⟨bel_⟩⟩
   ·rw [if_neg c5] at H
    have c5b0 : decide (a0 < 0) = false := decide_eq_false c5
    clear c5
    (first | rw [c5b0] | (simp only [i64_w, i32_w]; rw [c5b0]) | skip)
    have H' := Aside0.mk H
    clear H
    go_wp2
    go_meet
    case rel => exact ⟨_, (a0), ((⟨#[43]⟩ : ByteArray)), val_, val_, H', ⟨by first | omega | exact Nat.le_refl _⟩, ⟨bel_⟩⟩
  case rest =>
   clear HC4
   try clear c2
   try clear p2
   try clear c3
   try clear c5
   try clear c5b0
   obtain ⟨kq, x0_3, x4_3, rfl, rfl, HA, HJ3, HB⟩ := hcut
   cases kq with
   | zero => exact absurd HA.out (by simp [zone_Offset.j0])
   | succ kj3 =>
    have H := HA.out
    clear HA
    simp only [zone_Offset.j0] at H
    replace H := Option.bind_eq_some_iff.mp H
    obtain ⟨t311, A60, H⟩ := H
    try dsimp only at H
    have A6 := Aside0.mk A60
    clear A60
    by_cases c7 : x4_3.size + t311.size ≤ 9223372036854775807
    ·rw [if_pos c7] at H
     have c7b0 := eq_true c7
     have c7b1 : decide (x4_3.size + t311.size ≤ 9223372036854775807) = true := decide_eq_true c7
     try have c7b2 : (9223372036854775807 < x4_3.size + t311.size) = False := eq_false (Nat.not_lt.2 c7)
     replace H := Option.bind_eq_some_iff.mp H
     obtain ⟨t312, A80, H⟩ := H
     try dsimp only at H
     have A8 := Aside0.mk A80
     clear A80
     by_cases c9 : (x4_3 ++ t311).size + t312.size ≤ 9223372036854775807
     ·rw [if_pos c9] at H
      have c9b0 := eq_true c9
      have c9b1 : decide ((x4_3 ++ t311).size + t312.size ≤ 9223372036854775807) = true := decide_eq_true c9
      try have c9b2 : (9223372036854775807 < (x4_3 ++ t311).size + t312.size) = False := eq_false (Nat.not_lt.2 c9)
      by_cases c10 : (Int.tmod x0_3 60) = 0
      ·rw [if_pos c10] at H
       have c10b0 : ((Int.tmod x0_3 60) == 0) = true := beq_iff_eq.mpr c10
       have c10b1 : ((Int.tmod x0_3 60) != 0) = false := bne_eq_false_iff_eq.mpr c10
       clear c10
       simp only [Option.some.injEq, Prod.mk.injEq] at H
       obtain ⟨rfl, rfl⟩ := H
       go_wp2_with (first | (go_at_call 45; (with_reducible refine (zone_Offset_1.calls (wrap64 (Int.tdiv x0_3 3600)) t311 _ A6.out).mono ?_); rintro e w11 ⟨rfl, hb⟩; have n0_ := ad_ (below_step bel_ hb); clear HB; have HB := n0_; clear n0_; (try clear hb); (try clear hb2); (try clear hk); (try clear hi)) | (go_at_call 45; (with_reducible refine (zone_Offset_1.calls (Int.tmod (wrap64 (Int.tdiv x0_3 60)) 60) t312 _ A8.out).mono ?_); rintro e w12 ⟨rfl, hb⟩; have n0_ := ad_ (below_step bel_ hb); clear HB; have HB := n0_; clear n0_; (try clear hb); (try clear hb2); (try clear hk); (try clear hi)))
       go_ret2
       exact ⟨ret_, bel_⟩
      ·rw [if_neg c10] at H
       have c10b0 : ((Int.tmod x0_3 60) == 0) = false := beq_eq_false_iff_ne.mpr c10
       have c10b1 : ((Int.tmod x0_3 60) != 0) = true := bne_iff_ne.mpr c10
       replace H := Option.bind_eq_some_iff.mp H
       obtain ⟨t313, A130, H⟩ := H
       try dsimp only at H
       have A13 := Aside0.mk A130
       clear A130
       by_cases c14 : ((x4_3 ++ t311) ++ t312).size + t313.size ≤ 9223372036854775807
       ·rw [if_pos c14] at H
        have c14b0 := eq_true c14
        have c14b1 : decide (((x4_3 ++ t311) ++ t312).size + t313.size ≤ 9223372036854775807) = true := decide_eq_true c14
        try have c14b2 : (9223372036854775807 < ((x4_3 ++ t311) ++ t312).size + t313.size) = False := eq_false (Nat.not_lt.2 c14)
        simp only [Option.some.injEq, Prod.mk.injEq] at H
        obtain ⟨rfl, rfl⟩ := H
        go_wp2_with (first | (go_at_call 45; (with_reducible refine (zone_Offset_1.calls (wrap64 (Int.tdiv x0_3 3600)) t311 _ A6.out).mono ?_); rintro e w15 ⟨rfl, hb⟩; have n0_ := ad_ (below_step bel_ hb); clear HB; have HB := n0_; clear n0_; (try clear hb); (try clear hb2); (try clear hk); (try clear hi)) | (go_at_call 45; (with_reducible refine (zone_Offset_1.calls (Int.tmod (wrap64 (Int.tdiv x0_3 60)) 60) t312 _ A8.out).mono ?_); rintro e w16 ⟨rfl, hb⟩; have n0_ := ad_ (below_step bel_ hb); clear HB; have HB := n0_; clear n0_; (try clear hb); (try clear hb2); (try clear hk); (try clear hi)) | (go_at_call 45; (with_reducible refine (zone_Offset_1.calls (Int.tmod x0_3 60) t313 _ A13.out).mono ?_); rintro e w17 ⟨rfl, hb⟩; have n0_ := ad_ (below_step bel_ hb); clear HB; have HB := n0_; clear n0_; (try clear hb); (try clear hb2); (try clear hk); (try clear hi)))
        go_ret2
        exact ⟨ret_, bel_⟩
       ·rw [if_neg c14] at H
        exact absurd H (by simp)
     ·rw [if_neg c9] at H
      exact absurd H (by simp)
    ·rw [if_neg c7] at H
     exact absurd H (by simp)
 ·replace c3 := Bool.eq_false_iff.mpr c3
  subst c3
  have H1 := ifn_ H
  clear H
  have H := H1
  clear H1
  simp only [Option.some.injEq, Prod.mk.injEq] at H
  obtain ⟨rfl, rfl⟩ := H
  go_enter Try.func24, Try.ntmps24
  go_wp2_with (first | ((with_reducible refine gate_callee (f := 36) rfl ?_); refine goesL_ (some 8) rfl rfl Try.func36 (by kernel_rfl) rfl #[.int .i64 a0] rfl arg_ ?_; (with_reducible refine (zone_isShift.calls a0 false _ A2.out).mono ?_); rintro e w' ⟨rfl, ⟨nd, rfl⟩⟩; refine ⟨_, rfl, ?_⟩))
  go_ret2
  exact ⟨ret_, bel_⟩

/-! ### posthornlaw22_alive: function 9 -/
def posthornlaw22_alive.f (k : Nat)  : Option (Bool) := (posthornlaw22_Europe.f).bind fun bt314 => ((zone_Moments.f k bt314.1 bt314.2.1 bt314.2.2 7525800).bind fun bt320 => ((zone_Moments.f k bt314.1 bt314.2.1 bt314.2.2 25669800).bind fun bt324 => ((zone_Shift.f k bt314.1 bt314.2.1 bt314.2.2 10000000).bind fun bt328 => ((zone_Offset.f k (-3601)).bind fun bt330 => ((zone_Shift.f k (⟨#[]⟩ : ByteArray) 0 ([] : List (S42)) 0).bind fun bt332 => (if bt320.2 = 0 then (if (bt320.1.length : Int) = 0 then (if bt324.2 = 0 then (if (bt324.1.length : Int) = 2 then (if bt328.1 = 7200 then (if bt328.2 = 0 then (if bt330.1.toList = ([45, 48, 49, 48, 48, 48, 49] : List UInt8) then (if bt330.2 = 0 then (some (bt332.2 == 3)) else (some false)) else (some false)) else (some false)) else (some false)) else (some false)) else (some false)) else (some false)) else (some false)))))))
theorem posthornlaw22_alive.mono : ∀ k, LeO (posthornlaw22_alive.f k ) (posthornlaw22_alive.f (k + 1) ) := by
 intro  k
 unfold posthornlaw22_alive.f
 repeat' first
   | (with_reducible exact zone_Moments.mono ..)
   | (with_reducible exact zone_Offset.mono ..)
   | (with_reducible exact zone_Shift.mono ..)
   | (with_reducible exact LeO.refl ..)
   | (with_reducible exact LeO.none ..)
   | (with_reducible refine LeO.ite ?_ ?_)
   | (with_reducible refine LeO.bind ?_ (fun _ => ?_))
   | exact zone_Moments.mono ..
   | exact zone_Offset.mono ..
   | exact zone_Shift.mono ..
   | exact LeO.none ..
   | refine LeO.ite ?_ ?_
   | refine LeO.bind ?_ (fun _ => ?_)
set_option maxHeartbeats 8000000 in
set_option maxRecDepth 100000 in
theorem posthornlaw22_alive.calls (k : Nat)  (r : Bool) (w : World) (h : posthornlaw22_alive.f k  = some r) (hr_ : Aside0 (r = true) := by first | exact ⟨rfl⟩ | assumption) :
  Calls Try.prog 9 #[] w fun e w' => e = .returned (.bool r) ∧ Below w.heap.size w w' := by
 have hu24 := Try.underlying24
 have HB := ad_ (Below.refl w.heap.size w)
 have H : ((posthornlaw22_Europe.f).bind fun bt314 => ((zone_Moments.f k bt314.1 bt314.2.1 bt314.2.2 7525800).bind fun bt320 => ((zone_Moments.f k bt314.1 bt314.2.1 bt314.2.2 25669800).bind fun bt324 => ((zone_Shift.f k bt314.1 bt314.2.1 bt314.2.2 10000000).bind fun bt328 => ((zone_Offset.f k (-3601)).bind fun bt330 => ((zone_Shift.f k (⟨#[]⟩ : ByteArray) 0 ([] : List (S42)) 0).bind fun bt332 => (if bt320.2 = 0 then (if (bt320.1.length : Int) = 0 then (if bt324.2 = 0 then (if (bt324.1.length : Int) = 2 then (if bt328.1 = 7200 then (if bt328.2 = 0 then (if bt330.1.toList = ([45, 48, 49, 48, 48, 48, 49] : List UInt8) then (if bt330.2 = 0 then (some (bt332.2 == 3)) else (some false)) else (some false)) else (some false)) else (some false)) else (some false)) else (some false)) else (some false)) else (some false)))))))) = some r := h
 clear h
 replace H := Option.bind_eq_some_iff.mp H
 obtain ⟨⟨t314, t315, t316⟩, A10, H⟩ := H
 try dsimp only at H
 have A1 := Aside0.mk A10
 clear A10
 replace H := Option.bind_eq_some_iff.mp H
 obtain ⟨⟨t320, t323⟩, A20, H⟩ := H
 try dsimp only at H
 have A2 := Aside0.mk A20
 clear A20
 replace H := Option.bind_eq_some_iff.mp H
 obtain ⟨⟨t324, t327⟩, A30, H⟩ := H
 try dsimp only at H
 have A3 := Aside0.mk A30
 clear A30
 replace H := Option.bind_eq_some_iff.mp H
 obtain ⟨⟨t328, t329⟩, A40, H⟩ := H
 try dsimp only at H
 have A4 := Aside0.mk A40
 clear A40
 replace H := Option.bind_eq_some_iff.mp H
 obtain ⟨⟨t330, t331⟩, A50, H⟩ := H
 try dsimp only at H
 have A5 := Aside0.mk A50
 clear A50
 replace H := Option.bind_eq_some_iff.mp H
 obtain ⟨⟨t332, t333⟩, A60, H⟩ := H
 try dsimp only at H
 have A6 := Aside0.mk A60
 clear A60
 by_cases c7 : t323 = 0
 ·rw [if_pos c7] at H
  have c7b0 : (t323 == 0) = true := beq_iff_eq.mpr c7
  have c7b1 : (t323 != 0) = false := bne_eq_false_iff_eq.mpr c7
  clear c7
  by_cases c8 : (t320.length : Int) = 0
  ·rw [if_pos c8] at H
   have c8b0 : ((t320.length : Int) == 0) = true := beq_iff_eq.mpr c8
   have c8b1 : ((t320.length : Int) != 0) = false := bne_eq_false_iff_eq.mpr c8
   clear c8
   by_cases c9 : t327 = 0
   ·rw [if_pos c9] at H
    have c9b0 : (t327 == 0) = true := beq_iff_eq.mpr c9
    have c9b1 : (t327 != 0) = false := bne_eq_false_iff_eq.mpr c9
    clear c9
    by_cases c10 : (t324.length : Int) = 2
    ·rw [if_pos c10] at H
     have c10b0 : ((t324.length : Int) == 2) = true := beq_iff_eq.mpr c10
     have c10b1 : ((t324.length : Int) != 2) = false := bne_eq_false_iff_eq.mpr c10
     clear c10
     by_cases c11 : t328 = 7200
     ·rw [if_pos c11] at H
      have c11b0 : (t328 == 7200) = true := beq_iff_eq.mpr c11
      have c11b1 : (t328 != 7200) = false := bne_eq_false_iff_eq.mpr c11
      clear c11
      by_cases c12 : t329 = 0
      ·rw [if_pos c12] at H
       have c12b0 : (t329 == 0) = true := beq_iff_eq.mpr c12
       have c12b1 : (t329 != 0) = false := bne_eq_false_iff_eq.mpr c12
       clear c12
       by_cases c13 : t330.toList = ([45, 48, 49, 48, 48, 48, 49] : List UInt8)
       ·rw [if_pos c13] at H
        have c13b0 : (t330.toList == ([45, 48, 49, 48, 48, 48, 49] : List UInt8)) = true := beq_iff_eq.mpr c13
        have c13b1 : (t330.toList != ([45, 48, 49, 48, 48, 48, 49] : List UInt8)) = false := bne_eq_false_iff_eq.mpr c13
        clear c13
        by_cases c14 : t331 = 0
        ·rw [if_pos c14] at H
         have c14b0 : (t331 == 0) = true := beq_iff_eq.mpr c14
         have c14b1 : (t331 != 0) = false := bne_eq_false_iff_eq.mpr c14
         clear c14
         obtain rfl := Option.some.inj H
         go_enter Try.func9, Try.ntmps9
         go_wp2_with (first | ((with_reducible refine gate_callee (f := 23) rfl ?_); refine goesL_ (some 12) rfl rfl Try.func23 (by kernel_rfl) rfl #[] rfl arg_ ?_; (with_reducible refine (posthornlaw22_Europe.calls  t314 t315 t316 _ A1.out).mono ?_); rintro e w15 ⟨v317, rfl, ho0, hb⟩; refine ⟨_, rfl, ?_⟩; have n0_ := ad_ (Kd.N_lower (Kd.N_mono (ok' := fun k_ => True) ho0 (fun k_ hk_ => trivial)) (below_size bel_)); have n1_ := ad_ (below_step bel_ hb); clear HB; have HO318 := n0_; have HB := n1_; clear n0_ n1_; (try clear hb); (try clear hb2); (try clear hk); (try clear hi); (try clear ho0)) | ((with_reducible refine gate_dst (N := 1) rfl ?_); (try (refine gate_guard (by rfl) ?_; dsimp only)); refine box_event ?hg (N := 1) ?hd (cs := #[.string (⟨#[]⟩ : ByteArray), .int .i64 0, .slice none 0 0]) (t := 24) ?hr ?_; (case hd => rfl); (case hg => rfl); (case hr => first | (go_simp; done) | (go_simp; rfl)); intro gb319 hg w16 hbox hb; have n0_ := ad_ (Kd.N_below (Kd.N_elderB (by (with_reducible repeat (first | apply Kd.N_alloc | apply Kd.N_drewN | apply Kd.N_drew)); exact HO318.out) gb319 (Nat.le_of_eq hg.symm)) hb); have n1_ := ad_ (below_step bel_ hb); have n2_ := ad_ (hbox); have n3_ := ad_ ((by rw [hg]; exact (below_size bel_) : w.heap.size ≤ gb319)); have n4_ := ad_ ((by rw [hg]; exact (below_size bel_) : w.heap.size ≤ gb319)); clear HO318; clear HB; have HO318 := n0_; have HB := n1_; have BK319 := n2_; have GW319 := n3_; have GE319 := n4_; clear n0_ n1_ n2_ n3_ n4_; clear hb hbox hg; have hcz17_ := cells3_ BK319.out; obtain ⟨Ao18, co18, eo18⟩ := Kd.N_slice HO318.out; subst eo18) | ((with_reducible refine gate_callee (f := 17) rfl ?_); refine goesL_ (some 15) rfl rfl Try.func17 (by kernel_rfl) rfl #[.agg #[.string t314, .int .i64 t315, .slice Ao18 t316.length co18], .int .i64 7525800] rfl arg_ ?_; (with_reducible refine (zone_Moments.calls k t314 t315 _ _ t316 7525800 t320 t323 _ ?side1 ?side2 A2.out).mono ?_); (case side1 => refine (Kd.N_reads' (e := 42) (base := w.heap.size) (ok := fun k_ => (True ∧ k_ ≠ gb319)) (n := t316.length) (c := co18) ?_).2.2; exact (by (with_reducible repeat (first | apply Kd.N_alloc | apply Kd.N_drewN | apply Kd.N_drew)); exact (Kd.N_mono (Kd.N_far (p := ⟨gb319, 2, none⟩) (Kd.N_far (p := ⟨gb319, 1, none⟩) (Kd.N_far (p := ⟨gb319, 0, none⟩) (Kd.N_mono HO318.out (fun k_ hk => (⟨hk, hk.2⟩ : _ ∧ k_ ≠ gb319))) (fun _ hk => hk.2) (.string t314)) (fun _ hk => hk.2) (.int .i64 t315)) (fun _ hk => hk.2) (.slice Ao18 t316.length co18)) (fun _ h_ => h_.1)))); (case side2 => exact (Kd.N_reads' HO318.out).2.1); rintro e w19 ⟨v321, rfl, ho0, hb⟩; refine ⟨_, rfl, ?_⟩; have n0_ := ad_ (Kd.N_elder' (by (with_reducible repeat (first | apply Kd.N_alloc | apply Kd.N_drewN | apply Kd.N_drew)); exact (Kd.N_mono (Kd.N_far (p := ⟨gb319, 2, none⟩) (Kd.N_far (p := ⟨gb319, 1, none⟩) (Kd.N_far (p := ⟨gb319, 0, none⟩) (Kd.N_mono HO318.out (fun k_ hk => (⟨hk, hk.2⟩ : _ ∧ k_ ≠ gb319))) (fun _ hk => hk.2) (.string t314)) (fun _ hk => hk.2) (.int .i64 t315)) (fun _ hk => hk.2) (.slice Ao18 t316.length co18)) (fun _ h_ => h_.1))) (Kd.R_base ho0) hb); have n1_ := ad_ (Kd.R_lower ho0 (below_size belg_)); have n2_ := ad_ (blk_below (g := gb319) (o := .cells #[.string t314, .int .i64 t315, .slice Ao18 t316.length co18] 24 (0, 0)) (by refine blo_ ?_; refine blk_put (cs := #[.string t314, .int .i64 t315, .slice none 0 0]) ?_ 2 _ rfl; refine blo_ ?_; refine blk_put (cs := #[.string t314, .int .i64 0, .slice none 0 0]) ?_ 1 _ rfl; refine blo_ ?_; refine blk_put (cs := #[.string (⟨#[]⟩ : ByteArray), .int .i64 0, .slice none 0 0]) ?_ 0 _ rfl; exact blo_ BK319.out) hb); have n3_ := ad_ (below_step belg_ hb); clear HO318; clear BK319; clear HB; have HO318 := n0_; have HO322 := n1_; have BK319 := n2_; have HB := n3_; clear n0_ n1_ n2_ n3_; (try clear hb); (try clear hb2); (try clear hk); (try clear hi); (try clear ho0); have hcz20_ := cells3_ BK319.out) | ((with_reducible refine gate_callee (f := 17) rfl ?_); refine goesL_ (some 20) rfl rfl Try.func17 (by kernel_rfl) rfl #[.agg #[.string t314, .int .i64 t315, .slice Ao18 t316.length co18], .int .i64 25669800] rfl arg_ ?_; (with_reducible refine (zone_Moments.calls k t314 t315 _ _ t316 25669800 t324 t327 _ ?side1 ?side2 A3.out).mono ?_); (case side1 => exact cop_ (Kd.N_reads' HO318.out).2.2); (case side2 => exact (Kd.N_reads' HO318.out).2.1); rintro e w21 ⟨v325, rfl, ho0, hb⟩; refine ⟨_, rfl, ?_⟩; have n0_ := ad_ (Kd.N_elder' (by (with_reducible repeat (first | apply Kd.N_alloc | apply Kd.N_drewN | apply Kd.N_drew)); exact HO318.out) (Kd.R_base ho0) hb); have n1_ := ad_ (Kd.R_elder' (rod_ HO322) (Kd.R_base ho0) hb); have n2_ := ad_ (Kd.R_lower (Kd.R_new' ho0 (Kd.R_lt (rod_ HO322))) (below_size belg_)); have n3_ := ad_ (blk_below (g := gb319) (o := .cells #[.string t314, .int .i64 t315, .slice Ao18 t316.length co18] 24 (0, 0)) (blo_ BK319.out) hb); have n4_ := ad_ (below_step belg_ hb); clear HO318; clear HO322; clear BK319; clear HB; have HO318 := n0_; have HO322 := n1_; have HO326 := n2_; have BK319 := n3_; have HB := n4_; clear n0_ n1_ n2_ n3_ n4_; (try clear hb); (try clear hb2); (try clear hk); (try clear hi); (try clear ho0); have hcz22_ := cells3_ BK319.out) | ((with_reducible refine gate_callee (f := 11) rfl ?_); refine goesL_ (some 25) rfl rfl Try.func11 (by kernel_rfl) rfl #[.agg #[.string t314, .int .i64 t315, .slice Ao18 t316.length co18], .int .i64 10000000] rfl arg_ ?_; (with_reducible refine (zone_Shift.calls k t314 t315 _ _ t316 10000000 t328 t329 _ ?side1 ?side2 A4.out).mono ?_); (case side1 => exact cop_ (Kd.N_reads' HO318.out).2.2); (case side2 => exact (Kd.N_reads' HO318.out).2.1); rintro e w23 ⟨rfl, hb⟩; refine ⟨_, rfl, ?_⟩; have n0_ := ad_ (Kd.N_below (by (with_reducible repeat (first | apply Kd.N_alloc | apply Kd.N_drewN | apply Kd.N_drew)); exact HO318.out) hb); have n1_ := ad_ (Kd.R_below (rod_ HO322) hb); have n2_ := ad_ (Kd.R_below (rod_ HO326) hb); have n3_ := ad_ (blk_below (g := gb319) (o := .cells #[.string t314, .int .i64 t315, .slice Ao18 t316.length co18] 24 (0, 0)) (blo_ BK319.out) hb); have n4_ := ad_ (below_step belg_ hb); clear HO318; clear HO322; clear HO326; clear BK319; clear HB; have HO318 := n0_; have HO322 := n1_; have HO326 := n2_; have BK319 := n3_; have HB := n4_; clear n0_ n1_ n2_ n3_ n4_; (try clear hb); (try clear hb2); (try clear hk); (try clear hi)) | ((with_reducible refine gate_callee (f := 24) rfl ?_); refine goesL_ (some 29) rfl rfl Try.func24 (by kernel_rfl) rfl #[.int .i64 (-3601)] rfl arg_ ?_; (with_reducible refine (zone_Offset.calls k (-3601) t330 t331 _ A5.out).mono ?_); rintro e w24 ⟨rfl, hb⟩; refine ⟨_, rfl, ?_⟩; have n0_ := ad_ (Kd.N_below (by (with_reducible repeat (first | apply Kd.N_alloc | apply Kd.N_drewN | apply Kd.N_drew)); exact HO318.out) hb); have n1_ := ad_ (Kd.R_below (rod_ HO322) hb); have n2_ := ad_ (Kd.R_below (rod_ HO326) hb); have n3_ := ad_ (blk_below (g := gb319) (o := .cells #[.string t314, .int .i64 t315, .slice Ao18 t316.length co18] 24 (0, 0)) (blo_ BK319.out) hb); have n4_ := ad_ (below_step belg_ hb); clear HO318; clear HO322; clear HO326; clear BK319; clear HB; have HO318 := n0_; have HO322 := n1_; have HO326 := n2_; have BK319 := n3_; have HB := n4_; clear n0_ n1_ n2_ n3_ n4_; (try clear hb); (try clear hb2); (try clear hk); (try clear hi)) | ((with_reducible refine gate_callee (f := 11) rfl ?_); refine goesL_ (some 34) rfl rfl Try.func11 (by kernel_rfl) rfl #[.agg #[.string (⟨#[]⟩ : ByteArray), .int .i64 0, .slice none 0 0], .int .i64 0] rfl arg_ ?_; (refine (zone_Shift.calls k (⟨#[]⟩ : ByteArray) 0 _ _ ([] : List (S42)) 0 t332 t333 _ ?side1 ?side2 A6.out).mono ?_); (case side1 => exact Kd.C_nil _ _); (case side2 => exact Nat.le_refl _); rintro e w25 ⟨rfl, hb⟩; refine ⟨_, rfl, ?_⟩; have n0_ := ad_ (Kd.N_below (by (with_reducible repeat (first | apply Kd.N_alloc | apply Kd.N_drewN | apply Kd.N_drew)); exact HO318.out) hb); have n1_ := ad_ (Kd.R_below (rod_ HO322) hb); have n2_ := ad_ (Kd.R_below (rod_ HO326) hb); have n3_ := ad_ (blk_below (g := gb319) (o := .cells #[.string t314, .int .i64 t315, .slice Ao18 t316.length co18] 24 (0, 0)) (blo_ BK319.out) hb); have n4_ := ad_ (below_step belg_ hb); clear HO318; clear HO322; clear HO326; clear BK319; clear HB; have HO318 := n0_; have HO322 := n1_; have HO326 := n2_; have BK319 := n3_; have HB := n4_; clear n0_ n1_ n2_ n3_ n4_; (try clear hb); (try clear hb2); (try clear hk); (try clear hi); obtain ⟨Ao26, co26, eo26⟩ := Kd.R_slice HO322.out; subst eo26; obtain ⟨Ao27, co27, eo27⟩ := Kd.R_slice HO326.out; subst eo27))
         go_ret
         exact ⟨ret_, belg_⟩
        ·rw [if_neg c14] at H
         have c14b0 : (t331 == 0) = false := beq_eq_false_iff_ne.mpr c14
         have c14b1 : (t331 != 0) = true := bne_iff_ne.mpr c14
         exact absurd (Option.some.inj H) (by rw [hr_.out]; decide)
       ·rw [if_neg c13] at H
        have c13b0 : (t330.toList == ([45, 48, 49, 48, 48, 48, 49] : List UInt8)) = false := beq_eq_false_iff_ne.mpr c13
        have c13b1 : (t330.toList != ([45, 48, 49, 48, 48, 48, 49] : List UInt8)) = true := bne_iff_ne.mpr c13
        exact absurd (Option.some.inj H) (by rw [hr_.out]; decide)
      ·rw [if_neg c12] at H
       have c12b0 : (t329 == 0) = false := beq_eq_false_iff_ne.mpr c12
       have c12b1 : (t329 != 0) = true := bne_iff_ne.mpr c12
       exact absurd (Option.some.inj H) (by rw [hr_.out]; decide)
     ·rw [if_neg c11] at H
      have c11b0 : (t328 == 7200) = false := beq_eq_false_iff_ne.mpr c11
      have c11b1 : (t328 != 7200) = true := bne_iff_ne.mpr c11
      exact absurd (Option.some.inj H) (by rw [hr_.out]; decide)
    ·rw [if_neg c10] at H
     have c10b0 : ((t324.length : Int) == 2) = false := beq_eq_false_iff_ne.mpr c10
     have c10b1 : ((t324.length : Int) != 2) = true := bne_iff_ne.mpr c10
     exact absurd (Option.some.inj H) (by rw [hr_.out]; decide)
   ·rw [if_neg c9] at H
    have c9b0 : (t327 == 0) = false := beq_eq_false_iff_ne.mpr c9
    have c9b1 : (t327 != 0) = true := bne_iff_ne.mpr c9
    exact absurd (Option.some.inj H) (by rw [hr_.out]; decide)
  ·rw [if_neg c8] at H
   have c8b0 : ((t320.length : Int) == 0) = false := beq_eq_false_iff_ne.mpr c8
   have c8b1 : ((t320.length : Int) != 0) = true := bne_iff_ne.mpr c8
   have c8b2 : ¬ (t320 = []) := fun h_ => c8 (by rw [h_]; rfl)
   exact absurd (Option.some.inj H) (by rw [hr_.out]; decide)
 ·rw [if_neg c7] at H
  have c7b0 : (t323 == 0) = false := beq_eq_false_iff_ne.mpr c7
  have c7b1 : (t323 != 0) = true := bne_iff_ne.mpr c7
  exact absurd (Option.some.inj H) (by rw [hr_.out]; decide)

/-! ### zone_Local: function 13 -/
def zone_Local.f (k : Nat) (a0_0 : ByteArray) (a0_1 : Int) (l0_2 : List (S42)) (a1 : Int) : Option (Int × Int) := (zone_Shift.f k a0_0 a0_1 l0_2 a1).bind fun bt335 => (if bt335.2 = 0 then ((when_Right.f (wrap64 (a1 + bt335.1))).bind fun t337 => (if t337 = true then (some (wrap64 (a1 + bt335.1), 0)) else (some (0, 110)))) else (some (0, bt335.2)))
theorem zone_Local.mono : ∀ a0 a1 a2 a3 k, LeO (zone_Local.f k a0 a1 a2 a3) (zone_Local.f (k + 1) a0 a1 a2 a3) := by
 intro a0 a1 a2 a3 k
 unfold zone_Local.f
 repeat' first
   | (with_reducible exact zone_Shift.mono ..)
   | (with_reducible exact LeO.refl ..)
   | (with_reducible exact LeO.none ..)
   | (with_reducible refine LeO.ite ?_ ?_)
   | (with_reducible refine LeO.bind ?_ (fun _ => ?_))
   | exact zone_Shift.mono ..
   | exact LeO.none ..
   | refine LeO.ite ?_ ?_
   | refine LeO.bind ?_ (fun _ => ?_)
set_option maxHeartbeats 8000000 in
set_option maxRecDepth 100000 in
theorem zone_Local.calls (k : Nat) (a0_0 : ByteArray) (a0_1 : Int) (A0_2 : Option Addr) (c0_2 : Nat) (l0_2 : List (S42)) (a1 : Int) (r1 : Int) (r2 : Int) (w : World) (hr0_2 : Kd.C k42 w A0_2 l0_2.length l0_2) (hc0_2 : l0_2.length ≤ c0_2) (h : zone_Local.f k a0_0 a0_1 l0_2 a1 = some (r1, r2)) :
  Calls Try.prog 13 #[.agg #[.string a0_0, .int .i64 a0_1, .slice A0_2 l0_2.length c0_2], .int .i64 a1] w fun e w' => e = .returned (.tuple #[.int .i64 r1, .int .i64 r2]) ∧ Below w.heap.size w w' := by
 have hu24 := Try.underlying24
 have HR0_2 := Aside0.mk hr0_2
 have HC0_2 := Aside0.mk hc0_2
 clear hr0_2 hc0_2
 have HB := ad_ (Below.refl w.heap.size w)
 have H : ((zone_Shift.f k a0_0 a0_1 l0_2 a1).bind fun bt335 => (if bt335.2 = 0 then ((when_Right.f (wrap64 (a1 + bt335.1))).bind fun t337 => (if t337 = true then (some (wrap64 (a1 + bt335.1), 0)) else (some (0, 110)))) else (some (0, bt335.2)))) = some (r1, r2) := h
 clear h
 replace H := Option.bind_eq_some_iff.mp H
 obtain ⟨⟨t335, t336⟩, A30, H⟩ := H
 try dsimp only at H
 have A3 := Aside0.mk A30
 clear A30
 by_cases c4 : t336 = 0
 ·rw [if_pos c4] at H
  have c4b0 : (t336 == 0) = true := beq_iff_eq.mpr c4
  have c4b1 : (t336 != 0) = false := bne_eq_false_iff_eq.mpr c4
  clear c4
  replace H := Option.bind_eq_some_iff.mp H
  obtain ⟨t337, A50, H⟩ := H
  try dsimp only at H
  have A5 := Aside0.mk A50
  clear A50
  by_cases c6 : t337 = true
  ·subst c6
   have H1 := ifp_ H
   clear H
   have H := H1
   clear H1
   simp only [Option.some.injEq, Prod.mk.injEq] at H
   obtain ⟨rfl, rfl⟩ := H
   go_enter Try.func13, Try.ntmps13
   go_wp2_with (first | ((with_reducible refine gate_dst (N := 2) rfl ?_); refine box_event ?hg (N := 2) ?hd (cs := #[.string a0_0, .int .i64 a0_1, .slice A0_2 l0_2.length c0_2]) (t := 24) ?hr ?_; (case hd => rfl); (case hg => rfl); (case hr => first | (go_simp; done) | (go_simp; rfl)); intro gb334 hg w7 hbox hb; have n0_ := ad_ (below_step bel_ hb); have n1_ := ad_ (hbox); have n2_ := ad_ ((by rw [hg]; exact (below_size bel_) : w.heap.size ≤ gb334)); have n3_ := ad_ ((by rw [hg]; exact (below_size bel_) : w.heap.size ≤ gb334)); clear HB; have HB := n0_; have BK334 := n1_; have GW334 := n2_; have GE334 := n3_; clear n0_ n1_ n2_ n3_; clear hb hbox hg; have hcz8_ := cells3_ BK334.out) | ((with_reducible refine gate_callee (f := 11) rfl ?_); refine goesL_ (some 11) rfl rfl Try.func11 (by kernel_rfl) rfl #[.agg #[.string a0_0, .int .i64 a0_1, .slice A0_2 l0_2.length c0_2], .int .i64 a1] rfl arg_ ?_; (with_reducible refine (zone_Shift.calls k a0_0 a0_1 _ _ l0_2 a1 t335 t336 _ ?side1 ?side2 A3.out).mono ?_); (case side1 => exact cop_ (Kd.C_below HR0_2.out HB.out)); (case side2 => exact HC0_2.out); rintro e w9 ⟨rfl, hb⟩; refine ⟨_, rfl, ?_⟩; have n0_ := ad_ (blk_below (g := gb334) (o := .cells #[.string a0_0, .int .i64 a0_1, .slice A0_2 l0_2.length c0_2] 24 (0, 0)) (blo_ BK334.out) hb); have n1_ := ad_ (below_step belg_ hb); clear BK334; clear HB; have BK334 := n0_; have HB := n1_; clear n0_ n1_; (try clear hb); (try clear hb2); (try clear hk); (try clear hi)) | ((with_reducible refine gate_callee (f := 26) rfl ?_); refine goesL_ (some 20) rfl rfl Try.func26 (by kernel_rfl) rfl #[.int .i64 (wrap64 (a1 + t335))] rfl arg_ ?_; (with_reducible refine (when_Right.calls (wrap64 (a1 + t335)) true _ A5.out).mono ?_); rintro e w' ⟨rfl, ⟨nd, rfl⟩⟩; refine ⟨_, rfl, ?_⟩))
   go_ret2
   exact ⟨ret_, belg_⟩
  ·replace c6 := Bool.eq_false_iff.mpr c6
   subst c6
   have H1 := ifn_ H
   clear H
   have H := H1
   clear H1
   simp only [Option.some.injEq, Prod.mk.injEq] at H
   obtain ⟨rfl, rfl⟩ := H
   go_enter Try.func13, Try.ntmps13
   go_wp2_with (first | ((with_reducible refine gate_dst (N := 2) rfl ?_); refine box_event ?hg (N := 2) ?hd (cs := #[.string a0_0, .int .i64 a0_1, .slice A0_2 l0_2.length c0_2]) (t := 24) ?hr ?_; (case hd => rfl); (case hg => rfl); (case hr => first | (go_simp; done) | (go_simp; rfl)); intro gb334 hg w10 hbox hb; have n0_ := ad_ (below_step bel_ hb); have n1_ := ad_ (hbox); have n2_ := ad_ ((by rw [hg]; exact (below_size bel_) : w.heap.size ≤ gb334)); have n3_ := ad_ ((by rw [hg]; exact (below_size bel_) : w.heap.size ≤ gb334)); clear HB; have HB := n0_; have BK334 := n1_; have GW334 := n2_; have GE334 := n3_; clear n0_ n1_ n2_ n3_; clear hb hbox hg; have hcz11_ := cells3_ BK334.out) | ((with_reducible refine gate_callee (f := 11) rfl ?_); refine goesL_ (some 11) rfl rfl Try.func11 (by kernel_rfl) rfl #[.agg #[.string a0_0, .int .i64 a0_1, .slice A0_2 l0_2.length c0_2], .int .i64 a1] rfl arg_ ?_; (with_reducible refine (zone_Shift.calls k a0_0 a0_1 _ _ l0_2 a1 t335 t336 _ ?side1 ?side2 A3.out).mono ?_); (case side1 => exact cop_ (Kd.C_below HR0_2.out HB.out)); (case side2 => exact HC0_2.out); rintro e w12 ⟨rfl, hb⟩; refine ⟨_, rfl, ?_⟩; have n0_ := ad_ (blk_below (g := gb334) (o := .cells #[.string a0_0, .int .i64 a0_1, .slice A0_2 l0_2.length c0_2] 24 (0, 0)) (blo_ BK334.out) hb); have n1_ := ad_ (below_step belg_ hb); clear BK334; clear HB; have BK334 := n0_; have HB := n1_; clear n0_ n1_; (try clear hb); (try clear hb2); (try clear hk); (try clear hi)) | ((with_reducible refine gate_callee (f := 26) rfl ?_); refine goesL_ (some 20) rfl rfl Try.func26 (by kernel_rfl) rfl #[.int .i64 (wrap64 (a1 + t335))] rfl arg_ ?_; (with_reducible refine (when_Right.calls (wrap64 (a1 + t335)) false _ A5.out).mono ?_); rintro e w' ⟨rfl, ⟨nd, rfl⟩⟩; refine ⟨_, rfl, ?_⟩))
   go_ret2
   exact ⟨ret_, belg_⟩
 ·rw [if_neg c4] at H
  have c4b0 : (t336 == 0) = false := beq_eq_false_iff_ne.mpr c4
  have c4b1 : (t336 != 0) = true := bne_iff_ne.mpr c4
  simp only [Option.some.injEq, Prod.mk.injEq] at H
  obtain ⟨rfl, rfl⟩ := H
  go_enter Try.func13, Try.ntmps13
  go_wp2_with (first | ((with_reducible refine gate_dst (N := 2) rfl ?_); refine box_event ?hg (N := 2) ?hd (cs := #[.string a0_0, .int .i64 a0_1, .slice A0_2 l0_2.length c0_2]) (t := 24) ?hr ?_; (case hd => rfl); (case hg => rfl); (case hr => first | (go_simp; done) | (go_simp; rfl)); intro gb334 hg w13 hbox hb; have n0_ := ad_ (below_step bel_ hb); have n1_ := ad_ (hbox); have n2_ := ad_ ((by rw [hg]; exact (below_size bel_) : w.heap.size ≤ gb334)); have n3_ := ad_ ((by rw [hg]; exact (below_size bel_) : w.heap.size ≤ gb334)); clear HB; have HB := n0_; have BK334 := n1_; have GW334 := n2_; have GE334 := n3_; clear n0_ n1_ n2_ n3_; clear hb hbox hg; have hcz14_ := cells3_ BK334.out) | ((with_reducible refine gate_callee (f := 11) rfl ?_); refine goesL_ (some 11) rfl rfl Try.func11 (by kernel_rfl) rfl #[.agg #[.string a0_0, .int .i64 a0_1, .slice A0_2 l0_2.length c0_2], .int .i64 a1] rfl arg_ ?_; (with_reducible refine (zone_Shift.calls k a0_0 a0_1 _ _ l0_2 a1 t335 t336 _ ?side1 ?side2 A3.out).mono ?_); (case side1 => exact cop_ (Kd.C_below HR0_2.out HB.out)); (case side2 => exact HC0_2.out); rintro e w15 ⟨rfl, hb⟩; refine ⟨_, rfl, ?_⟩; have n0_ := ad_ (blk_below (g := gb334) (o := .cells #[.string a0_0, .int .i64 a0_1, .slice A0_2 l0_2.length c0_2] 24 (0, 0)) (blo_ BK334.out) hb); have n1_ := ad_ (below_step belg_ hb); clear BK334; clear HB; have BK334 := n0_; have HB := n1_; clear n0_ n1_; (try clear hb); (try clear hb2); (try clear hk); (try clear hi)))
  go_ret2
  exact ⟨ret_, belg_⟩

end Go.Proofs.Ytlplmkllmgdifaa.PZ

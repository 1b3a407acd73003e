import Derived.Test.YtlkonnkglbfkbaaDoorEx2
set_option linter.unusedVariables false
namespace Go.Proofs.YtlkonnkglbfkbaaDoor.Ex
open Go.RowKit Go.Shelf Go.Maps Go.WideMaps Go.WideAt Go.Proofs.YtlkonnkglbfkbaaDoorW.PrintWords Go.Proofs.YtlkonnkglbfkbaaDoorW.PrintLast Go.Proofs.YtlkonnkglbfkbaaDoorW.PrintMore
/-- The two parameters' cells, as they stand from a place on. -/
structure CR (V : World) (g o : Nat) (sp : Option Nat) : Prop where
  lt : g < V.heap.size
  c0 : V.cell? ⟨g, o, sp⟩ = some (.string sN1)
  c1 : V.cell? ⟨g, o + 1, none⟩ = some (.string sB)
  c2 : V.cell? ⟨g, o + 2, none⟩ = some (.string sN0)
  c3 : V.cell? ⟨g, o + 2 + 1, none⟩ = some (.string sV)
theorem CR.below {V V' : World} {g o : Nat} {sp : Option Nat} (h : CR V g o sp) (hb : Below V.heap.size V V') : CR V' g o sp :=
  ⟨Nat.lt_of_lt_of_le h.lt hb.size, (hb.cell h.lt).trans h.c0, (hb.cell h.lt).trans h.c1, (hb.cell h.lt).trans h.c2, (hb.cell h.lt).trans h.c3⟩
theorem grown_below {W w1 w2 : World} {g : Option Nat} (h : W.grownBy w1 g) (hb : Below w1.heap.size w1 w2) : W.grownBy w2 g := h.trans ⟨hb.os, hb.tape, hb.output, hb.size, fun k hk _ => hb.block k hk⟩
/-- Where Right stands. -/
structure SR (W0 : World) (sl : Value) (n : Nat) (D : DataW Value) (V : World) : Prop where
  below : Below W0.heap.size W0 V
  box : V.heap[W0.heap.size]? = some (.cells #[.string sA, .string sB, sl] 34 (0, 0))
  map : V.ownsMap Tryd.prog 9 Rv (W0.heap.size + 1) n D
theorem SR.mapped {W0 : World} {sl : Value} {n m : Nat} {D E : DataW Value} {V V' : World} (h : SR W0 sl n D V) (hm : V'.ownsMap Tryd.prog 9 Rv (W0.heap.size + 1) m E) (hw : V.grownBy V' (some (W0.heap.size + 1))) : SR W0 sl m E V' :=
  ⟨h.below.grown hw h.below.size (fun k e => by cases e; omega), blk_grown h.box hw (by simp), hm⟩
/-- A new block of two cells, written. -/
theorem new2 (V : World) (o : Obj) (a b : Value) : Below V.heap.size V (((V.alloc o).setCell ⟨V.heap.size, 0, none⟩ a).setCell ⟨V.heap.size, 1, none⟩ b) := below_set (below_set (below_alloc (Below.refl _ _) _) (Nat.le_refl _)) (Nat.le_refl _)
theorem SR.next {W0 : World} {sl : Value} {n : Nat} {D : DataW Value} {V V' : World} (h : SR W0 sl n D V) (hb : Below V.heap.size V V') : SR W0 sl n D V' :=
  ⟨h.below.trans (hb.mono h.below.size), blk_below h.box hb, h.map.kept (row := none) ⟨hb.os, hb.tape, hb.output, hb.size, fun k hk _ => hb.block k hk⟩ (by simp)⟩
set_option maxHeartbeats 4000000 in
set_option maxRecDepth 100000 in
theorem right_1 (W : World) (g o cp : Nat) (sp : Option Nat) (hrow : CR W g o sp)
    (HS : ∀ s, s = sN1 ∨ s = sN0 ∨ s = sA ∨ s = sB → ∀ V, Calls Tryd.prog 23 #[.string s] V fun e w' => e = .returned (.bool true) ∧ Below V.heap.size V w')
    (HV : ∀ s, s = sB ∨ s = sV → ∀ V, Calls Tryd.prog 24 #[.string s] V fun e w' => e = .returned (.bool true) ∧ Drawn0 V w') :
    Calls Tryd.prog 18 #[.agg #[.string sA, .string sB, .slice (some ⟨g, o, sp⟩) 2 cp]] W fun e w' => e = .returned (.bool true) ∧ Below W.heap.size W w' := by
  have hmm := @run_makeMap Tryd.prog
  have hu34 := Tryd.underlying34
  have hu31 := Tryd.underlying31
  have HROW := Aside0.mk hrow
  clear hrow
  go_enter Tryd.func18, Tryd.ntmps18
  go_wp2_with fail
  have S3 : SR W (.slice (some ⟨g, o, sp⟩) 2 cp) 0 (.map []) ((W.alloc (.cells #[.string sA, .string sB, .slice (some ⟨g, o, sp⟩) 2 cp] 34 (0, 0))).alloc (.map #[] 0)) := ⟨below_alloc (below_alloc (Below.refl _ _) _) _, blk_alloc (blk_new W _) _, by
    have := World.ownsMap_made (W.alloc (.cells #[.string sA, .string sB, .slice (some ⟨g, o, sp⟩) 2 cp] 34 (0, 0))) Tryd.prog 9 Rv
    rwa [World.size_alloc] at this⟩
  revert S3
  generalize ((W.alloc (.cells #[.string sA, .string sB, .slice (some ⟨g, o, sp⟩) 2 cp] 34 (0, 0))).alloc (.map #[] 0)) = V3
  intro S3
  refine wp_loop_rounds 3 ?_
  rw [rounds_succ]
  have c0 := (HROW.out.below S3.below).c0
  have c1 := (HROW.out.below S3.below).c1
  have HS3 := Aside0.mk S3
  clear S3
  go_wp2_with (first
    | (go_at_call 23; refine (HS sN1 (.inl rfl) _).mono ?_; rintro e Va1 ⟨rfl, hb⟩; have pa := blk_below (blk_new V3 _) hb; have T1 := Aside0.mk ((HS3.out.next (below_alloc (Below.refl _ V3) _)).next hb); have ca0 : Va1.cell? ⟨V3.heap.size, 0, none⟩ = some (.string sN1) := (blk_cell pa 0).trans rfl; have ca1 : Va1.cell? ⟨V3.heap.size, 1, none⟩ = some (.string sB) := (blk_cell pa 1).trans rfl; clear pa hb)
    | (go_at_call 24; refine (HV sB (.inl rfl) _).mono ?_; rintro e Vb1 ⟨rfl, hd⟩; have hb : Below Va1.heap.size Va1 Vb1 := (by obtain ⟨nd, rfl⟩ := hd; exact pw_below_drewN (Below.refl _ _) nd); have T2 := Aside0.mk (T1.out.next hb); have cb0 : Vb1.cell? ⟨V3.heap.size, 0, none⟩ = some (.string sN1) := (hb.cell (World.block_lt_of_cell? _ _ ca0)).trans ca0; have hl := look k9 T2.out.map Tryd.underlying52 (zero4 Vb1) (key_s sN1 (by decide)) (v := .bool false) rfl; clear ca0 ca1 hd hb T1)
    | (at_mapUpdate; refine wpList_mapUpdate_own _ rfl _ _ _ 52 rfl 9 4 k9 Tryd.underlying52 Rv _ _ _ rfl T2.out.map (by unfold maxLen; omega) _ _ (.string sN1.data.toList) rfl rfl (key_s sN1 (by decide)) (.held (.bool true)) [] rfl ?_; intro Vd1 hown1 hgrow1; have T3 := Aside0.mk (T2.out.mapped hown1 hgrow1); clear hown1 hgrow1))
  clear c0 c1 cb0 hl T2 HS3
  have c2 := (HROW.out.below T3.out.below).c2
  have c3 := (HROW.out.below T3.out.below).c3
  rw [rounds_succ]
  go_wp2_with (first
    | (go_at_call 23; refine (HS sN0 (.inr (.inl rfl)) _).mono ?_; rintro e Va2 ⟨rfl, hb⟩; have pa := blk_below (blk_new Vd1 _) hb; have U1 := Aside0.mk ((T3.out.next (below_alloc (Below.refl _ Vd1) _)).next hb); have ca0 : Va2.cell? ⟨Vd1.heap.size, 0, none⟩ = some (.string sN0) := (blk_cell pa 0).trans rfl; have ca1 : Va2.cell? ⟨Vd1.heap.size, 1, none⟩ = some (.string sV) := (blk_cell pa 1).trans rfl; clear pa hb)
    | (go_at_call 24; refine (HV sV (.inr rfl) _).mono ?_; rintro e Vb2 ⟨rfl, hd⟩; have hb : Below Va2.heap.size Va2 Vb2 := (by obtain ⟨nd, rfl⟩ := hd; exact pw_below_drewN (Below.refl _ _) nd); have U2 := Aside0.mk (U1.out.next hb); have cb0 : Vb2.cell? ⟨Vd1.heap.size, 0, none⟩ = some (.string sN0) := (hb.cell (World.block_lt_of_cell? _ _ ca0)).trans ca0; have hl := look k9 U2.out.map Tryd.underlying52 (zero4 Vb2) (key_s sN0 (by decide)) (v := .bool false) (by kernel_rfl); clear ca0 ca1 hd hb U1)
    | (at_mapUpdate; refine wpList_mapUpdate_own _ rfl _ _ _ 52 rfl 9 4 k9 Tryd.underlying52 Rv _ _ _ rfl U2.out.map (by unfold maxLen; omega) _ _ (.string sN0.data.toList) rfl rfl (key_s sN0 (by decide)) (.held (.bool true)) [] rfl ?_; intro Vd2 hown1 hgrow1; have U3 := Aside0.mk (U2.out.mapped hown1 hgrow1); clear hown1 hgrow1))
  clear c2 c3 cb0 hl U2 T3
  have b0 : Vd2.cell? ⟨W.heap.size, 0, none⟩ = some (.string sA) := (blk_cell U3.out.box 0).trans rfl
  have b1 : Vd2.cell? ⟨W.heap.size, 1, none⟩ = some (.string sB) := (blk_cell U3.out.box 1).trans rfl
  have b2 : Vd2.cell? ⟨W.heap.size, 2, none⟩ = some (.slice (some ⟨g, o, sp⟩) 2 cp) := (blk_cell U3.out.box 2).trans rfl
  rw [rounds_succ]
  go_wp2_with (first
    | (go_at_call 23; have hq_ := U3; refine (HS sA (.inr (.inr (.inl rfl))) _).mono ?_; rintro e Ve ⟨rfl, hb⟩; have W1 := Aside0.mk (U3.out.next hb); have b1 : Ve.cell? ⟨W.heap.size, 1, none⟩ = some (.string sB) := (blk_cell W1.out.box 1).trans rfl; clear hb hq_ U3)
    | (go_at_call 23; refine (HS sB (.inr (.inr (.inr rfl))) _).mono ?_; rintro e Vf ⟨rfl, hb⟩; have W2 := Aside0.mk (W1.out.next hb); have b2 : Vf.cell? ⟨W.heap.size, 2, none⟩ = some (.slice (some ⟨g, o, sp⟩) 2 cp) := (blk_cell W2.out.box 2).trans rfl; clear hb))
  go_ret
  exact ⟨rfl, W2.out.below⟩
end Go.Proofs.YtlkonnkglbfkbaaDoor.Ex

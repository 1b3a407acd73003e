import Derived.Test.YtlkonnkglbfkbaaDoorEx4
import Derived.Lib.SlBytesConst
set_option linter.unusedVariables false
namespace Go.Proofs.YtlkonnkglbfkbaaDoor.Ex
open Go.RowKit Go.Shelf Go.Maps Go.WideMaps Go.WideAt Go.Proofs.YtlkonnkglbfkbaaDoorW.PrintWords Go.Proofs.YtlkonnkglbfkbaaDoorW.PrintLast Go.Proofs.YtlkonnkglbfkbaaDoorW.PrintMore
/-- Where Join stands. -/
structure JS (W0 : World) (sl : Value) (g n4 n5 n6 : Nat) (D4 D5 D6 : DataW Value) (V : World) : Prop where
  below : Below W0.heap.size W0 V
  far : W0.heap.size + 1 < g ∧ g + 2 < V.heap.size
  bk : V.heap[W0.heap.size]? = some (.cells #[.string sA, .string sB, sl] 34 (0, 0))
  bo : V.heap[W0.heap.size + 1]? = some (.cells #[.string ⟨#[]⟩, .string ⟨#[]⟩, .slice none 0 0] 34 (0, 0))
  m4 : V.ownsMap Tryd.prog 54 Rv g n4 D4
  m5 : V.ownsMap Tryd.prog 9 Rv (g + 1) n5 D5
  m6 : V.ownsMap Tryd.prog 9 Rv (g + 2) n6 D6
theorem below_none {V V' : World} (hb : Below V.heap.size V V') : V.grownBy V' none := ⟨hb.os, hb.tape, hb.output, hb.size, fun k hk _ => hb.block k hk⟩
theorem JS.next {W0 : World} {sl : Value} {g n4 n5 n6 : Nat} {D4 D5 D6 : DataW Value} {V V' : World} (h : JS W0 sl g n4 n5 n6 D4 D5 D6 V) (hb : Below V.heap.size V V') : JS W0 sl g n4 n5 n6 D4 D5 D6 V' :=
  ⟨h.below.trans (hb.mono h.below.size), ⟨h.far.1, Nat.lt_of_lt_of_le h.far.2 hb.size⟩, blk_below h.bk hb, blk_below h.bo hb, h.m4.kept (row := none) (below_none hb) (by simp), h.m5.kept (row := none) (below_none hb) (by simp), h.m6.kept (row := none) (below_none hb) (by simp)⟩
theorem JS.map4 {W0 : World} {sl : Value} {g n4 n5 n6 m : Nat} {D4 D5 D6 E : DataW Value} {V V' : World} (h : JS W0 sl g n4 n5 n6 D4 D5 D6 V) (hm : V'.ownsMap Tryd.prog 54 Rv g m E) (hw : V.grownBy V' (some g)) : JS W0 sl g m n5 n6 E D5 D6 V' :=
  ⟨h.below.grown hw h.below.size (fun k e => by cases e; have := h.far; omega), ⟨h.far.1, Nat.lt_of_lt_of_le h.far.2 hw.size⟩, blk_grown h.bk hw (by have := h.far; simp; omega), blk_grown h.bo hw (by have := h.far; simp; omega), hm, h.m5.kept hw (by simp), h.m6.kept hw (by simp)⟩
theorem JS.map5 {W0 : World} {sl : Value} {g n4 n5 n6 m : Nat} {D4 D5 D6 E : DataW Value} {V V' : World} (h : JS W0 sl g n4 n5 n6 D4 D5 D6 V) (hm : V'.ownsMap Tryd.prog 9 Rv (g + 1) m E) (hw : V.grownBy V' (some (g + 1))) : JS W0 sl g n4 m n6 D4 E D6 V' :=
  ⟨h.below.grown hw h.below.size (fun k e => by cases e; have := h.far; omega), ⟨h.far.1, Nat.lt_of_lt_of_le h.far.2 hw.size⟩, blk_grown h.bk hw (by have := h.far; simp; omega), blk_grown h.bo hw (by have := h.far; simp; omega), h.m4.kept hw (by simp), hm, h.m6.kept hw (by simp)⟩
theorem JS.side {W0 : World} {sl : Value} {g n4 n5 n6 : Nat} {D4 D5 D6 : DataW Value} {V V' : World} {row : Option Nat} (h : JS W0 sl g n4 n5 n6 D4 D5 D6 V) (hw : V.grownBy V' row) (hr : ∀ k, row = some k → g + 2 < k) : JS W0 sl g n4 n5 n6 D4 D5 D6 V' :=
  have hn : ∀ k, k ≤ g + 2 → some k ≠ row := fun k hk e => by have := hr k e.symm; omega
  have hf := h.far
  ⟨h.below.grown hw h.below.size (fun k e => by have := hr k e; omega), ⟨h.far.1, Nat.lt_of_lt_of_le h.far.2 hw.size⟩, blk_grown h.bk hw (hn _ (by omega)), blk_grown h.bo hw (hn _ (by omega)), h.m4.kept hw (hn _ (by omega)), h.m5.kept hw (hn _ (by omega)), h.m6.kept hw (hn _ (by omega))⟩
theorem grownBy_setCell (W : World) (b j : Nat) (v : Value) : W.grownBy (W.setCell ⟨b, j, none⟩ v) (some b) := ⟨rfl, rfl, rfl, by simp [World.setCell], fun k _ hne => Below.heap_setCell W ⟨b, j, none⟩ v k (fun e => hne (by rw [e]))⟩
theorem results_ct {P : Program} {fn : Func} {p u : Tmp} {ty : TypeId} (h : fn.results = #[.cell p ty, .tmp u]) (tmps : Array Value) (w : World) (g : Nat) (t : TypeId) (cs : Array Value) (fr : Nat × Nat) (d : TypeDesc)
    (hp : tmps.getD p undef = .pointer (some ⟨g, 0, none⟩)) (hg : w.heap[g]? = some (.cells cs t fr))
    (hu : P.underlying ty = some d) (hd : (match d with | .struct _ | .array _ _ => true | _ => false) = true) (hi : (P.info? ty).map (·.size) = some cs.size) :
    (results fn tmps).run P w = .ok (.tuple #[.agg cs, tmps.getD u undef]) w := by
  have hp' : tmps[p]?.getD undef = .pointer (some ⟨g, 0, none⟩) := by simpa using hp
  simp [results, h, hp', asAddr, run_loadVar_row w g t ty cs fr d hg hu hd hi]
theorem info31' : (Tryd.prog.info? 31).map (fun i => (i.zero, i.size, i.bytes)) = some (some (.agg #[.string ⟨#[]⟩, .string ⟨#[]⟩]), 2, 32) := by kernel_rfl
set_option maxHeartbeats 4000000 in
set_option maxRecDepth 100000 in
theorem Join_1 {S : Type} (K : Kd S) (x : S) (hsz : K.sz = 2) (hM : ∀ w base ok, K.M w base ok x [.string sNAME, .string sAB]) (W : World) (g o cp : Nat) (sp : Option Nat) (hrow : CR W g o sp) (hG : Glob W)
    (HR : ∀ V, CR V g o sp → Calls Tryd.prog 18 #[.agg #[.string sA, .string sB, .slice (some ⟨g, o, sp⟩) 2 cp]] V fun e w' => e = .returned (.bool true) ∧ Below V.heap.size V w')
    (HJ : ∀ V m n D, V.ownsMap Tryd.prog 54 Rv m n D → D.atKey (plK (-1)) (.held (.agg #[.string ⟨#[]⟩, .bool false])) = .held (.agg #[.string ⟨#[]⟩, .bool false]) → has D (plK (-1)) = false → D.atKey (plK 0) (.held (.agg #[.string ⟨#[]⟩, .bool false])) = .held (.agg #[.string sV, .bool true]) → has D (plK 0) = true → D.atKey (plK 1) (.held (.agg #[.string ⟨#[]⟩, .bool false])) = .held (.agg #[.string sB, .bool false]) → has D (plK 1) = true → D.atKey (plK 2) (.held (.agg #[.string ⟨#[]⟩, .bool false])) = .held (.agg #[.string ⟨#[]⟩, .bool false]) → has D (plK 2) = false → Glob V →
      Calls Tryd.prog 20 #[.map (some m), .string sNAME] V fun e w' => e = .returned (.tuple #[.string sAB, .int .i64 2, .bool true]) ∧ Below V.heap.size V w') :
    Calls Tryd.prog 10 #[.agg #[.string sA, .string sB, .slice (some ⟨g, o, sp⟩) 2 cp]] W fun e w' => ∃ v : Value, e = .returned (.tuple #[.agg #[.string sA, .string sB, v], .int .i64 0]) ∧ Kd.R K 31 w' W.heap.size (fun _ => True) v [x] ∧ Below W.heap.size W w' := by
  have hmm := @run_makeMap Tryd.prog
  have hu34 := Tryd.underlying34
  have hu31 := Tryd.underlying31
  have hu54 := Tryd.underlying54
  have hu58 := Tryd.underlying58
  have HROW := Aside0.mk hrow
  clear hrow
  go_enter Tryd.func10, Tryd.ntmps10
  go_wp2_with (first
    | (go_at_call 18; refine (HR _ (HROW.out.below (below_alloc (below_alloc (Below.refl _ _) _) _))).mono ?_; rintro e V1 ⟨rfl, hb⟩; have k1 := Aside0.mk (blk_below (blk_alloc (blk_new W (.cells #[.string sA, .string sB, .slice (some ⟨g, o, sp⟩) 2 cp] 34 (0, 0))) (.cells #[.string ⟨#[]⟩, .string ⟨#[]⟩, .slice none 0 0] 34 (0, 0))) hb); have k2 := Aside0.mk (blk_below (blk_new (W.alloc (.cells #[.string sA, .string sB, .slice (some ⟨g, o, sp⟩) 2 cp] 34 (0, 0))) (.cells #[.string ⟨#[]⟩, .string ⟨#[]⟩, .slice none 0 0] 34 (0, 0))) hb); have B1 := Aside0.mk ((below_alloc (below_alloc (Below.refl _ W) _) _).trans (hb.mono (by simp only [World.size_alloc]; omega))); have hs1 : W.heap.size + 1 < V1.heap.size := (by have := hb.size; simp only [World.size_alloc] at this; omega); have q2 : (((V1.alloc (.map #[] 0)).alloc (.map #[] 0)).alloc (.map #[] 0)).cell? ⟨W.heap.size, 2, none⟩ = some (.slice (some ⟨g, o, sp⟩) 2 cp) := (blk_cell (blk_alloc (blk_alloc (blk_alloc k1.out _) _) _) 2); clear hb))
  have J4 : JS W (.slice (some ⟨g, o, sp⟩) 2 cp) V1.heap.size 0 0 0 (.map []) (.map []) (.map []) (((V1.alloc (.map #[] 0)).alloc (.map #[] 0)).alloc (.map #[] 0)) := by
    have a4 := World.ownsMap_made V1 Tryd.prog 54 Rv
    have a5 := World.ownsMap_made (V1.alloc (.map #[] 0)) Tryd.prog 9 Rv
    have a6 := World.ownsMap_made ((V1.alloc (.map #[] 0)).alloc (.map #[] 0)) Tryd.prog 9 Rv
    simp only [World.size_alloc] at a5 a6
    have f1 : Below (V1.alloc (.map #[] 0)).heap.size (V1.alloc (.map #[] 0)) ((V1.alloc (.map #[] 0)).alloc (.map #[] 0)) := below_alloc (Below.refl _ _) _
    have f2 : Below ((V1.alloc (.map #[] 0)).alloc (.map #[] 0)).heap.size ((V1.alloc (.map #[] 0)).alloc (.map #[] 0)) (((V1.alloc (.map #[] 0)).alloc (.map #[] 0)).alloc (.map #[] 0)) := below_alloc (Below.refl _ _) _
    exact ⟨((B1.out.alloc B1.out.size _).alloc (by have := B1.out.size; simp only [World.size_alloc]; omega) _).alloc (by have := B1.out.size; simp only [World.size_alloc]; omega) _, ⟨hs1, by simp only [World.size_alloc]; omega⟩, blk_alloc (blk_alloc (blk_alloc k1.out _) _) _, blk_alloc (blk_alloc (blk_alloc (by have h := k2.out; rwa [World.size_alloc] at h) _) _) _, (a4.kept (row := none) (below_none f1) (by simp)).kept (row := none) (below_none f2) (by simp), a5.kept (row := none) (below_none f2) (by simp), a6⟩
  clear q2 B1 k1 k2
  revert J4
  generalize (((V1.alloc (.map #[] 0)).alloc (.map #[] 0)).alloc (.map #[] 0)) = U0
  generalize V1.heap.size = gm at *
  intro J4
  have HJ4 := Aside0.mk J4
  refine wp_loop_rounds 3 ?_
  rw [rounds_succ]
  have r0 := (HROW.out.below J4.below).c0
  have r1 := (HROW.out.below J4.below).c1
  clear J4
  go_wp2_with (first
    | (go_at_call 19; refine (star_1 _ (hG.below (HJ4.out.next (below_alloc (Below.refl _ U0) _)).below)).mono ?_; rintro e U1 ⟨rfl, hb⟩; have J5 := Aside0.mk ((HJ4.out.next (below_alloc (Below.refl _ U0) _)).next hb); have p1 := Aside0.mk (blk_below (blk_new U0 (.cells #[.string sN1, .string sB] 31 (0, 0))) hb); have hl : (Instr.lookup 50 (.map (some gm)) (.agg #[.string sNAME, .int .i64 1]) true).run Tryd.prog (U1.alloc (.cells #[.string sNAME, .int .i64 1] 54 (0, 0))) = .ok (.tuple #[.agg #[.string ⟨#[]⟩, .bool false], .bool false]) (U1.alloc (.cells #[.string sNAME, .int .i64 1] 54 (0, 0))) := looks k54 (J5.out.next (below_alloc (Below.refl _ U1) (.cells #[.string sNAME, .int .i64 1] 54 (0, 0)))).m4 Tryd.underlying50 (zero58 _) key_1 (v := .agg #[.string ⟨#[]⟩, .bool false]) (q := false) (by kernel_rfl) (by kernel_rfl); have pc1 : ((U1.alloc (.cells #[.string sNAME, .int .i64 1] 54 (0, 0))).alloc (.cells #[.string ⟨#[]⟩, .bool false] 58 (0, 0))).cell? ⟨U0.heap.size, 1, none⟩ = some (.string sB) := blk_cell (blk_alloc (blk_alloc p1.out _) _) 1; clear hb HJ4)
    | (at_mapUpdate; refine wpList_mapUpdate_own _ rfl _ _ _ 50 rfl 54 58 k54 Tryd.underlying50 Rv _ _ _ rfl ((J5.out.next (below_alloc (Below.refl _ U1) _)).next (below_alloc (Below.refl _ _) _)).m4 (by unfold maxLen; omega) _ _ (plK 1) rfl rfl key_1 (.held (.agg #[.string sB, .bool false])) [] rfl ?_; intro U2 hown hgrow; have J6 := Aside0.mk (((J5.out.next (below_alloc (Below.refl _ U1) _)).next (below_alloc (Below.refl _ _) _)).map4 hown hgrow); have pc0 : U2.cell? ⟨U1.heap.size, 0, none⟩ = some (.string sNAME) := blk_cell (blk_grown (blk_alloc (blk_new U1 (.cells #[.string sNAME, .int .i64 1] 54 (0, 0))) (.cells #[.string ⟨#[]⟩, .bool false] 58 (0, 0))) hgrow (by have := J5.out.far; simp; omega)) 0; have hl5 : (Instr.lookup 51 (.map (some (gm + 1))) (.string sNAME) false).run Tryd.prog U2 = .ok (.int .i64 0) U2 := look k9 J6.out.m5 Tryd.underlying51 (zero3 U2) (key_s sNAME (by decide)) (v := .int .i64 0) (by kernel_rfl); clear hown hgrow pc1 hl J5 p1)
    | (at_mapUpdate; refine wpList_mapUpdate_own _ rfl _ _ _ 51 rfl 9 3 k9 Tryd.underlying51 Rv _ _ _ rfl J6.out.m5 (by unfold maxLen; omega) _ _ (.string sNAME.data.toList) rfl rfl (key_s sNAME (by decide)) (.held (.int .i64 (0 + 1))) [] rfl ?_; intro U3 hown hgrow; have J7 := Aside0.mk (J6.out.map5 hown hgrow); clear hown hgrow J6 hl5 pc0))
  clear r0 r1
  rw [rounds_succ]
  have r2 := (HROW.out.below J7.out.below).c2
  have r3 := (HROW.out.below J7.out.below).c3
  go_wp2_with (first
    | (go_at_call 19; refine (star_0 _ (hG.below (J7.out.next (below_alloc (Below.refl _ U3) _)).below)).mono ?_; rintro e U4 ⟨rfl, hb⟩; have J8 := Aside0.mk ((J7.out.next (below_alloc (Below.refl _ U3) _)).next hb); have p1 := Aside0.mk (blk_below (blk_new U3 (.cells #[.string sN0, .string sV] 31 (0, 0))) hb); have hl : (Instr.lookup 50 (.map (some gm)) (.agg #[.string sNAME, .int .i64 0]) true).run Tryd.prog (U4.alloc (.cells #[.string sNAME, .int .i64 0] 54 (0, 0))) = .ok (.tuple #[.agg #[.string ⟨#[]⟩, .bool false], .bool false]) (U4.alloc (.cells #[.string sNAME, .int .i64 0] 54 (0, 0))) := looks k54 (J8.out.next (below_alloc (Below.refl _ U4) (.cells #[.string sNAME, .int .i64 0] 54 (0, 0)))).m4 Tryd.underlying50 (zero58 _) key_0 (v := .agg #[.string ⟨#[]⟩, .bool false]) (q := false) (by kernel_rfl) (by kernel_rfl); have pc1 : ((U4.alloc (.cells #[.string sNAME, .int .i64 0] 54 (0, 0))).alloc (.cells #[.string ⟨#[]⟩, .bool false] 58 (0, 0))).cell? ⟨U3.heap.size, 1, none⟩ = some (.string sV) := blk_cell (blk_alloc (blk_alloc p1.out _) _) 1; clear hb J7)
    | (at_mapUpdate; refine wpList_mapUpdate_own _ rfl _ _ _ 50 rfl 54 58 k54 Tryd.underlying50 Rv _ _ _ rfl ((J8.out.next (below_alloc (Below.refl _ U4) _)).next (below_alloc (Below.refl _ _) _)).m4 (by unfold maxLen; omega) _ _ (plK 0) rfl rfl key_0 (.held (.agg #[.string sV, .bool true])) [] rfl ?_; intro U5 hown hgrow; have J9 := Aside0.mk (((J8.out.next (below_alloc (Below.refl _ U4) _)).next (below_alloc (Below.refl _ _) _)).map4 hown hgrow); have pc0 : U5.cell? ⟨U4.heap.size, 0, none⟩ = some (.string sNAME) := blk_cell (blk_grown (blk_alloc (blk_new U4 (.cells #[.string sNAME, .int .i64 0] 54 (0, 0))) (.cells #[.string ⟨#[]⟩, .bool false] 58 (0, 0))) hgrow (by have := J8.out.far; simp; omega)) 0; have hl5 : (Instr.lookup 51 (.map (some (gm + 1))) (.string sNAME) false).run Tryd.prog U5 = .ok (.int .i64 1) U5 := look k9 J9.out.m5 Tryd.underlying51 (zero3 U5) (key_s sNAME (by decide)) (v := .int .i64 1) (by kernel_rfl); clear hown hgrow pc1 hl J8 p1)
    | (at_mapUpdate; refine wpList_mapUpdate_own _ rfl _ _ _ 51 rfl 9 3 k9 Tryd.underlying51 Rv _ _ _ rfl J9.out.m5 (by unfold maxLen; omega) _ _ (.string sNAME.data.toList) rfl rfl (key_s sNAME (by decide)) (.held (.int .i64 (1 + 1))) [] rfl ?_; intro U6 hown hgrow; have JA := Aside0.mk (J9.out.map5 hown hgrow); clear hown hgrow J9 hl5 pc0))
  clear r2 r3
  have b0 := blk_cell JA.out.bk 0
  have b1 := blk_cell JA.out.bk 1
  have b2 : (U6.alloc (.cells #[.string sA, .string sB, .slice none 0 0] 34 (0, 0))).cell? ⟨W.heap.size, 2, none⟩ = some (.slice (some ⟨g, o, sp⟩) 2 cp) := blk_cell (blk_alloc JA.out.bk _) 2
  rw [rounds_succ]
  go_wp2_with fail
  clear b0 b1 b2
  have JB := Aside0.mk (JA.out.next (below_alloc (Below.refl _ U6) (.cells #[.string sA, .string sB, .slice none 0 0] 34 (0, 0))))
  have OB := Aside0.mk (blk_new U6 (.cells #[.string sA, .string sB, .slice none 0 0] 34 (0, 0)))
  have hq : gm + 2 < U6.heap.size := JA.out.far.2
  clear JA
  revert JB OB
  generalize (U6.alloc (.cells #[.string sA, .string sB, .slice none 0 0] 34 (0, 0))) = U7
  generalize U6.heap.size = q at *
  intro JB OB
  refine wp_loop_rounds 3 ?_
  rw [rounds_succ]
  have r0 := (HROW.out.below JB.out.below).c0
  have r1 := (HROW.out.below JB.out.below).c1
  go_wp2_with (first
    | (go_at_call 19; refine (star_1 _ (hG.below (JB.out.next (below_alloc (Below.refl _ U7) _)).below)).mono ?_; rintro e U8 ⟨rfl, hb⟩; have JC := Aside0.mk (((JB.out.next (below_alloc (Below.refl _ U7) _)).next hb).next (below_alloc (Below.refl _ U8) (.cells #[.string sNAME, .int .i64 1] 54 (0, 0)))); have OC := Aside0.mk (blk_alloc (blk_below (blk_alloc OB.out (.cells #[.string sN1, .string sB] 31 (0, 0))) hb) (.cells #[.string sNAME, .int .i64 1] 54 (0, 0))); have hl5 : (Instr.lookup 51 (.map (some (gm + 1))) (.string sNAME) false).run Tryd.prog (U8.alloc (.cells #[.string sNAME, .int .i64 1] 54 (0, 0))) = .ok (.int .i64 2) (U8.alloc (.cells #[.string sNAME, .int .i64 1] 54 (0, 0))) := look k9 JC.out.m5 Tryd.underlying51 (zero3 _) (key_s sNAME (by decide)) (v := .int .i64 2) (by kernel_rfl); have hU8 : gm + 2 < U8.heap.size := ((JB.out.next (below_alloc (Below.refl _ U7) _)).next hb).far.2; clear hb JB OB)
    | (go_at_call 20; refine (HJ _ gm _ _ JC.out.m4 (by kernel_rfl) (by kernel_rfl) (by kernel_rfl) (by kernel_rfl) (by kernel_rfl) (by kernel_rfl) (by kernel_rfl) (by kernel_rfl) (hG.below JC.out.below)).mono ?_; rintro e U9 ⟨rfl, hb⟩; have JD := Aside0.mk (JC.out.next hb); have OD := Aside0.mk (blk_below OC.out hb); have pa := Aside0.mk (blk_below (blk_new U8 (.cells #[.string sNAME, .int .i64 1] 54 (0, 0))) hb); have pc0 := blk_cell pa.out 0; have hl5' : (Instr.lookup 51 (.map (some (gm + 1))) (.string sNAME) false).run Tryd.prog U9 = .ok (.int .i64 2) U9 := look k9 JD.out.m5 Tryd.underlying51 (zero3 _) (key_s sNAME (by decide)) (v := .int .i64 2) (by kernel_rfl); have hl6 : (Instr.lookup 52 (.map (some (gm + 1 + 1))) (.string sNAME) false).run Tryd.prog U9 = .ok (.bool false) U9 := look k9 JD.out.m6 Tryd.underlying52 (zero4 _) (key_s sNAME (by decide)) (v := .bool false) (by kernel_rfl); have hUq : q ≠ U8.heap.size := (by have := blk_lt OC.out; intro e; subst e; have hh := OC.out; rw [blk_new] at hh; cases hh); clear hb JC OC hl5)
    | (at_mapUpdate; refine wpList_mapUpdate_own _ rfl _ _ _ 51 rfl 9 3 k9 Tryd.underlying51 Rv _ _ _ rfl JD.out.m5 (by unfold maxLen; omega) _ _ (.string sNAME.data.toList) rfl rfl (key_s sNAME (by decide)) (.held (.int .i64 0)) [] rfl ?_; intro U10 hown hgrow; have JE := Aside0.mk (JD.out.map5 hown hgrow); have OE := Aside0.mk (blk_grown OD.out hgrow (by simp; omega)); have pc2 := blk_cell OE.out 2; have pc0 := blk_cell (blk_grown pa.out hgrow (by simp; omega)) 0; clear hown hgrow JD OD hl5' hl6 pa)
    | ((with_reducible refine gate_builtin (b := .append) (xs := #[.tmp 137, .tmp 142]) rfl ?_); at_builtin; refine Kd.R_append K (w0 := W) W.heap.size rfl (.tmp 137) (.tmp 142) 32 31 (.agg #[.string ⟨#[]⟩, .string ⟨#[]⟩]) 32 rfl Tryd.underlying32 (by rw [hsz]; exact info31') (by rw [hsz]; rfl) (by rw [hsz]; decide) (by omega) (.slice none 0 0) [] x [.string sNAME, .string sAB] (fun k => k ≠ q ∧ k ≠ W.heap.size + 1) (fun _ => False) rfl rfl (hM _ _ _) (fun _ hk => hk.elim) (fun k hk => by have := blk_lt OE.out; have := blk_lt JE.out.bo; omega) (Kd.R_nil _ _ _ _ _) JE.out.below JE.out.below.size (by simp) ?_; intro v1 U11 ho hb hg hat; obtain ⟨A1, c1, e1⟩ := Kd.R_slice ho; subst e1; have JF := Aside0.mk (JE.out.side hg (fun k e => by cases e)); have OF := Aside0.mk (blk_grown OE.out hg (by simp [Value.ownBlock])); have qc2 := blk_cell OF.out 2; have qz2 := blk_frozen OF.out 2; have RF := Aside0.mk ho; clear ho hb hg hat JE OE pc2 pc0))
  clear qc2 qz2
  have JG := Aside0.mk (JF.out.side (grownBy_setCell U11 q 2 (.slice A1 1 c1)) (fun k e => by cases e; exact hq))
  have OG : Aside0 ((U11.setCell ⟨q, 2, none⟩ (.slice A1 1 c1)).heap[q]? = some (.cells #[.string sA, .string sB, .slice A1 1 c1] 34 (0, 0))) := ⟨blk_set OF.out 2 (.slice A1 1 c1)⟩
  have RG : Aside0 (K.R 31 (U11.setCell ⟨q, 2, none⟩ (.slice A1 1 c1)) W.heap.size (fun k => k ≠ q ∧ k ≠ W.heap.size + 1) (.slice A1 1 c1) [x]) := ⟨Kd.R_far RF.out (p := ⟨q, 2, none⟩) (fun k hk => hk.1) _⟩
  clear JF OF RF
  revert JG OG RG
  generalize (U11.setCell ⟨q, 2, none⟩ (.slice A1 1 c1)) = U12
  intro JG OG RG
  rw [rounds_succ]
  have r2 := (HROW.out.below JG.out.below).c2
  have r3 := (HROW.out.below JG.out.below).c3
  go_wp2_with (first
    | (go_at_call 19; refine (star_0 _ (hG.below (JG.out.next (below_alloc (Below.refl _ U12) _)).below)).mono ?_; rintro e U13 ⟨rfl, hb⟩; have JH := Aside0.mk (((JG.out.next (below_alloc (Below.refl _ U12) _)).next hb).next (below_alloc (Below.refl _ U13) (.cells #[.string sNAME, .int .i64 0] 54 (0, 0)))); have OH := Aside0.mk (blk_alloc (blk_below (blk_alloc OG.out (.cells #[.string sN0, .string sV] 31 (0, 0))) hb) (.cells #[.string sNAME, .int .i64 0] 54 (0, 0))); have RH := Aside0.mk (Kd.R_below (Kd.R_below (Kd.R_below RG.out (below_alloc (Below.refl _ U12) (.cells #[.string sN0, .string sV] 31 (0, 0)))) hb) (below_alloc (Below.refl _ U13) (.cells #[.string sNAME, .int .i64 0] 54 (0, 0)))); have hl5 : (Instr.lookup 51 (.map (some (gm + 1))) (.string sNAME) false).run Tryd.prog (U13.alloc (.cells #[.string sNAME, .int .i64 0] 54 (0, 0))) = .ok (.int .i64 0) (U13.alloc (.cells #[.string sNAME, .int .i64 0] 54 (0, 0))) := look k9 JH.out.m5 Tryd.underlying51 (zero3 _) (key_s sNAME (by decide)) (v := .int .i64 0) (by kernel_rfl); clear hb JG OG RG))
  clear hl5 r2 r3
  revert JH OH RH
  generalize (U13.alloc (.cells #[.string sNAME, .int .i64 0] 54 (0, 0))) = U14
  intro JH OH RH
  rw [rounds_succ]
  have o0 := blk_cell OH.out 0
  have o1 := blk_cell OH.out 1
  have o2 := blk_cell OH.out 2
  have d0 := blk_cell JH.out.bo 0
  have d1 := blk_cell JH.out.bo 1
  have d2 := blk_cell JH.out.bo 2
  have z0 := blk_frozen JH.out.bo 0
  have z1 := blk_frozen JH.out.bo 1
  have z2 := blk_frozen JH.out.bo 2
  go_wp2_with fail
  have R0 := blk_set JH.out.bo 0 (.string sA)
  have R1 := blk_set R0 1 (.string sB)
  have R2 := blk_set R1 2 (.slice A1 1 c1)
  have hbW : W.heap.size ≤ W.heap.size + 1 := Nat.le_succ _
  refine bodyPost_ret (results_ct rfl _ _ (W.heap.size + 1) 34 _ (0, 0) _ rfl R2 Tryd.underlying34 rfl (by kernel_rfl)) rfl ⟨.slice A1 1 c1, rfl, ?_, below_set (below_set (below_set JH.out.below hbW) hbW) hbW⟩
  exact Kd.R_mono (Kd.R_far (Kd.R_far (Kd.R_far RH.out (p := ⟨W.heap.size + 1, 0, none⟩) (fun k hk => hk.2) _) (p := ⟨W.heap.size + 1, 1, none⟩) (fun k hk => hk.2) _) (p := ⟨W.heap.size + 1, 2, none⟩) (fun k hk => hk.2) _) (fun _ _ => trivial)
set_option maxHeartbeats 4000000 in
set_option maxRecDepth 100000 in
theorem Join_0 (W : World) (A : Option Addr) (c : Nat) (HR : ∀ V, Calls Tryd.prog 18 #[.agg #[.string ⟨#[]⟩, .string ⟨#[]⟩, .slice A 0 c]] V fun e w' => e = .returned (.bool false) ∧ Below V.heap.size V w') :
    Calls Tryd.prog 10 #[.agg #[.string ⟨#[]⟩, .string ⟨#[]⟩, .slice A 0 c]] W fun e w' => e = .returned (.tuple #[.agg #[.string ⟨#[]⟩, .string ⟨#[]⟩, .slice none 0 0], .int .i64 70]) ∧ Below W.heap.size W w' := by
  have hu34 := Tryd.underlying34
  go_enter Tryd.func10, Tryd.ntmps10
  go_wp2_with (first
    | (go_at_call 18; refine (HR _).mono ?_; rintro e V1 ⟨rfl, hb⟩; have k2 := blk_below (blk_new (W.alloc (.cells #[.string ⟨#[]⟩, .string ⟨#[]⟩, .slice A 0 c] 34 (0, 0))) (.cells #[.string ⟨#[]⟩, .string ⟨#[]⟩, .slice none 0 0] 34 (0, 0))) hb; rw [World.size_alloc] at k2; have K2 := Aside0.mk k2; have B1 := Aside0.mk ((below_alloc (below_alloc (Below.refl _ W) _) _).trans (hb.mono (by simp only [World.size_alloc]; omega))); have d0 := blk_cell k2 0; have d1 := blk_cell k2 1; have d2 := blk_cell k2 2; have z0 := blk_frozen k2 0; have z1 := blk_frozen k2 1; have z2 := blk_frozen k2 2; clear hb k2))
  have R0 := blk_set K2.out 0 (.string ⟨#[]⟩)
  have R1 := blk_set R0 1 (.string ⟨#[]⟩)
  have R2 := blk_set R1 2 (.slice none 0 0)
  have hbW : W.heap.size ≤ W.heap.size + 1 := Nat.le_succ _
  exact bodyPost_ret (results_ct rfl _ _ (W.heap.size + 1) 34 _ (0, 0) _ rfl R2 Tryd.underlying34 rfl (by kernel_rfl)) rfl ⟨rfl, below_set (below_set (below_set B1.out hbW) hbW) hbW⟩
/-- A row of bytes that a text laid, with its mark. -/
theorem lit_C (W : World) (g : Nat) (hg : g = W.heap.size) (l : List Int) (hl : l.length ≤ 1000) {m : Nat × Nat} : Kd.C (Kd.int .u8) (W.alloc (.cells (l.map (Value.int .u8)).toArray 5 m)) (some ⟨g, 0, none⟩) l.length l := by
  subst hg
  refine ⟨rfl, by omega, fun _ => ⟨_, rfl, fun j x hj => ⟨[.int .u8 x], rfl, rfl, fun i u hi => ?_⟩⟩⟩
  have h0 : i = 0 ∧ u = .int .u8 x := by
    cases i with
    | zero => simp at hi; exact ⟨rfl, hi.symm⟩
    | succ i => simp at hi
  obtain ⟨rfl, rfl⟩ := h0
  have e1 : (⟨W.heap.size, 0, none⟩ : Addr).add (j * (Kd.int .u8).sz + 0) = ⟨W.heap.size, j, none⟩ := by
    show (⟨W.heap.size, 0, none⟩ : Addr).add (j * 1 + 0) = _
    rw [Nat.mul_one, Nat.add_zero]
    unfold Addr.add
    split
    · rename_i h
      rw [h]
    · simp
  rw [e1]
  unfold World.cell?
  have hh : (W.alloc (.cells (l.map (Value.int .u8)).toArray 5 m)).heap[W.heap.size]? = some (.cells (l.map (Value.int .u8)).toArray 5 m) := by
    show (W.heap.push _)[W.heap.size]? = _
    simp
  simp only [hh]
  simp [hj]
theorem lit_conv (W : World) (C : Array Value) (n c g : Nat) (hg : g = W.heap.size) :
    (convert 22 22 (.slice (some ⟨g, 0, none⟩) n c)).run Tryd.prog (W.alloc (.cells C 5)) = .ok (.slice (some ⟨g, 0, none⟩) n c) (W.alloc (.cells C 5 (C.size, C.size + 1))) := by
  subst hg
  exact Go.Lib.run_convert_bytes_const W 22 5 C n c Tryd.underlying22 Tryd.underlying5
end Go.Proofs.YtlkonnkglbfkbaaDoor.Ex

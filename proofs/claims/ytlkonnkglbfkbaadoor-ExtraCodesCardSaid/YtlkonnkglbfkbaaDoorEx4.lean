import Derived.Test.YtlkonnkglbfkbaaDoorEx3
import Derived.BigQuiet
set_option linter.unusedVariables false
namespace Go.Proofs.YtlkonnkglbfkbaaDoor.Ex
open Go.RowKit Go.Shelf Go.Maps Go.WideMaps Go.WideAt Go.Proofs.YtlkonnkglbfkbaaDoorW.PrintWords Go.Proofs.YtlkonnkglbfkbaaDoorW.PrintLast Go.Proofs.YtlkonnkglbfkbaaDoorW.PrintMore
theorem infou8 : (Tryd.prog.info? 5).map (fun i => (i.zero, i.size, i.bytes)) = some (some (.int .u8 0), 1, 1) := by kernel_rfl
abbrev sUTF : ByteArray := ⟨#[117, 116, 102, 45, 56]⟩
abbrev sA20 : ByteArray := ⟨#[97, 37, 50, 48]⟩
abbrev sAB : ByteArray := ⟨#[97, 32, 98]⟩
set_option maxHeartbeats 4000000 in
set_option maxRecDepth 100000 in
theorem right_0 (W : World) (A : Option Addr) (c : Nat) (HS : ∀ V, Calls Tryd.prog 23 #[.string ⟨#[]⟩] V fun e w' => e = .returned (.bool false) ∧ Below V.heap.size V w') :
    Calls Tryd.prog 18 #[.agg #[.string ⟨#[]⟩, .string ⟨#[]⟩, .slice A 0 c]] W fun e w' => e = .returned (.bool false) ∧ Below W.heap.size W w' := by
  have hmm := @run_makeMap Tryd.prog
  have hu34 := Tryd.underlying34
  go_enter Tryd.func18, Tryd.ntmps18
  go_wp2_with fail
  have S3 : Below W.heap.size W ((W.alloc (.cells #[.string ⟨#[]⟩, .string ⟨#[]⟩, .slice A 0 c] 34 (0, 0))).alloc (.map #[] 0)) := below_alloc (below_alloc (Below.refl _ _) _) _
  have B3 : ((W.alloc (.cells #[.string ⟨#[]⟩, .string ⟨#[]⟩, .slice A 0 c] 34 (0, 0))).alloc (.map #[] 0)).heap[W.heap.size]? = some (.cells #[.string ⟨#[]⟩, .string ⟨#[]⟩, .slice A 0 c] 34 (0, 0)) := blk_alloc (blk_new W _) _
  revert S3 B3
  generalize ((W.alloc (.cells #[.string ⟨#[]⟩, .string ⟨#[]⟩, .slice A 0 c] 34 (0, 0))).alloc (.map #[] 0)) = V3
  intro S3 B3
  refine wp_loop_rounds 1 ?_
  rw [rounds_succ]
  have b0 := blk_cell B3 0
  have b1 := blk_cell B3 1
  have b2 := blk_cell B3 2
  go_wp2_with (go_at_call 23; refine (HS _).mono ?_; rintro e Ve ⟨rfl, hb⟩; have W1 := S3.trans (hb.mono S3.size); clear hb S3)
  go_ret
  exact ⟨rfl, W1⟩
set_option maxHeartbeats 4000000 in
set_option maxRecDepth 100000 in
theorem join_1 (W : World) (m : Nat) (hG : Glob W)
    (HLm : ∀ V, Below W.heap.size W V → (Instr.lookup 50 (.map (some m)) (.agg #[.string sNAME, .int .i64 (-1)]) true).run Tryd.prog V = .ok (.tuple #[.agg #[.string ⟨#[]⟩, .bool false], .bool false]) V)
    (HL0 : ∀ V, Below W.heap.size W V → (Instr.lookup 50 (.map (some m)) (.agg #[.string sNAME, .int .i64 0]) true).run Tryd.prog V = .ok (.tuple #[.agg #[.string sV, .bool true], .bool true]) V)
    (HL1 : ∀ V, Below W.heap.size W V → (Instr.lookup 50 (.map (some m)) (.agg #[.string sNAME, .int .i64 1]) true).run Tryd.prog V = .ok (.tuple #[.agg #[.string sB, .bool false], .bool true]) V)
    (HL2 : ∀ V, Below W.heap.size W V → (Instr.lookup 50 (.map (some m)) (.agg #[.string sNAME, .int .i64 2]) true).run Tryd.prog V = .ok (.tuple #[.agg #[.string ⟨#[]⟩, .bool false], .bool false]) V)
    (HH : ∀ V, Glob V → Calls Tryd.prog 29 #[.string sV] V fun e w' => e = .returned (.tuple #[.string sUTF, .string sA20, .bool true]) ∧ Below V.heap.size V w')
    (HD : ∀ V, Calls Tryd.prog 6 #[.string sA20] V fun e w' => ∃ v0_ : Value, e = .returned (.tuple #[v0_, .int .i64 0]) ∧ Kd.R (Kd.int .u8) 5 w' V.heap.size (fun _ => True) v0_ [97, 32] ∧ Below V.heap.size V w')
    (HC : ∀ V A c, Kd.C (Kd.int .u8) V A 3 [97, 32, 98] → 3 ≤ c → Calls Tryd.prog 30 #[.string sUTF, .slice A 3 c] V fun e w' => ∃ v0_ : Value, e = .returned (.tuple #[v0_, .agg #[.int .i64 0, .int .i64 0]]) ∧ Kd.R (Kd.int .u8) 5 w' V.heap.size (fun _ => True) v0_ [97, 32, 98] ∧ Below V.heap.size V w') :
    Calls Tryd.prog 20 #[.map (some m), .string sNAME] W fun e w' => e = .returned (.tuple #[.string sAB, .int .i64 2, .bool true]) ∧ Below W.heap.size W w' := by
  have hu58 := Tryd.underlying58
  have hu54 := Tryd.underlying54
  have hm := HLm W (Below.refl _ _)
  go_enter Tryd.func20, Tryd.ntmps20
  go_wp2_with fail
  have B1 : Below W.heap.size W (W.alloc (.cells #[.string ⟨#[]⟩, .bool false] 58 (0, 0))) := below_alloc (Below.refl _ _) _
  revert B1
  generalize (W.alloc (.cells #[.string ⟨#[]⟩, .bool false] 58 (0, 0))) = V1
  intro B1
  have hl0 := HL0 V1 B1
  have hG1 := Aside0.mk (hG.below B1)
  refine wp_loop_rounds 3 ?_
  rw [rounds_succ]
  go_wp2_with (first
    | (go_at_call 29; refine (HH _ (hG1.out.below (below_alloc (Below.refl _ V1) _))).mono ?_; rintro e V2 ⟨rfl, hb⟩; have b2 := B1.trans (((below_alloc (Below.refl _ V1) _).trans (hb.mono (by rw [World.size_alloc]; omega))).mono B1.size); have pa := blk_below (blk_new V1 _) hb; have hconv := print_bytes (P := Tryd.prog) 9 22 5 Tryd.underlying9 Tryd.underlying22 Tryd.underlying5 sA20 V2; obtain ⟨V3, e3⟩ : ∃ V3, V3 = Lib.bytesWorld V2 5 sA20 := ⟨_, rfl⟩; have b3 : Below V2.heap.size V2 V3 := (by rw [e3]; exact bytes_below (Below.refl _ _) (Nat.le_refl _) _ _); rw [← e3] at hconv; clear e3; have pa3 := blk_below pa b3; have pc0 := blk_cell pa3 0; have pc1 := blk_cell pa3 1; have qc0 := blk_cell pa 0; have qc1 := blk_cell pa 1; have B3 := Aside0.mk (b2.trans (b3.mono b2.size)); clear pa hb b2 b3 pa3)
    | (go_at_call 6; refine (HD _).mono ?_; rintro e V4 ⟨v4, rfl, ho4, hb⟩; have B4 := Aside0.mk (B3.out.trans (hb.mono B3.out.size)); have O4 := Aside0.mk (Kd.R_lower ho4 B3.out.size); clear hb ho4 pc0 pc1 qc0 qc1; obtain ⟨A4, c4, e4⟩ := Kd.R_slice O4.out; subst e4)
    | ((with_reducible refine gate_builtin (b := .append) (xs := #[.tmp 113, .tmp 114]) rfl ?_); at_builtin; refine Kd.R_append_rows (Kd.int .u8) (w0 := W) W.heap.size rfl (.tmp 113) (.tmp 114) 22 5 (.int .u8 0) 1 rfl Tryd.underlying22 infou8 rfl (by decide) (by omega) (.slice none 0 0) [] [97, 32] _ _ _ (fun _ => True) (fun _ => False) rfl rfl (Kd.R_nil _ _ _ _ _) (Kd.R_reads' O4.out).2.2 (fun _ _ h => h) (fun _ h => h.elim) (fun _ _ => trivial) B4.out B4.out.size (by simp) ?_; intro v5 V5 ho hb hg hat; clear O4 B4 hg hat; have O5 := Aside0.mk ho; have B5 := Aside0.mk hb; clear ho hb))
  have hl1 := HL1 V5 B5.out
  rw [rounds_succ]
  obtain ⟨A5, c5, e5⟩ := Kd.R_slice O5.out
  subst e5
  have q5 := blk_new V5 (.cells #[.string sB, .bool false] 58 (0, 0))
  have hconv := print_bytes (P := Tryd.prog) 9 22 5 Tryd.underlying9 Tryd.underlying22 Tryd.underlying5 sB (V5.alloc (.cells #[.string sB, .bool false] 58 (0, 0)))
  have hbr := bytes_reads (V5.alloc (.cells #[.string sB, .bool false] 58 (0, 0))) 5 sB (by decide)
  obtain ⟨V7, e7⟩ : ∃ V7, V7 = Lib.bytesWorld (V5.alloc (.cells #[.string sB, .bool false] 58 (0, 0))) 5 sB := ⟨_, rfl⟩
  have b7 : Below (V5.alloc (.cells #[.string sB, .bool false] 58 (0, 0))).heap.size (V5.alloc (.cells #[.string sB, .bool false] 58 (0, 0))) V7 := by rw [e7]; exact bytes_below (Below.refl _ _) (Nat.le_refl _) _ _
  rw [← e7] at hconv hbr
  clear e7
  have q7 := blk_below q5 b7
  have qc0 := blk_cell q7 0
  have qc1 := blk_cell q7 1
  have b57 : Below V5.heap.size V5 V7 := (below_alloc (Below.refl _ V5) _).trans (b7.mono (by rw [World.size_alloc]; omega))
  have B7 := Aside0.mk (B5.out.trans (b57.mono B5.out.size))
  have O7 := Aside0.mk (Kd.R_below O5.out b57)
  have hc7 : (Kd.int .u8).C V7 (some ⟨V5.heap.size + 1, 0, none⟩) 1 [98] := by
    rw [World.size_alloc] at hbr
    exact Kd.C_of_reads (enc := Value.int .u8) (d := (0 : Int)) (h1 := fun _ => rfl) hbr
  have C7 := Aside0.mk hc7
  clear q5 b7 q7 b57 hbr hc7 O5 B5
  go_wp2_with (first
    | ((with_reducible refine gate_builtin (b := .append) (xs := #[.tmp 113, .tmp 114]) rfl ?_); at_builtin; refine Kd.R_append_rows (Kd.int .u8) (w0 := W) W.heap.size rfl (.tmp 113) (.tmp 114) 22 5 (.int .u8 0) 1 rfl Tryd.underlying22 infou8 rfl (by decide) (by omega) (.slice A5 2 c5) [97, 32] [98] _ _ _ (fun _ => True) (fun _ => False) rfl rfl O7.out C7.out (fun _ _ h => h) (fun _ h => h.elim) (fun _ _ => trivial) B7.out B7.out.size (by simp) ?_; intro v8 V8 ho hb hg hat; clear O7 B7 hg hat; have O8 := Aside0.mk ho; have B8 := Aside0.mk hb; clear ho hb))
  have hl2 := HL2 V8 B8.out
  rw [rounds_succ]
  obtain ⟨A8, c8, e8⟩ := Kd.R_slice O8.out
  subst e8
  have hc8 := Aside0.mk (Kd.C_alloc (Kd.R_reads' O8.out).2.2 (.cells #[.string ⟨#[]⟩, .bool false] 58 (0, 0)))
  have hn8 := (Kd.R_reads' O8.out).2.1
  go_wp2_with (first
    | (go_at_call 30; refine (HC _ A8 c8 hc8.out hn8).mono ?_; rintro e V9 ⟨v9, rfl, ho9, hb⟩; have b9 := B8.out.trans (((below_alloc (Below.refl _ V8) _).trans (hb.mono (by rw [World.size_alloc]; omega))).mono B8.out.size); obtain ⟨A9, c9, e9⟩ := Kd.R_slice ho9; subst e9; have hs : ∀ n, (convert 22 9 (.slice A9 3 c9)).run Tryd.prog ((V9.alloc (.cells #[.int .i64 0, .int .i64 0] 73 (0, 0))).drewN n) = .ok (.string sAB) ((V9.alloc (.cells #[.int .i64 0, .int .i64 0] 73 (0, 0))).drewN n) := (fun n => Kd.C_string Tryd.underlying22 Tryd.underlying5 Tryd.underlying9 (Kd.C_drewN (Kd.C_alloc (Kd.R_reads' ho9).2.2 _) n)); clear ho9 hb hc8 hn8 O8 B8))
  go_quiet (fail)
  go_wp2
  go_ret3
  exact ⟨rfl, pw_below_drewN (b9.alloc b9.size _) _⟩
end Go.Proofs.YtlkonnkglbfkbaaDoor.Ex

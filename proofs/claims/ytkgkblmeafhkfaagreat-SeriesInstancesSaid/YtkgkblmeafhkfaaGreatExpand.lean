/- recur.Expand and its iterator, over the program's edges alone (what it calls are hypotheses). -/
import Derived.RangeFuncNested
import Derived.RangeFuncBound
import Derived.RangeFuncCalls
import Derived.RangeFuncLeaves
import Derived.RangeFuncBox
import Derived.Shelf.Abstract
import Derived.WalkKit
import Derived.OwnWalkIn
import Derived.TacticsInMore
import Derived.LoopNIn
import Derived.LoopIn
import Derived.WalkMore
import Derived.Maps.AppendAt
import Derived.Test.YtkgkblmeafhkfaaGreatProg
namespace Go.Proofs.YtkgkblmeafhkfaaGreat.Expand
open Go.RowKit Go.Shelf
attribute [local go_sem] Oper.semAt_some
set_option linter.unusedVariables false
/-- The days from d on up to a last one, every step-th, that are the first or that m tells. -/
def exDays (m : Nat → Int → Option Bool) (first last step : Int) : Nat → Int → Option (List Int)
  | 0, _ => none
  | k + 1, d => if d ≤ last then (if d = first then (exDays m first last step k (wrap64 (d + step))).bind fun ys => some (d :: ys) else (m k d).bind fun b => (exDays m first last step k (wrap64 (d + step))).bind fun ys => some (if b = true then d :: ys else ys)) else some []

theorem blk_cell {w : World} {g : Nat} {cs : Array Value} {t : TypeId} (h : w.heap[g]? = some (.cells cs t (0, 0))) (j : Nat) : w.cell? ⟨g, j, none⟩ = cs[j]? := by
  simp [World.cell?, h]
theorem wrapA {d s : Int} (h1 : -9223372036854775808 ≤ d) (h2 : d ≤ 2932896) (h3 : 1 ≤ s) (h4 : s ≤ 1000) : wrap64 (d + s) = d + s := by unfold wrap64; omega
theorem blk_lt {w : World} {g : Nat} {o : Obj} (h : w.heap[g]? = some o) : g < w.heap.size := (Array.getElem?_eq_some_iff.1 h).1
/-- What a round of the caller keeps: what lay below n₀, and the three boxes. -/
def Kp3 (n₀ bR bF bL : Nat) (W W' : World) : Prop := Below n₀ W W' ∧ W'.heap[bR]? = W.heap[bR]? ∧ W'.heap[bF]? = W.heap[bF]? ∧ W'.heap[bL]? = W.heap[bL]?
theorem Kp3.refl (n₀ bR bF bL : Nat) (W : World) : Kp3 n₀ bR bF bL W W := ⟨Below.refl _ _, rfl, rfl, rfl⟩
theorem Kp3.trans {n₀ bR bF bL : Nat} {A B C : World} (h : Kp3 n₀ bR bF bL A B) (k : Kp3 n₀ bR bF bL B C) : Kp3 n₀ bR bF bL A C := ⟨h.1.trans k.1, k.2.1.trans h.2.1, k.2.2.1.trans h.2.2.1, k.2.2.2.trans h.2.2.2⟩

set_option maxRecDepth 100000 in
set_option maxHeartbeats 4000000 in
theorem days1_in (n : Nat) (hn : 1 ≤ n) (l bR bF bL n₀ : Nat) (r0 r1 r2 r3 st : Int) (s4 s5 s6 : Value) (first last : Int) (m : Nat → Int → Option Bool) (k : Nat) (xs : List Int)
    (hst : (r0 = 1 ∧ st = r1) ∨ (r0 ≠ 1 ∧ st = 1)) (hs1 : 1 ≤ st) (hs2 : st ≤ 1000) (w0 : World) (hn₀ : n₀ = w0.heap.size)
    (hm : ∀ kq d b W, m kq d = some b → Below w0.heap.size w0 W → Calls Tryz.prog 85 #[.agg #[.int .i64 r0, .int .i64 r1, .int .i64 r2, .int .i64 r3, s4, s5, s6], .int .i64 first, .int .i64 d] W fun e w' => e = .returned (.bool b) ∧ Below W.heap.size W w')
    (J Jx : List Int → World → Prop) (W : World) (hJa : ∀ pre A B, J pre A → Below A.heap.size A B → J pre B)
    (hY : ∀ pre x W, J pre W → pre.length < xs.length → YieldAt Fence.wide (n - 1) Tryz.prog l #[.int .i64 x] W fun e W' =>
      (e = .returned (.bool true) ∧ J (pre ++ [x]) W' ∧ Kp3 n₀ bR bF bL W W') ∨ (e = .returned (.bool false) ∧ Jx (pre ++ [x]) W'))
    (hbelow : Below w0.heap.size w0 W)
    (hR : W.heap[bR]? = some (.cells #[.int .i64 r0, .int .i64 r1, .int .i64 r2, .int .i64 r3, s4, s5, s6] 25 (0, 0))) (hF : W.heap[bF]? = some (.cells #[.int .i64 first] 2 (0, 0))) (hL : W.heap[bL]? = some (.cells #[.int .i64 last] 2 (0, 0)))
    (h1 : s4.oneCell' = true) (h2 : s5.oneCell' = true) (h3 : s6.oneCell' = true)
    (hfl : -9223372036854775808 ≤ first) (hx : exDays m first (min last 2932896) st k first = some xs) (h0 : J [] W) :
    CallsIn Fence.wide n Tryz.prog 84 #[.func (.yield l) #[] #[], .pointer (some ⟨bR, 0, none⟩), .pointer (some ⟨bF, 0, none⟩), .pointer (some ⟨bL, 0, none⟩)] W fun e W' => (∃ v, e = .returned v) ∧
      ((∃ ys, ys = xs ∧ J ys W') ∨ (∃ pre, pre <+: xs ∧ Jx pre W')) := by
  refine callsIn_of_wp Tryz.func84 rfl trivial ?_ rfl
  simp only [Tryz.ntmps84, List.size_toArray, List.length_cons, List.length_nil, Nat.reduceAdd, Nat.reduceSub, Array.replicate_succ, Array.replicate_zero, List.push_toArray, List.append_toArray, List.nil_append, List.cons_append]
  have hcR0 : W.cell? ⟨bR, 0, none⟩ = some (.int .i64 r0) := (blk_cell hR 0).trans rfl
  have hcR1 : W.cell? ⟨bR, 1, none⟩ = some (.int .i64 r1) := (blk_cell hR 1).trans rfl
  have hcF : W.cell? ⟨bF, 0, none⟩ = some (.int .i64 first) := (blk_cell hF 0).trans rfl
  rcases hst with ⟨rfl, rfl⟩ | ⟨c0, rfl⟩
  all_goals gi_wp2
  all_goals (try simp only [show (r0 == 1) = false from beq_eq_false_iff_ne.mpr c0])
  all_goals
    gi_loopw [6] (fun d wr => ∃ (dd : Int) (kq : Nat) (pre rest : List Int), d = .int .i64 dd ∧ first ≤ dd ∧ exDays m first (min last 2932896) _ kq dd = some rest ∧ xs = pre ++ rest ∧ J pre wr ∧ Kp3 n₀ bR bF bL W wr)
      (fun d _ => (3000000 - intOf d).toNat)
    case atStart => exact ⟨first, k, [], xs, rfl, Int.le_refl _, hx, rfl, h0, Kp3.refl _ _ _ _ _⟩
    case round =>
      obtain ⟨dd, kq, pre, rest, rfl, hlo, hd, hxs, hJs, hkp⟩ := hrel
      cases kq with
      | zero => simp [exDays] at hd
      | succ kq =>
        simp only [exDays] at hd
        have hR1 := hkp.2.1.trans hR
        have hF1 := hkp.2.2.1.trans hF
        have hL1 := hkp.2.2.2.trans hL
        have hbw : Below w0.heap.size w0 wr := hbelow.trans (hn₀ ▸ hkp.1)
        have hcF1 : wr.cell? ⟨bF, 0, none⟩ = some (.int .i64 first) := (blk_cell hF1 0).trans rfl
        have hcL1 : wr.cell? ⟨bL, 0, none⟩ = some (.int .i64 last) := (blk_cell hL1 0).trans rfl
        have hq0 := (blk_cell hR1 0).trans rfl
        have hq1 := (blk_cell hR1 1).trans rfl
        have hq2 := (blk_cell hR1 2).trans rfl
        have hq3 := (blk_cell hR1 3).trans rfl
        have hq4 := (blk_cell hR1 4).trans rfl
        have hq5 := (blk_cell hR1 5).trans rfl
        have hq6 := (blk_cell hR1 6).trans rfl
        by_cases c1 : dd ≤ min last 2932896
        · rw [if_pos c1] at hd
          have hw := wrapA (show -9223372036854775808 ≤ dd by omega) (show dd ≤ 2932896 by omega) hs1 hs2
          rw [hw] at hd
          by_cases c2 : dd = first
          · rw [if_pos c2] at hd
            obtain ⟨ys, hys, e⟩ := Option.bind_eq_some_iff.mp hd
            obtain rfl := Option.some.inj e
            obtain ⟨fn, tmps, assign, body, hy, hR⟩ := hY pre dd wr hJs (by rw [hxs]; simp)
            subst c2
            gi_wp2
            all_goals
              refine ⟨trivial, ?_⟩
              gi_wp2
              refine hR.mono ?_
              rintro e W3 (⟨rfl, hJ3, hk3⟩ | ⟨rfl, hJx3⟩)
              · gi_wp2
                go_roundw
                case rel => exact ⟨_, kq, pre ++ [dd], ys, (by first | rfl | rw [hw]), by omega, hys, by rw [hxs]; simp, hJ3, hkp.trans hk3⟩
                case measure => (try simp only [hw]); simp only [intOf]; omega
              · gi_wp2
                refine bodyPost_ret (results_none rfl _ _ _) rfl ?_
                exact ⟨⟨_, rfl⟩, .inr ⟨pre ++ [dd], ⟨ys, by rw [hxs]; simp⟩, hJx3⟩⟩
          · rw [if_neg c2] at hd
            obtain ⟨b, hb, hd⟩ := Option.bind_eq_some_iff.mp hd
            obtain ⟨ys, hys, e⟩ := Option.bind_eq_some_iff.mp hd
            have e := Option.some.inj e
            cases b with
            | true =>
              obtain rfl : dd :: ys = rest := e
              gi_wp2_with (first | (refine ⟨trivial, ?_⟩; gi_at_call 85; refine (callsIn_wide.2 (hm kq dd true _ hb hbw)).mono ?_; rintro e w1 ⟨rfl, hb1⟩; have hk1 : Kp3 n₀ bR bF bL wr w1 := ⟨hb1.mono (hn₀ ▸ hbw.size), hb1.block bR (blk_lt hR1), hb1.block bF (blk_lt hF1), hb1.block bL (blk_lt hL1)⟩; obtain ⟨fn, tmps, assign, body, hy, hR⟩ := hY pre dd w1 (hJa pre _ _ hJs hb1) (by rw [hxs]; simp)))
              all_goals
                refine hR.mono ?_
                rintro e W3 (⟨rfl, hJ3, hk3⟩ | ⟨rfl, hJx3⟩)
                · gi_wp2
                  go_roundw
                  case rel => exact ⟨_, kq, pre ++ [dd], ys, (by first | rfl | rw [hw]), by omega, hys, by rw [hxs]; simp, hJ3, (hkp.trans hk1).trans hk3⟩
                  case measure => (try simp only [hw]); simp only [intOf]; omega
                · gi_wp2
                  refine bodyPost_ret (results_none rfl _ _ _) rfl ?_
                  exact ⟨⟨_, rfl⟩, .inr ⟨pre ++ [dd], ⟨ys, by rw [hxs]; simp⟩, hJx3⟩⟩
            | false =>
              obtain rfl : ys = rest := e
              gi_wp2_with (first | (refine ⟨trivial, ?_⟩; gi_at_call 85; refine (callsIn_wide.2 (hm kq dd false _ hb hbw)).mono ?_; rintro e w1 ⟨rfl, hb1⟩; have hk1 : Kp3 n₀ bR bF bL wr w1 := ⟨hb1.mono (hn₀ ▸ hbw.size), hb1.block bR (blk_lt hR1), hb1.block bF (blk_lt hF1), hb1.block bL (blk_lt hL1)⟩))
              all_goals
                refine ⟨fun _ h => (by cases h), ?_⟩
                gi_wp2
                go_roundw
                case rel => exact ⟨_, kq, pre, ys, (by first | rfl | rw [hw]), by omega, hys, hxs, hJa pre _ _ hJs hb1, hkp.trans hk1⟩
                case measure => (try simp only [hw]); simp only [intOf]; omega
        · rw [if_neg c1] at hd
          obtain rfl : [] = rest := Option.some.inj hd
          gi_wp2
          all_goals go_end0
          all_goals first | exact ⟨⟨_, rfl⟩, .inl hJs⟩ | exact ⟨⟨_, rfl⟩, .inl ⟨pre, (by rw [hxs]; simp), hJs⟩⟩
/-- A day's time. -/
def exTime (first d : Int) : Int := wrap64 (wrap64 (d * 86400) + (first % 86400))
/-- Is the loop left at a day, c days having come, n times having been told? -/
def exStop (cnt until_ first to most : Int) (c n : Int) (d : Int) : Bool := decide (exTime first d ≥ to) || (decide (cnt > 0) && decide (wrap64 (c + 1) > cnt)) || (!(until_ == -1) && decide (exTime first d > until_)) || (n == most)
/-- What is told behind a day. -/
def exPut (first from_ : Int) (out : List Int) (d : Int) : List Int := if exTime first d ≥ from_ then out ++ [exTime first d] else out
/-- The times: days until the loop is left. -/
def exRun (cnt until_ first from_ to most : Int) : Int → List Int → List Int → List Int
  | _, out, [] => out
  | c, out, d :: ds => if exStop cnt until_ first to most c (out.length : Int) d = true then out else exRun cnt until_ first from_ to most (wrap64 (c + 1)) (exPut first from_ out d) ds
/-- A part that goes on to its end: how many days, and what is told. -/
def exGo (cnt until_ first from_ to most : Int) (pre : List Int) : Option (Int × List Int) := pre.foldl (fun st d => st.bind fun st => if exStop cnt until_ first to most st.1 (st.2.length : Int) d = true then none else some (wrap64 (st.1 + 1), exPut first from_ st.2 d)) (some (0, []))
theorem exGo_snoc (cnt until_ first from_ to most : Int) (pre : List Int) (d : Int) : exGo cnt until_ first from_ to most (pre ++ [d]) = (exGo cnt until_ first from_ to most pre).bind fun st => if exStop cnt until_ first to most st.1 (st.2.length : Int) d = true then none else some (wrap64 (st.1 + 1), exPut first from_ st.2 d) := by simp [exGo, List.foldl_append]
theorem exGo_none (cnt until_ first from_ to most : Int) (pre : List Int) : pre.foldl (fun (st : Option (Int × List Int)) d => st.bind fun st => if exStop cnt until_ first to most st.1 (st.2.length : Int) d = true then none else some (wrap64 (st.1 + 1), exPut first from_ st.2 d)) none = none := by
  induction pre with
  | nil => rfl
  | cons d pre ih => simpa using ih
theorem exRun_go (cnt until_ first from_ to most : Int) (rest : List Int) (n : Int) (out : List Int) : ∀ (pre : List Int) (c : Int) (o : List Int),
    pre.foldl (fun (st : Option (Int × List Int)) d => st.bind fun st => if exStop cnt until_ first to most st.1 (st.2.length : Int) d = true then none else some (wrap64 (st.1 + 1), exPut first from_ st.2 d)) (some (c, o)) = some (n, out) →
    exRun cnt until_ first from_ to most c o (pre ++ rest) = exRun cnt until_ first from_ to most n out rest := by
  intro pre
  induction pre with
  | nil => intro c o h; simp at h; rw [h.1, h.2]; rfl
  | cons d pre ih =>
    intro c o h
    simp only [List.foldl_cons, Option.bind_some] at h
    by_cases hs : exStop cnt until_ first to most c (o.length : Int) d = true
    · rw [if_pos hs, exGo_none] at h; cases h
    · rw [if_neg hs] at h
      show exRun cnt until_ first from_ to most c o (d :: (pre ++ rest)) = _
      simp only [exRun, if_neg hs]
      exact ih _ _ h
theorem exGo_len (cnt until_ first from_ to most : Int) (hm : 0 ≤ most) : ∀ (pre : List Int) (c : Int) (o : List Int) (n : Int) (out : List Int), (o.length : Int) ≤ most →
    pre.foldl (fun (st : Option (Int × List Int)) d => st.bind fun st => if exStop cnt until_ first to most st.1 (st.2.length : Int) d = true then none else some (wrap64 (st.1 + 1), exPut first from_ st.2 d)) (some (c, o)) = some (n, out) → (out.length : Int) ≤ most := by
  intro pre
  induction pre with
  | nil => intro c o n out ho h; simp at h; rw [← h.2]; exact ho
  | cons d pre ih =>
    intro c o n out ho h
    simp only [List.foldl_cons, Option.bind_some] at h
    by_cases hs : exStop cnt until_ first to most c (o.length : Int) d = true
    · rw [if_pos hs, exGo_none] at h; cases h
    · rw [if_neg hs] at h
      refine ih _ _ _ _ ?_ h
      unfold exPut
      split
      · have : ¬ (o.length : Int) = most := fun e => hs (by simp [exStop, e])
        simp only [List.length_append, List.length_cons, List.length_nil]
        omega
      · exact ho

theorem five_heap (w : World) (a b c d e : Obj) : ((((((w.alloc a).alloc b).alloc c).alloc d).alloc e).heap[w.heap.size]? = some a) ∧ ((((((w.alloc a).alloc b).alloc c).alloc d).alloc e).heap[w.heap.size + 1]? = some b) ∧ ((((((w.alloc a).alloc b).alloc c).alloc d).alloc e).heap[w.heap.size + 1 + 1]? = some c) ∧ ((((((w.alloc a).alloc b).alloc c).alloc d).alloc e).heap[w.heap.size + 1 + 1 + 1]? = some d) ∧ ((((((w.alloc a).alloc b).alloc c).alloc d).alloc e).heap[w.heap.size + 1 + 1 + 1 + 1]? = some e) ∧ (((((w.alloc a).alloc b).alloc c).alloc d).alloc e).heap.size = w.heap.size + 5 ∧ Below w.heap.size w (((((w.alloc a).alloc b).alloc c).alloc d).alloc e) := by
  have A : ∀ (W : World) (o : Obj) (l : Nat), l < W.heap.size → (W.alloc o).heap[l]? = W.heap[l]? := fun W o l h => Below.heap_alloc W o l h
  have N : ∀ (W : World) (o : Obj) (l : Nat), l = W.heap.size → (W.alloc o).heap[l]? = some o := fun W o l h => by rw [h]; exact World.alloc_heap_new W o
  have S : ∀ (W : World) (o : Obj), (W.alloc o).heap.size = W.heap.size + 1 := fun W o => World.size_alloc W o
  refine ⟨?_, ?_, ?_, ?_, ?_, ?_, ?_⟩
  · rw [A _ _ _ (by simp only [S]; omega), A _ _ _ (by simp only [S]; omega), A _ _ _ (by simp only [S]; omega), A _ _ _ (by simp only [S]; omega), N _ _ _ rfl]
  · rw [A _ _ _ (by simp only [S]; omega), A _ _ _ (by simp only [S]; omega), A _ _ _ (by simp only [S]; omega), N _ _ _ (by simp only [S])]
  · rw [A _ _ _ (by simp only [S]; omega), A _ _ _ (by simp only [S]; omega), N _ _ _ (by simp only [S])]
  · rw [A _ _ _ (by simp only [S]; omega), N _ _ _ (by simp only [S])]
  · rw [N _ _ _ (by simp only [S])]
  · simp only [S]
  · exact (((((Below.refl _ w).alloc (Nat.le_refl _) _).alloc (by simp only [S]; omega) _).alloc (by simp only [S]; omega) _).alloc (by simp only [S]; omega) _).alloc (by simp only [S]; omega) _
theorem wpIn_scope_wide {n : Nat} {P : Program} {c : Code} {Q : Exit → Act → World → Prop} {a : Act} {w : World} (h : c.wpIn Fence.wide n P (Exit.noGoto Q) a w) : (Code.scope c).wpIn Fence.wide n P Q a w := (wpIn_wide (n := n)).2 (wp_scope_straight ((wpIn_wide (n := n)).1 h))
theorem three_heap (w : World) (a b c : Obj) : ((((w.alloc a).alloc b).alloc c).heap[w.heap.size]? = some a) ∧ ((((w.alloc a).alloc b).alloc c).heap[w.heap.size + 1]? = some b) ∧ ((((w.alloc a).alloc b).alloc c).heap[w.heap.size + 1 + 1]? = some c) ∧ (((w.alloc a).alloc b).alloc c).heap.size = w.heap.size + 1 + 1 + 1 ∧ Below w.heap.size w (((w.alloc a).alloc b).alloc c) := by
  have A : ∀ (W : World) (o : Obj) (l : Nat), l < W.heap.size → (W.alloc o).heap[l]? = W.heap[l]? := fun W o l h => Below.heap_alloc W o l h
  have N : ∀ (W : World) (o : Obj) (l : Nat), l = W.heap.size → (W.alloc o).heap[l]? = some o := fun W o l h => by rw [h]; exact World.alloc_heap_new W o
  have S : ∀ (W : World) (o : Obj), (W.alloc o).heap.size = W.heap.size + 1 := fun W o => World.size_alloc W o
  refine ⟨?_, ?_, ?_, ?_, ?_⟩
  · rw [A _ _ _ (by simp only [S]; omega), A _ _ _ (by simp only [S]; omega), N _ _ _ rfl]
  · rw [A _ _ _ (by simp only [S]; omega), N _ _ _ (by simp only [S])]
  · rw [N _ _ _ (by simp only [S])]
  · simp only [S]
  · exact (((Below.refl _ w).alloc (Nat.le_refl _) _).alloc (by simp only [S]; omega) _).alloc (by simp only [S]; omega) _
structure Hid (p : Prop) : Prop where
  out : p
theorem stop_iff {cnt until_ first to most n d : Int} {l : Int} : exStop cnt until_ first to most n l d = true ↔ (exTime first d ≥ to ∨ (cnt > 0 ∧ wrap64 (n + 1) > cnt) ∨ (until_ ≠ -1 ∧ exTime first d > until_) ∨ l = most) := by
  simp only [exStop, Bool.or_eq_true, Bool.and_eq_true, Bool.not_eq_true', decide_eq_true_eq, beq_iff_eq, beq_eq_false_iff_ne, or_assoc, ne_eq]
theorem own_base {W : World} {b b' : Nat} {e : TypeId} {size k : Nat} {v : Value} {xs : List Value} (h : W.ownsRow b e size v k xs) (hb : b' ≤ b) : W.ownsRow b' e size v k xs := by
  refine ⟨h.1, ?_⟩
  rcases h.2 with h0 | ⟨g, cap, cur, hv, hg, rest⟩
  · exact .inl h0
  · exact .inr ⟨g, cap, cur, hv, Nat.le_trans hb hg, rest⟩
theorem own_far {W : World} {b : Nat} {e : TypeId} {size k : Nat} {v : Value} {xs : List Value} (h : W.ownsRow b e size v k xs) {q : Nat} (hq : q < b) : some q ≠ v.ownBlock := by
  rcases h.2 with ⟨rfl, _⟩ | ⟨g, cap, cur, rfl, hg, _⟩
  · simp [Value.ownBlock]
  · intro e'
    have : q = g := by simpa [Value.ownBlock] using e'
    omega
theorem own_slice {W : World} {b : Nat} {e : TypeId} {size k : Nat} {v : Value} {xs : List Value} (h : W.ownsRow b e size v k xs) : ∃ A c, v = .slice A k c := by
  rcases h.2 with ⟨rfl, h0⟩ | ⟨g, cap, cur, rfl, _⟩
  · exact ⟨none, 0, by rw [h0]⟩
  · exact ⟨_, _, rfl⟩
theorem Tryz.info2' : (Tryz.prog.info? 2).map (fun i => (i.zero, i.size, i.bytes)) = some (some (.int .i64 0), 1, 8) := by kernel_rfl
theorem grown_of_below {A B : World} (h : Below A.heap.size A B) : A.grownBy B none := ⟨h.os, h.tape, h.output, h.size, fun k hk _ => h.block k hk⟩
/-- The five boxes of the parameters. -/
structure Bx (w : World) (v0 v1 v2 v3 v4 v5 v6 a b c d : Value) (W : World) : Prop where
  r : W.heap[w.heap.size]? = some (.cells #[v0, v1, v2, v3, v4, v5, v6] 25 (0, 0))
  f : W.heap[w.heap.size + 1]? = some (.cells #[a] 2 (0, 0))
  g : W.heap[w.heap.size + 1 + 1]? = some (.cells #[b] 2 (0, 0))
  t : W.heap[w.heap.size + 1 + 1 + 1]? = some (.cells #[c] 2 (0, 0))
  m : W.heap[w.heap.size + 1 + 1 + 1 + 1]? = some (.cells #[d] 3 (0, 0))
  below : Below w.heap.size w W
theorem Bx.next {w : World} {v0 v1 v2 v3 v4 v5 v6 a b c d : Value} {W V : World} (h : Bx w v0 v1 v2 v3 v4 v5 v6 a b c d W) (hb : Below W.heap.size W V) : Bx w v0 v1 v2 v3 v4 v5 v6 a b c d V :=
  ⟨(hb.block _ (blk_lt h.r)).trans h.r, (hb.block _ (blk_lt h.f)).trans h.f, (hb.block _ (blk_lt h.g)).trans h.g, (hb.block _ (blk_lt h.t)).trans h.t, (hb.block _ (blk_lt h.m)).trans h.m, h.below.trans (hb.mono h.below.size)⟩
theorem Bx.cells {w : World} {v0 v1 v2 v3 v4 v5 v6 a b c d : Value} {W : World} (h : Bx w v0 v1 v2 v3 v4 v5 v6 a b c d W) :
    W.cell? ⟨w.heap.size, 0, none⟩ = some v0 ∧ W.cell? ⟨w.heap.size, 1, none⟩ = some v1 ∧ W.cell? ⟨w.heap.size, 2, none⟩ = some v2 ∧ W.cell? ⟨w.heap.size, 3, none⟩ = some v3 ∧ W.cell? ⟨w.heap.size, 4, none⟩ = some v4 ∧ W.cell? ⟨w.heap.size, 5, none⟩ = some v5 ∧ W.cell? ⟨w.heap.size, 6, none⟩ = some v6 ∧
    W.cell? ⟨w.heap.size + 1, 0, none⟩ = some a ∧ W.cell? ⟨w.heap.size + 1 + 1, 0, none⟩ = some b ∧ W.cell? ⟨w.heap.size + 1 + 1 + 1, 0, none⟩ = some c ∧ W.cell? ⟨w.heap.size + 1 + 1 + 1 + 1, 0, none⟩ = some d :=
  ⟨(blk_cell h.r 0).trans rfl, (blk_cell h.r 1).trans rfl, (blk_cell h.r 2).trans rfl, (blk_cell h.r 3).trans rfl, (blk_cell h.r 4).trans rfl, (blk_cell h.r 5).trans rfl, (blk_cell h.r 6).trans rfl, (blk_cell h.f 0).trans rfl, (blk_cell h.g 0).trans rfl, (blk_cell h.t 0).trans rfl, (blk_cell h.m 0).trans rfl⟩
set_option maxHeartbeats 1000000 in
theorem days_in (W : World) (v0 v1 v2 v3 v4 v5 v6 : Value) (a b : Int) :
    Calls Tryz.prog 61 #[.agg #[v0, v1, v2, v3, v4, v5, v6], .int .i64 a, .int .i64 b] W fun e w' => e = .returned (.func (.func 84) #[] #[.pointer (some ⟨W.heap.size, 0, none⟩), .pointer (some ⟨W.heap.size + 1, 0, none⟩), .pointer (some ⟨W.heap.size + 1 + 1, 0, none⟩)]) ∧
      w' = ((W.alloc (.cells #[v0, v1, v2, v3, v4, v5, v6] 25)).alloc (.cells #[.int .i64 a] 2)).alloc (.cells #[.int .i64 b] 2) := by
  have hmf : ∀ (fn : Fn) (first cap : Array Value) (w : World), (Instr.makeFunc fn first cap).run Tryz.prog w = .ok (.func fn first cap) w := fun _ _ _ _ => rfl
  go_enter Tryz.func61, Tryz.ntmps61
  go_wp2
  go_ret
  exact ⟨rfl, rfl⟩
set_option maxRecDepth 100000 in
set_option maxHeartbeats 4000000 in
theorem expand_main (w : World) (r0 r1 r2 r3 st : Int) (s4 s5 s6 : Value) (first from_ to most : Int) (m : Nat → Int → Option Bool) (k : Nat) (xs : List Int)
    (hst : (r0 = 1 ∧ st = r1) ∨ (r0 ≠ 1 ∧ st = 1)) (hs1 : 1 ≤ st) (hs2 : st ≤ 1000)
    (h1 : s4.oneCell' = true) (h2 : s5.oneCell' = true) (h3 : s6.oneCell' = true)
    (hRight : ∀ W, Below w.heap.size w W → Calls Tryz.prog 32 #[.agg #[.int .i64 r0, .int .i64 r1, .int .i64 r2, .int .i64 r3, s4, s5, s6]] W fun e w' => e = .returned (.bool true) ∧ Below W.heap.size W w')
    (hT : ∀ t W, (0 ≤ t ∧ t ≤ 253402300799) → Calls Tryz.prog 26 #[.int .i64 t] W fun e w' => e = .returned (.bool true) ∧ Below W.heap.size W w')
    (hm : ∀ kq d b W, m kq d = some b → Below w.heap.size w W → Calls Tryz.prog 85 #[.agg #[.int .i64 r0, .int .i64 r1, .int .i64 r2, .int .i64 r3, s4, s5, s6], .int .i64 (first / 86400), .int .i64 d] W fun e w' => e = .returned (.bool b) ∧ Below W.heap.size W w')
    (hf : 0 ≤ first ∧ first ≤ 253402300799) (hfr : 0 ≤ from_ ∧ from_ ≤ 253402300799) (hto : 0 ≤ to ∧ to ≤ 253402300799) (hsp : to - first ≤ 631152000) (hmo : 1 ≤ most ∧ most ≤ 1000)
    (hx : exDays m (first / 86400) (min (to / 86400) 2932896) st k (first / 86400) = some xs) :
    Calls Tryz.prog 46 #[.agg #[.int .i64 r0, .int .i64 r1, .int .i64 r2, .int .i64 r3, s4, s5, s6], .int .i64 first, .int .i64 from_, .int .i64 to, .int .i64 most] w fun e w' =>
      ∃ v, e = .returned (.tuple #[v, .int .i64 0]) ∧ w'.ownsRow w.heap.size 2 1 v (exRun r2 r3 first from_ to most 0 [] xs).length ((exRun r2 r3 first from_ to most 0 [] xs).map (Value.int .i64)) ∧ Below w.heap.size w w' := by
  refine (callsIn_wide (n := 4)).1 ?_
  refine callsIn_of_wp_marks Tryz.func46 rfl trivial ?_ rfl
  simp only [Tryz.ntmps46, List.size_toArray, List.length_cons, List.length_nil, Nat.reduceAdd, Nat.reduceSub, Array.replicate_succ, Array.replicate_zero, List.push_toArray, List.append_toArray, List.nil_append, List.cons_append]
  gi_wp2
  have F5 := five_heap w (.cells #[.int .i64 r0, .int .i64 r1, .int .i64 r2, .int .i64 r3, s4, s5, s6] 25 (0, 0)) (.cells #[.int .i64 first] 2 (0, 0)) (.cells #[.int .i64 from_] 2 (0, 0)) (.cells #[.int .i64 to] 2 (0, 0)) (.cells #[.int .i64 most] 3 (0, 0))
  revert F5
  generalize (((((w.alloc (.cells #[.int .i64 r0, .int .i64 r1, .int .i64 r2, .int .i64 r3, s4, s5, s6] 25 (0, 0))).alloc (.cells #[.int .i64 first] 2 (0, 0))).alloc (.cells #[.int .i64 from_] 2 (0, 0))).alloc (.cells #[.int .i64 to] 2 (0, 0))).alloc (.cells #[.int .i64 most] 3 (0, 0))) = W5
  rintro ⟨f0, f1, f2, f3, f4, fs, fb⟩
  have B5 : Bx w (.int .i64 r0) (.int .i64 r1) (.int .i64 r2) (.int .i64 r3) s4 s5 s6 (.int .i64 first) (.int .i64 from_) (.int .i64 to) (.int .i64 most) W5 := ⟨f0, f1, f2, f3, f4, fb⟩
  clear f0 f1 f2 f3 f4
  obtain ⟨q0, q1, q2, q3, q4, q5, q6, qf, qg, qt, qm⟩ := B5.cells
  refine wpIn_scope_wide ?_
  have ew : wrap64 (to - first) = to - first := by unfold wrap64; omega
  gi_wp2_with (first | (refine ⟨trivial, ?_⟩; gi_at_call 32; refine (callsIn_wide.2 (hRight _ B5.below)).mono ?_; rintro e W6 ⟨rfl, hb6⟩; have B6 := B5.next hb6; clear B5 hb6; obtain ⟨p0, p1, p2, p3, p4, p5, p6, pf, pg, pt, pm⟩ := B6.cells) | (refine ⟨trivial, ?_⟩; gi_at_call 26; refine (callsIn_wide.2 (hT _ _ (by omega))).mono ?_; rintro e W7 ⟨rfl, hb7⟩; have B7 := B6.next hb7; clear B6 hb7; have B6 := B7; clear B7; obtain ⟨p0, p1, p2, p3, p4, p5, p6, pf, pg, pt, pm⟩ := B6.cells))
  clear p0 p1 p2 p3 p4 p5 p6 pf pg pt pm q0 q1 q2 q3 q4 q5 q6 qf qg qt qm fs fb
  have bO := (Boxed.new W7 26 (.slice none 0 0)).alloc (.cells #[.int .i64 0] 3)
  have bC := Boxed.new (W7.alloc (.cells #[.slice none 0 0] 26)) 3 (.int .i64 0)
  rw [World.size_alloc] at bC
  have hb9 : Below W7.heap.size W7 ((W7.alloc (.cells #[.slice none 0 0] 26)).alloc (.cells #[.int .i64 0] 3)) := ((Below.refl _ _).alloc (Nat.le_refl _) _).alloc (by simp) _
  have B9 := B6.next hb9
  have hsz : ((W7.alloc (.cells #[.slice none 0 0] 26)).alloc (.cells #[.int .i64 0] 3)).heap.size = W7.heap.size + 1 + 1 := by simp
  have hB5 : w.heap.size + 5 ≤ W7.heap.size := by have := blk_lt B6.m; omega
  clear hb9 B6
  revert bO bC B9 hsz
  generalize ((W7.alloc (.cells #[.slice none 0 0] 26)).alloc (.cells #[.int .i64 0] 3)) = W9
  intro bO bC B9 hsz
  generalize W7.heap.size = B at *
  refine wpIn_label ?_
  obtain ⟨p0, p1, p2, p3, p4, p5, p6, pf, pg, pt, pm⟩ := B9.cells
  gi_wp2_with (refine ⟨trivial, ?_⟩; gi_at_call 61; refine (callsIn_wide.2 (days_in _ _ _ _ _ _ _ _ _ _)).mono ?_; rintro e W10 ⟨rfl, rfl⟩)
  have F3 := three_heap W9 (.cells #[.int .i64 r0, .int .i64 r1, .int .i64 r2, .int .i64 r3, s4, s5, s6] 25 (0, 0)) (.cells #[.int .i64 (first / 86400)] 2 (0, 0)) (.cells #[.int .i64 (to / 86400)] 2 (0, 0))
  have BL := B9.next F3.2.2.2.2
  have bOL : Boxed _ B 26 (.slice none 0 0) := (F3.2.2.2.2.block _ bO.lt).trans bO
  have bCL : Boxed _ (B + 1) 3 (.int .i64 0) := (F3.2.2.2.2.block _ bC.lt).trans bC
  clear p0 p1 p2 p3 p4 p5 p6 pf pg pt pm B9 bO bC
  revert F3 BL bOL bCL
  generalize ((W9.alloc (.cells #[.int .i64 r0, .int .i64 r1, .int .i64 r2, .int .i64 r3, s4, s5, s6] 25 (0, 0))).alloc (.cells #[.int .i64 (first / 86400)] 2 (0, 0))).alloc (.cells #[.int .i64 (to / 86400)] 2 (0, 0)) = Wl
  rintro ⟨fR, fF, fL, fs, -⟩ BL bO bC
  have hDl : B + 1 + 1 + 1 + 1 + 1 ≤ Wl.heap.size := by rw [fs, hsz]; exact Nat.le_refl _
  rw [hsz] at fR fF fL
  try rw [hsz]
  clear fs hsz
  let go := exGo r2 r3 first from_ to most
  let outOf : List Int → List Int := fun pre => ((go pre).getD (0, [])).2
  let cntOf : List Int → Int := fun pre => ((go pre).getD (0, [])).1
  let II : List Int → World → Prop := (fun pre W => ((∃ v, Boxed W B 26 v ∧ W.ownsRow Wl.heap.size 2 1 v (outOf pre).length ((outOf pre).map (Value.int .i64)) ∧ True) ∧ Boxed W (B + 1) 3 (.int .i64 (cntOf pre))) ∧ ((go pre).isSome = true ∧ (Wl.heap.size ≤ W.heap.size ∧ ∀ k, k < Wl.heap.size → k ≠ B → k ≠ B + 1 → W.heap[k]? = Wl.heap[k]?)) ∧ Below w.heap.size w W)
  let IX : Code → List Int → World → Prop := (fun c pre W => (c = .exit 1 ∧ ∃ p d n out, pre = p ++ [d] ∧ go p = some (n, out) ∧ exStop r2 r3 first to most n (out.length : Int) d = true) ∧ (∃ v, Boxed W B 26 v ∧ W.ownsRow Wl.heap.size 2 1 v (outOf pre.dropLast).length ((outOf pre.dropLast).map (Value.int .i64)) ∧ True) ∧ Below w.heap.size w W)
  refine wpIn_rangeFunc_ownG rfl (by omega) (gf := 84) (lb := #[.pointer (some ⟨B + 1 + 1, 0, none⟩), .pointer (some ⟨B + 1 + 1 + 1, 0, none⟩), .pointer (some ⟨B + 1 + 1 + 1 + 1, 0, none⟩)]) rfl trivial (enters_of Tryz.func84 (by kernel_rfl) rfl)
    (encs := fun x : Int => #[Value.int .i64 x]) (Kp := Kp3 w.heap.size (B + 1 + 1) (B + 1 + 1 + 1) (B + 1 + 1 + 1 + 1)) (S := fun ys => ys = xs) (Sp := fun pre => pre <+: xs) (N := xs.length) (w0 := Wl)
    (fun l J Jx W hW hJ hJx hY h0 => days1_in 3 (by omega) l (B + 1 + 1) (B + 1 + 1 + 1) (B + 1 + 1 + 1 + 1) w.heap.size r0 r1 r2 r3 st s4 s5 s6 (first / 86400) (to / 86400) m k xs hst hs1 hs2 w rfl hm J Jx W (fun pre X Y h hb => hJ pre X Y none h (grown_of_below hb) (fun _ e => by cases e)) hY
      (BL.below.trans (hW.mono BL.below.size)) ((hW.block _ (blk_lt fR)).trans fR) ((hW.block _ (blk_lt fF)).trans fF) ((hW.block _ (blk_lt fL)).trans fL) h1 h2 h3 (by omega) hx h0)
    Kp3.trans ?hKb (Below.refl _ _) (fun _ => rfl)
    II IX
    ?hI ?hIx ?h0 ?a1 ?assign ?body ?done ?stop
  case hKb =>
    intro W l o o' hl hlo ho hw
    have ne : ∀ q, q < Wl.heap.size → (W.putObj l o').heap[q]? = W.heap[q]? := fun q hq => World.putObj_heap_other (fun e => by omega)
    exact ⟨belowK_b (w := Wl) BL.below.size W l o o' hl hlo ho hw, ne _ (by omega), ne _ (by omega), ne _ (by omega)⟩
  case hI =>
    exact OwnFrom.and (OwnFrom.and (Own.from (holdsRow_own Wl.heap.size B 26 2 1 (fun pre => (outOf pre).length) (fun pre => (outOf pre).map (Value.int .i64)) (fun _ _ => True)) _) (Own.from (boxed_own (B + 1) 3 (fun pre => .int .i64 (cntOf pre))) _))
      (OwnFrom.and (OwnFrom.and (ownFrom_pure _ (fun pre => (go pre).isSome = true)) (fun s X Y row hs hg hr => ⟨Nat.le_trans hs.1 hg.size, fun q h1 h2 h3 => (hg.block q (by omega) (fun e => by have := (hr q e.symm).1; omega)).trans (hs.2 q h1 h2 h3)⟩)) (ownFrom_below (Nat.le_refl _) BL.below.size))
  case hIx =>
    intro c
    exact OwnFrom.and (ownFrom_pure _ (fun pre => c = .exit 1 ∧ ∃ p d n out, pre = p ++ [d] ∧ go p = some (n, out) ∧ exStop r2 r3 first to most n (out.length : Int) d = true))
      (OwnFrom.and (Own.from (holdsRow_own Wl.heap.size B 26 2 1 (fun (pre : List Int) => (outOf pre.dropLast).length) (fun (pre : List Int) => (outOf pre.dropLast).map (Value.int .i64)) (fun _ _ => True)) _) (ownFrom_below (Nat.le_refl _) BL.below.size))
  case h0 =>
    exact ⟨⟨⟨_, bO, World.ownsRow_nil _ _ _ _, trivial⟩, bC⟩, ⟨rfl, Nat.le_refl _, fun _ _ _ _ => rfl⟩, BL.below⟩
  case assign =>
    intro l x W K hK
    gi_wp2
    exact hK
  case body =>
    rintro l pre d W ⟨⟨⟨v, hv, hrow, -⟩, hc⟩, ⟨hgo, hsz, hfrz⟩, hB⟩ hlt
    obtain ⟨⟨n, out⟩, hgo'⟩ := Option.isSome_iff_exists.mp hgo
    have eo : outOf pre = out := by simp only [outOf, hgo']; rfl
    have ec : cntOf pre = n := by simp only [cntOf, hgo']; rfl
    rw [eo] at hrow
    rw [ec] at hc
    have hol : (out.length : Int) ≤ most := exGo_len r2 r3 first from_ to most (by omega) pre 0 [] n out (by simp; omega) hgo'
    have BW : Bx w (.int .i64 r0) (.int .i64 r1) (.int .i64 r2) (.int .i64 r3) s4 s5 s6 (.int .i64 first) (.int .i64 from_) (.int .i64 to) (.int .i64 most) W :=
      ⟨(hfrz _ (by omega) (by omega) (by omega)).trans BL.r, (hfrz _ (by omega) (by omega) (by omega)).trans BL.f, (hfrz _ (by omega) (by omega) (by omega)).trans BL.g, (hfrz _ (by omega) (by omega) (by omega)).trans BL.t, (hfrz _ (by omega) (by omega) (by omega)).trans BL.m, hB⟩
    obtain ⟨p0, p1, p2, p3, p4, p5, p6, pf, pg, pt, pm⟩ := BW.cells
    have hcc := hc.cell
    have hcf := hc.frozen
    obtain ⟨A, cA, rfl⟩ := own_slice hrow
    have hv1 := hv.other (B' := B + 1) (by omega) (.int .i64 (wrap64 (n + 1)))
    have hc1 := hc.set (.int .i64 (wrap64 (n + 1)))
    have hr1 : (W.setCell ⟨B + 1, 0, none⟩ (.int .i64 (wrap64 (n + 1)))).ownsRow Wl.heap.size 2 1 _ out.length (out.map (Value.int .i64)) := hrow.kept (grownBy_setCell' W (B + 1) _) (.inr (own_far hrow (by omega)).symm)
    have hB1 : Below w.heap.size w (W.setCell ⟨B + 1, 0, none⟩ (.int .i64 (wrap64 (n + 1)))) := hB.setCell (p := ⟨B + 1, 0, none⟩) (by show w.heap.size ≤ B + 1; omega) _
    have hz1 : ∀ q, q ≠ B + 1 → (W.setCell ⟨B + 1, 0, none⟩ (.int .i64 (wrap64 (n + 1)))).heap[q]? = W.heap[q]? := fun q h => Below.heap_setCell W ⟨B + 1, 0, none⟩ _ q h
    have hk1 := KeepsOthers.setCell W ⟨B + 1, 0, none⟩ (.int .i64 (wrap64 (n + 1)))
    have hp1 : Kp3 w.heap.size (B + 1 + 1) (B + 1 + 1 + 1) (B + 1 + 1 + 1 + 1) W (W.setCell ⟨B + 1, 0, none⟩ (.int .i64 (wrap64 (n + 1)))) := ⟨(Below.refl _ W).setCell (p := ⟨B + 1, 0, none⟩) (by show w.heap.size ≤ B + 1; omega) _, hz1 _ (by omega), hz1 _ (by omega), hz1 _ (by omega)⟩
    have hz1s : (W.setCell ⟨B + 1, 0, none⟩ (.int .i64 (wrap64 (n + 1)))).heap.size = W.heap.size := by simp [World.setCell]
    have hcv := hv1.cell
    obtain ⟨i0, hi, hy0, hy1, hy2⟩ := info_parts Tryz.info2'
    have hg2 : exStop r2 r3 first to most n (out.length : Int) d = false → go (pre ++ [d]) = some (wrap64 (n + 1), exPut first from_ out d) := fun hs => by
      show exGo r2 r3 first from_ to most (pre ++ [d]) = _
      rw [exGo_snoc, show exGo r2 r3 first from_ to most pre = some (n, out) from hgo', Option.bind_some, if_neg (by rw [hs]; decide)]
    have fin_stop : exStop r2 r3 first to most n (out.length : Int) d = true → ownPostG Wl.heap.size (Kp3 w.heap.size (B + 1 + 1) (B + 1 + 1 + 1) (B + 1 + 1 + 1 + 1)) II IX (pre ++ [d]) W (.exit 1) { tmps := #[], defers := [] } (W.setCell ⟨B + 1, 0, none⟩ (.int .i64 (wrap64 (n + 1)))) := fun hs =>
      ⟨hk1.from _, ⟨rfl, pre, d, n, out, rfl, hgo', hs⟩, ⟨_, hv1, (by rw [List.dropLast_concat, eo]; exact hr1), trivial⟩, hB1⟩
    have fin_skip : exStop r2 r3 first to most n (out.length : Int) d = false → ¬ wrap64 (wrap64 (d * 86400) + first % 86400) ≥ from_ → ownPostG Wl.heap.size (Kp3 w.heap.size (B + 1 + 1) (B + 1 + 1 + 1) (B + 1 + 1 + 1 + 1)) II IX (pre ++ [d]) W .normal { tmps := #[], defers := [] } (W.setCell ⟨B + 1, 0, none⟩ (.int .i64 (wrap64 (n + 1)))) := fun hs hp => by
      have hg3 := hg2 hs
      have e3 : exPut first from_ out d = out := by unfold exPut exTime; rw [if_neg hp]
      rw [e3] at hg3
      have eo3 : outOf (pre ++ [d]) = out := by simp only [outOf, hg3]; rfl
      have ec3 : cntOf (pre ++ [d]) = wrap64 (n + 1) := by simp only [cntOf, hg3]; rfl
      exact ⟨hk1.from _, hp1, ⟨⟨_, hv1, (by rw [eo3]; exact hr1), trivial⟩, (by rw [ec3]; exact hc1)⟩, ⟨(by rw [hg3]; rfl), (by rw [hz1s]; exact hsz), fun q a b c => (hz1 q c).trans (hfrz q a b c)⟩, hB1⟩
    have fin_put : exStop r2 r3 first to most n (out.length : Int) d = false → wrap64 (wrap64 (d * 86400) + first % 86400) ≥ from_ → ∀ (v' : Value) (w1 : World) (o : Obj), w1.ownsRow Wl.heap.size 2 1 v' (out.length + 1) (out.map (Value.int .i64) ++ [.int .i64 (wrap64 (wrap64 (d * 86400) + first % 86400))]) → ((W.setCell ⟨B + 1, 0, none⟩ (.int .i64 (wrap64 (n + 1)))).alloc o).grownBy w1 (Value.slice A out.length cA).ownBlock →
        ownPostG Wl.heap.size (Kp3 w.heap.size (B + 1 + 1) (B + 1 + 1 + 1) (B + 1 + 1 + 1 + 1)) II IX (pre ++ [d]) W .normal { tmps := #[], defers := [] } (w1.setCell ⟨B, 0, none⟩ v') := fun hs hp v' w1 o hown' hgrow => by
      obtain ⟨hv2, hv3, hr3, hk3, hb3⟩ := hv1.appended (by decide) (own_base hr1 BL.below.size) hB1.size (by omega) (own_base hown' BL.below.size) hgrow
      have hg3 := hg2 hs
      have e3 : exPut first from_ out d = out ++ [wrap64 (wrap64 (d * 86400) + first % 86400)] := by unfold exPut exTime; rw [if_pos hp]
      rw [e3] at hg3
      have eo3 : outOf (pre ++ [d]) = out ++ [wrap64 (wrap64 (d * 86400) + first % 86400)] := by simp only [outOf, hg3]; rfl
      have ec3 : cntOf (pre ++ [d]) = wrap64 (n + 1) := by simp only [cntOf, hg3]; rfl
      have hlow : ∀ q, q < Wl.heap.size → q ≠ B → (w1.setCell ⟨B, 0, none⟩ v').heap[q]? = (W.setCell ⟨B + 1, 0, none⟩ (.int .i64 (wrap64 (n + 1)))).heap[q]? := fun q a b => by
        rw [Below.heap_setCell w1 ⟨B, 0, none⟩ v' q b, hgrow.block q (by simp; omega) (own_far hr1 a)]
        exact Below.heap_alloc _ _ _ (by rw [hz1s]; omega)
      have hr4 : (w1.setCell ⟨B, 0, none⟩ v').ownsRow Wl.heap.size 2 1 v' (out.length + 1) (out.map (Value.int .i64) ++ [.int .i64 (wrap64 (wrap64 (d * 86400) + first % 86400))]) := hown'.kept (grownBy_setCell' w1 B v') (.inr (hv2.not_row (by decide) hown').symm)
      have hc3 : Boxed (w1.setCell ⟨B, 0, none⟩ v') (B + 1) 3 (.int .i64 (wrap64 (n + 1))) := (hlow (B + 1) (by omega) (by omega)).trans hc1
      refine ⟨(hk1.trans hk3).from _, hp1.trans ⟨hb3, hlow _ (by omega) (by omega), hlow _ (by omega) (by omega), hlow _ (by omega) (by omega)⟩, ⟨⟨_, hv3, ?_, trivial⟩, (by rw [ec3]; exact hc3)⟩, ⟨(by rw [hg3]; rfl), ?_, fun q a b c => (hlow q a b).trans ((hz1 q c).trans (hfrz q a b c))⟩, hB1.trans hb3⟩
      · rw [eo3]
        simpa using hr4
      · have := hb3.size
        rw [hz1s] at this
        omega
    have fs := Hid.mk (fun (h : (exTime first d ≥ to ∨ (r2 > 0 ∧ wrap64 (n + 1) > r2) ∨ (r3 ≠ -1 ∧ exTime first d > r3) ∨ (out.length : Int) = most)) => fin_stop (stop_iff.mpr h))
    have fk := Hid.mk (fun (h : ¬ (exTime first d ≥ to ∨ (r2 > 0 ∧ wrap64 (n + 1) > r2) ∨ (r3 ≠ -1 ∧ exTime first d > r3) ∨ (out.length : Int) = most)) => fin_skip (Bool.eq_false_iff.mpr (fun e => h (stop_iff.mp e))))
    have fp := Hid.mk (fun (h : ¬ (exTime first d ≥ to ∨ (r2 > 0 ∧ wrap64 (n + 1) > r2) ∨ (r3 ≠ -1 ∧ exTime first d > r3) ∨ (out.length : Int) = most)) => fin_put (Bool.eq_false_iff.mpr (fun e => h (stop_iff.mp e))))
    simp only [exTime] at fs fk fp
    clear fin_stop fin_skip fin_put
    gi_wp2_with (gi_at_builtin; refine wpListIn_append_own _ rfl _ _ 26 rfl Wl.heap.size 2 i0 (.int .i64 0) 1 8 Tryz.underlying26 hi hy0 hy1 hy2 rfl (by decide) _ _ _ rfl (hr1.alloc _) ⟨_, 0, none⟩ 1 1 [.int .i64 (wrap64 (wrap64 (d * 86400) + first % 86400))] rfl rfl (by rw [← hz1s]; exact cell_one_new _ _ _) (by simp [Value.oneCell']) (by unfold maxLen; omega) (by omega) (by simp; omega) ?_; intro v' w1 hown' hgrow _; obtain ⟨g', cap', rfl⟩ := ownsRow_succ hown'; have hv2 := (hv1.alloc _).kept hgrow (hv1.not_row (by decide) (own_base hr1 BL.below.size)); have hc2 := hv2.cell; have hf2 := hv2.frozen)
    all_goals (try simp only [beq_iff_eq, bne_iff_ne, beq_eq_false_iff_ne, bne_eq_false_iff_eq, ne_eq] at *)
    all_goals first
      | exact fs.out (by omega)
      | exact fk.out (by omega) (by omega)
      | exact fp.out (by omega) (by omega) _ _ _ hown' hgrow
  case done =>
    rintro D ys W hD rfl ⟨⟨⟨v, hv, hrow, -⟩, hc⟩, ⟨hgo, hsz, hfrz⟩, hB⟩ hK
    obtain ⟨⟨n, out⟩, hgo'⟩ := Option.isSome_iff_exists.mp hgo
    have eo : outOf ys = out := by simp only [outOf, hgo']; rfl
    rw [eo] at hrow
    have er : exRun r2 r3 first from_ to most 0 [] ys = out := by
      have := exRun_go r2 r3 first from_ to most [] n out ys 0 [] hgo'
      rwa [List.append_nil] at this
    obtain ⟨A, cA, rfl⟩ := own_slice hrow
    have hcv := hv.cell
    gi_wp2
    refine ⟨by simp, .inl ⟨_, _, rfl, run_takeDeferred hK, ?_⟩⟩
    exact ⟨_, results_tmp2 rfl _ _ _, _, rfl, (by rw [er]; exact ownsRow_putObj (own_base hrow BL.below.size) _ hK rfl), hB.trans (belowK_b (w := w) (Nat.le_refl _) W D _ _ (Nat.le_trans BL.below.size hD) hK rfl rfl)⟩
  case stop =>
    rintro D c pre W hD hSp ⟨⟨rfl, p, d, n, out, rfl, hgo, hs⟩, ⟨v, hv, hrow, -⟩, hB⟩ hK
    have eo : outOf (p ++ [d]).dropLast = out := by rw [List.dropLast_concat]; simp only [outOf, hgo]; rfl
    rw [eo] at hrow
    obtain ⟨rest, rfl⟩ := hSp
    have er : exRun r2 r3 first from_ to most 0 [] (p ++ [d] ++ rest) = out := by
      have := exRun_go r2 r3 first from_ to most (d :: rest) n out p 0 [] hgo
      rw [List.append_assoc, List.singleton_append, this]
      simp only [exRun, if_pos hs]
    obtain ⟨A, cA, rfl⟩ := own_slice hrow
    have hcv := hv.cell
    gi_wp2
    refine ⟨by simp, .inl ⟨_, _, rfl, run_takeDeferred hK, ?_⟩⟩
    exact ⟨_, results_tmp2 rfl _ _ _, _, rfl, (by rw [er]; exact ownsRow_putObj (own_base hrow BL.below.size) _ hK rfl), hB.trans (belowK_b (w := w) (Nat.le_refl _) W D _ _ (Nat.le_trans BL.below.size hD) hK rfl rfl)⟩
end Go.Proofs.YtkgkblmeafhkfaaGreat.Expand

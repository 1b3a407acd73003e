-- Written by a program of the session (wip/tools).
import Derived.Test.YtalepohjmjlndaaPBx0
import Derived.Test.YtalepohjmjlndaaPBx3
namespace Go.Proofs.Ytalepohjmjlndaa.PB
open Go.RowKit Go.Proofs.YtalepohjmjlndaaW.PrintWords Go.Proofs.YtalepohjmjlndaaW.PrintLast Go.Proofs.YtalepohjmjlndaaW.PrintMore
attribute [local go_sem] max2_int min2_int max_two min_two max_three min_three max_four min_four   -- for this text's walks alone
set_option linter.unusedVariables false
set_option linter.unusedSimpArgs false

/-! ### busy_Spread: function 11 -/
theorem k51_reps {w : World} {base : Nat} {ok : Nat → Prop} {xs : List S51} {inner : List Value} (h : Reps (k51.M w base ok) k51.sz xs inner) : Reps (fun x cs => cs = Sort.encE x) 3 (xs.map fun x => (x.f0, x.f1, x.f2)) inner := by
  refine ⟨by rw [List.length_map]; exact h.1, fun j p hp => ?_⟩
  rw [List.getElem?_map] at hp
  cases e : xs[j]? with
  | none => rw [e] at hp; cases hp
  | some x =>
    rw [e] at hp
    simp only [Option.map_some, Option.some.injEq] at hp
    subst hp
    exact k51_openM (h.2 j x e)
theorem k51_unreps {w : World} {base : Nat} {ok : Nat → Prop} {ys : List (Int × Int × Int)} {inner : List Value} (h : Reps (fun x cs => cs = Sort.encE x) 3 ys inner) : Reps (k51.M w base ok) k51.sz (ys.map fun p => (⟨p.1, p.2.1, p.2.2⟩ : S51)) inner := by
  refine ⟨by rw [List.length_map]; exact h.1, fun j p hp => ?_⟩
  rw [List.getElem?_map] at hp
  cases e : ys[j]? with
  | none => rw [e] at hp; cases hp
  | some x =>
    rw [e] at hp
    simp only [Option.map_some, Option.some.injEq] at hp
    subst hp
    have := h.2 j x e
    rw [show k51.sz = 3 from rfl, this]
    exact k51_mkM _ _ _ (⟨x.1, x.2.1, x.2.2⟩ : S51)
theorem grown_refl (w : World) (row : Option Nat) : w.grownBy w row := ⟨rfl, rfl, rfl, Nat.le_refl _, fun _ _ _ => rfl⟩

/-- slices.SortFunc over the edges. -/
theorem sort_R {w : World} {base : Nat} {ok : Nat → Prop} {v : Value} {xs : List S51} (h : Kd.R k51 51 w base ok v xs) (hsz : xs.length < 4611686018427387904) :
    Calls Try.prog 24 #[v, .func (.func 25) #[] #[]] w fun e w' => e = .returned (.tuple #[]) ∧ ∃ ys : List S51, ys.Perm xs ∧ ys.Pairwise (fun x y => x.f0 ≤ y.f0) ∧ Kd.R k51 51 w' base ok v ys ∧ w.grownBy w' v.ownBlock := by
  obtain ⟨h0, inner, ho, hr⟩ := h
  have ho' := ho
  obtain ⟨hlen, hv | ⟨g, cap, cur, hv, _⟩⟩ := ho'
  · obtain ⟨rfl, hn⟩ := hv
    obtain rfl : xs = [] := List.eq_nil_of_length_eq_zero hn
    refine (Sort.sort_none none 0).mono ?_
    rintro e w' ⟨he, rfl⟩
    exact ⟨he, [], List.Perm.refl _, List.Pairwise.nil, ⟨h0, inner, ho, hr⟩, grown_refl _ _⟩
  · subst hv
    have e1 : (xs.map fun x => (x.f0, x.f1, x.f2)).length = xs.length := List.length_map ..
    have hc := Sort.sort_own (xs := xs.map fun x => (x.f0, x.f1, x.f2)) (by rw [e1]; exact ho) (k51_reps hr) (by rw [e1]; exact hsz)
    rw [e1] at hc
    refine hc.mono ?_
    rintro e w' ⟨he, ys, inner', hp, hs, ho2, hr2, hg⟩
    have hl : ys.length = xs.length := by rw [hp.length_eq, e1]
    refine ⟨he, ys.map fun p => (⟨p.1, p.2.1, p.2.2⟩ : S51), ?_, ?_, ⟨h0, inner', ?_, k51_unreps hr2⟩, hg⟩
    · have := hp.map (fun p : Int × Int × Int => (⟨p.1, p.2.1, p.2.2⟩ : S51))
      rwa [List.map_map, show ((fun p : Int × Int × Int => (⟨p.1, p.2.1, p.2.2⟩ : S51)) ∘ fun x : S51 => (x.f0, x.f1, x.f2)) = id from rfl, List.map_id] at this
    · rw [List.pairwise_map]
      exact hs
    · rw [List.length_map, hl]
      exact ho2

theorem ret_int_ {k : IntKind} {a b : Int} (h : a = b) : Ending.returned (.int k a) = .returned (.int k b) := by rw [h]

set_option maxHeartbeats 1000000 in
/-- The greatest kind that is counted. -/
theorem top_calls (c0 c1 c2 c3 : Int) (w : World) :
    Calls Try.prog 26 #[.agg #[.int .i64 c0, .int .i64 c1, .int .i64 c2, .int .i64 c3]] w fun e w' => e = .returned (.int .i64 (Math.top4 c1 c2 c3)) ∧ Below w.heap.size w w' := by
  have hu54 := Try.underlying54
  have HB := Aside0.mk (Below.refl w.heap.size w)
  go_enter Try.func26, Try.ntmps26
  go_wp2
  go_loop [3] (fun t => ∃ k : Nat, k ≤ 3 ∧ t = .int .i64 k ∧ Aside0 ((k < 3 → c3 ≤ 0) ∧ (k < 2 → c2 ≤ 0) ∧ (k < 1 → c1 ≤ 0))) (fun t => (intOf t).toNat)
  case atStart => exact ⟨3, Nat.le_refl _, rfl, ⟨fun h => by omega, fun h => by omega, fun h => by omega⟩⟩
  case round =>
    obtain ⟨k, hk, rfl, HC⟩ := hrel
    have hk' : k = 0 ∨ k = 1 ∨ k = 2 ∨ k = 3 := by omega
    clear hk
    rcases hk' with rfl | rfl | rfl | rfl
    · go_wp2
      go_ret
      exact ⟨ret_int_ (by have := HC.out; unfold Math.top4; rw [if_neg (by omega), if_neg (by omega), if_neg (by omega)]), HB.out.alloc (Nat.le_refl _) _⟩
    · by_cases c : 0 < c1
      · have cb : decide (0 < c1) = true := decide_eq_true c
        have HD := Aside0.mk c
        clear c
        go_wp2
        go_ret
        exact ⟨ret_int_ (by have := HC.out; have := HD.out; unfold Math.top4; rw [if_neg (by omega), if_neg (by omega), if_pos (by omega)]), HB.out.alloc (Nat.le_refl _) _⟩
      · have cb : decide (0 < c1) = false := decide_eq_false c
        have HD := Aside0.mk c
        clear c
        go_wp2
        go_round
        case rel => exact ⟨0, by omega, rfl, ⟨fun h => by have := HC.out; omega, fun h => by have := HC.out; omega, fun h => by have := HD.out; omega⟩⟩
        case measure => simp [intOf]
    · by_cases c : 0 < c2
      · have cb : decide (0 < c2) = true := decide_eq_true c
        have HD := Aside0.mk c
        clear c
        go_wp2
        go_ret
        exact ⟨ret_int_ (by have := HC.out; have := HD.out; unfold Math.top4; rw [if_neg (by omega), if_pos (by omega)]), HB.out.alloc (Nat.le_refl _) _⟩
      · have cb : decide (0 < c2) = false := decide_eq_false c
        have HD := Aside0.mk c
        clear c
        go_wp2
        go_round
        case rel => exact ⟨1, by omega, rfl, ⟨fun h => by have := HC.out; omega, fun h => by have := HD.out; omega, fun h => by omega⟩⟩
        case measure => simp [intOf]
    · by_cases c : 0 < c3
      · have cb : decide (0 < c3) = true := decide_eq_true c
        have HD := Aside0.mk c
        clear c
        go_wp2
        go_ret
        exact ⟨ret_int_ (by have := HD.out; unfold Math.top4; rw [if_pos (by omega)]), HB.out.alloc (Nat.le_refl _) _⟩
      · have cb : decide (0 < c3) = false := decide_eq_false c
        have HD := Aside0.mk c
        clear c
        go_wp2
        go_round
        case rel => exact ⟨2, by omega, rfl, ⟨fun h => by have := HD.out; omega, fun h => by omega, fun h => by omega⟩⟩
        case measure => simp [intOf]

def toSp (s : S44) : Math.Sp := ⟨s.f0, s.f1, s.f2⟩
def ofSp (s : Math.Sp) : S44 := ⟨s.a, s.b, s.k⟩
def toEd (e : S51) : Math.Ed := ⟨e.f0, e.f1, e.f2⟩
def okB (s : S44) : Bool := decide (0 ≤ s.f0 ∧ s.f0 ≤ 253402300799 ∧ 0 ≤ s.f1 ∧ s.f1 ≤ 253402300799 ∧ s.f0 < s.f1 ∧ 1 ≤ s.f2 ∧ s.f2 ≤ 3)
theorem right_f (s : S44) : busy_Span_right.f s.f0 s.f1 s.f2 = some (okB s) := by
  unfold busy_Span_right.f busy_isSpan.f when_Right.f busy_isKind.f okB
  by_cases h1 : s.f0 ≥ 0 <;> by_cases h2 : s.f0 ≤ 253402300799 <;> by_cases h3 : s.f1 ≥ 0 <;> by_cases h4 : s.f1 ≤ 253402300799 <;> by_cases h5 : s.f0 < s.f1 <;> by_cases h6 : s.f2 ≥ 1 <;> by_cases h7 : s.f2 ≤ 3 <;>
    simp [h1, h2, h3, h4, h5, h6, h7] <;> omega
def edges51 : List S44 → List S51
  | [] => []
  | s :: l => ⟨s.f0, s.f2, 1⟩ :: ⟨s.f1, s.f2, -1⟩ :: edges51 l
theorem edges51_append : ∀ (l m : List S44), edges51 (l ++ m) = edges51 l ++ edges51 m
  | [], _ => rfl
  | s :: l, m => by simp only [List.cons_append, edges51, edges51_append l m]
theorem edges51_length : ∀ (l : List S44), (edges51 l).length = 2 * l.length
  | [] => rfl
  | s :: l => by simp only [edges51, List.length_cons, edges51_length l]; omega
theorem edges51_map : ∀ (l : List S44), (edges51 l).map toEd = Math.edges (l.map toSp)
  | [] => rfl
  | s :: l => by simp only [edges51, List.map_cons, Math.edges, edges51_map l]; rfl
theorem rd44_get {l : List S44} {i : Nat} (h : i < l.length) : rd_T44 l (i : Int) = l[i] := by unfold rd_T44; simp [h]
theorem take44 {l : List S44} {i : Nat} (h : i < l.length) : l.take (i + 1) = l.take i ++ [rd_T44 l (i : Int)] := by rw [rd44_get h, List.take_succ_eq_append_getElem h]
/-- What Spread comes to. -/
def busy_Spread.f (l0 : List S44) : Option (List S44 × Int) :=
  if 4096 < l0.length then some ([], 2) else if l0.all okB = true then
    (if 1024 < ((Math.spread (l0.map toSp)).map ofSp).length then some ([], 5) else some ((Math.spread (l0.map toSp)).map ofSp, 0)) else some ([], 3)
theorem wrap_nat {i : Nat} (h : i ≤ 100000) : wrap64 ((i : Int) + 1) = ((i + 1 : Nat) : Int) := by unfold wrap64; omega

/-- What lies in memory in the second loop. -/
structure Mem2 (w W : World) (g : Nat) (d1 d2 d3 : Int) (v4 : Value) (ys : List S51) (v7 : Value) (x7 : List S44) : Prop where
  cnt : W.heap[g]? = some (.cells #[.int .i64 0, .int .i64 d1, .int .i64 d2, .int .i64 d3] 54 (0, 0))
  ed : Kd.R k51 51 W w.heap.size (fun _ => True) v4 ys
  out : Kd.R k44 44 W w.heap.size (fun _ => True) v7 x7
  bel : Below w.heap.size w W
  ge : w.heap.size ≤ g
theorem Mem2.below {w W W1 : World} {g : Nat} {d1 d2 d3 : Int} {v4 : Value} {ys : List S51} {v7 : Value} {x7 : List S44} (h : Mem2 w W g d1 d2 d3 v4 ys v7 x7) (hb : Below W.heap.size W W1) : Mem2 w W1 g d1 d2 d3 v4 ys v7 x7 :=
  ⟨blk_below h.cnt hb, Kd.R_below h.ed hb, Kd.R_below h.out hb, below_step h.bel hb, h.ge⟩
theorem Mem2.append {w W W1 : World} {g : Nat} {d1 d2 d3 : Int} {v4 : Value} {ys : List S51} {v7 v8 : Value} {x7 x8 : List S44} (h : Mem2 w W g d1 d2 d3 v4 ys v7 x7) (hg : W.grownBy W1 v7.ownBlock) (ho : Kd.R k44 44 W1 w.heap.size (fun _ => True) v8 x8) (hb : Below w.heap.size w W1) :
    Mem2 w W1 g d1 d2 d3 v4 ys v8 x8 :=
  ⟨blk_grown h.cnt hg (Kd.R_ne h.out h.cnt (by decide)), Kd.R_over' h.ed (Kd.R_typed h.out) (by decide) hg, ho, hb, h.ge⟩
def at3 (K d1 d2 d3 : Int) : Int := if K = 1 then d1 else if K = 2 then d2 else d3
theorem Mem2.count {w W : World} {g : Nat} {d1 d2 d3 : Int} {v4 : Value} {ys : List S51} {v7 : Value} {x7 : List S44} (h : Mem2 w W g d1 d2 d3 v4 ys v7 x7) (K : Int) (h1 : 1 ≤ K) (h3 : K ≤ 3) :
    W.cell? ⟨g, K.toNat, none⟩ = some (.int .i64 (at3 K d1 d2 d3)) := by
  have hc : K = 1 ∨ K = 2 ∨ K = 3 := by omega
  rw [blk_cell h.cnt]
  rcases hc with rfl | rfl | rfl <;> rfl
theorem Mem2.put {w W : World} {g : Nat} {d1 d2 d3 : Int} {v4 : Value} {ys : List S51} {v7 : Value} {x7 : List S44} (h : Mem2 w W g d1 d2 d3 v4 ys v7 x7) (K Mo : Int) (h1 : 1 ≤ K) (h3 : K ≤ 3) :
    Mem2 w (W.setCell ⟨g, K.toNat, none⟩ (.int .i64 (at3 K d1 d2 d3 + Mo))) g (if K = 1 then d1 + Mo else d1) (if K = 2 then d2 + Mo else d2) (if K = 3 then d3 + Mo else d3) v4 ys v7 x7 := by
  have hc : K = 1 ∨ K = 2 ∨ K = 3 := by omega
  refine ⟨?_, Kd.R_set h.ed h.cnt (by decide) _ _, Kd.R_set h.out h.cnt (by decide) _ _, below_set h.bel h.ge, h.ge⟩
  rcases hc with rfl | rfl | rfl <;> exact blk_put h.cnt _ _ rfl
/-- .. and what it means. -/
def L2 (l0 : List S44) (ys : List S51) (n kq : Nat) (x7 : List S44) (i : Nat) (d1 d2 d3 now at_ : Int) : Prop :=
  i ≤ n ∧ n - i ≤ kq ∧ ys.length = n ∧ n ≤ 8192 ∧ x7.length ≤ i ∧ (-i ≤ d1 ∧ d1 ≤ i) ∧ (-i ≤ d2 ∧ d2 ≤ i) ∧ (-i ≤ d3 ∧ d3 ≤ i) ∧
  x7.map toSp ++ Math.prog ((ys.drop i).map toEd) d1 d2 d3 now at_ = Math.spread (l0.map toSp)
theorem rd51_get {l : List S51} {i : Nat} (h : i < l.length) : rd_T51 l (i : Int) = l[i] := by unfold rd_T51; simp [h]
theorem drop51 {l : List S51} {i : Nat} (h : i < l.length) : (l.drop i).map toEd = toEd (rd_T51 l (i : Int)) :: (l.drop (i + 1)).map toEd := by
  rw [rd51_get h, List.drop_eq_getElem_cons h, List.map_cons]
theorem next51 {l : List S51} {i : Nat} (e : Math.Ed) : Math.next e ((l.drop (i + 1)).map toEd) = if i + 1 < l.length then (rd_T51 l ((i : Int) + 1)).f0 == e.t else false := by
  by_cases h : i + 1 < l.length
  · rw [if_pos h, drop51 h]
    have : ((i + 1 : Nat) : Int) = (i : Int) + 1 := by omega
    rw [this]
    rfl
  · rw [if_neg h, List.drop_eq_nil_of_le (by omega)]
    rfl
theorem mem_edges51 {l : List S44} (h : l.all okB = true) : ∀ e, e ∈ edges51 l → 1 ≤ e.f1 ∧ e.f1 ≤ 3 ∧ -1 ≤ e.f2 ∧ e.f2 ≤ 1 := by
  induction l with
  | nil => intro e he; cases he
  | cons s l ih =>
    rw [List.all_cons, Bool.and_eq_true] at h
    have hs := of_decide_eq_true h.1
    intro e he
    simp only [edges51, List.mem_cons] at he
    rcases he with rfl | rfl | he
    · exact ⟨hs.2.2.2.2.2.1, hs.2.2.2.2.2.2, (show (-1 : Int) ≤ 1 by decide), (show (1 : Int) ≤ 1 by decide)⟩
    · exact ⟨hs.2.2.2.2.2.1, hs.2.2.2.2.2.2, (show (-1 : Int) ≤ -1 by decide), (show (-1 : Int) ≤ 1 by decide)⟩
    · exact ih h.2 e he
theorem ok_of_all {l : List S44} (h : l.all okB = true) : (∀ s, s ∈ l.map toSp → Math.ok s) ∧ ∀ s, s ∈ l.map toSp → -1 < s.a := by
  refine ⟨fun s hs => ?_, fun s hs => ?_⟩ <;> obtain ⟨x, hx, rfl⟩ := List.mem_map.mp hs <;> have hz := of_decide_eq_true (List.all_eq_true.mp h x hx)
  · exact ⟨hz.2.2.2.2.1, hz.2.2.2.2.2.1, hz.2.2.2.2.2.2⟩
  · have := hz.1; show -1 < x.f0; omega
theorem srt_of_pairwise : ∀ {ys : List S51}, ys.Pairwise (fun x y => x.f0 ≤ y.f0) → Math.Srt (ys.map toEd)
  | [], _ => trivial
  | y :: l, h => by
    obtain ⟨h1, h2⟩ := List.pairwise_cons.mp h
    refine ⟨fun f hf => ?_, srt_of_pairwise h2⟩
    obtain ⟨x, hx, rfl⟩ := List.mem_map.mp hf
    exact h1 x hx
theorem L2_start {l0 : List S44} {ys : List S51} {n : Nat} (hall : l0.all okB = true) (hl : l0.length ≤ 4096) (hn : (edges51 l0).length = n) (hp : ys.Perm (edges51 l0)) (hs : ys.Pairwise (fun x y => x.f0 ≤ y.f0)) : L2 l0 ys n n [] 0 0 0 0 0 0 := by
  have e := edges51_length l0
  refine ⟨Nat.zero_le _, by omega, by rw [hp.length_eq, hn], by omega, Nat.zero_le _, ⟨by omega, by omega⟩, ⟨by omega, by omega⟩, ⟨by omega, by omega⟩, ?_⟩
  obtain ⟨h1, h2⟩ := ok_of_all hall
  have hp' := hp.map toEd
  rw [edges51_map] at hp'
  exact Math.spread_any _ _ h1 hp' (srt_of_pairwise hs) (-1) h2
theorem upd_eq (e : S51) (k : Int) (d : Int) : Math.upd k e.f2 (toEd e) d = if e.f1 = k then d + e.f2 else d := rfl
section
variable {l0 : List S44} {ys : List S51} {n kq : Nat} {x7 : List S44} {i : Nat} {d1 d2 d3 now at_ : Int}
theorem L2_bounds (h : L2 l0 ys n kq x7 i d1 d2 d3 now at_) (K : Int) : -8192 ≤ at3 K d1 d2 d3 ∧ at3 K d1 d2 d3 ≤ 8192 := by
  obtain ⟨h1, _, _, h4, _, h5, h6, h7, _⟩ := h
  unfold at3
  split
  · omega
  · split <;> omega
private theorem bds {i : Nat} {c : Prop} [Decidable c] {d m : Int} (h : -(i : Int) ≤ d ∧ d ≤ i) (hm : -1 ≤ m ∧ m ≤ 1) : -((i + 1 : Nat) : Int) ≤ (if c then d + m else d) ∧ (if c then d + m else d) ≤ ((i + 1 : Nat) : Int) := by split <;> omega
theorem L2_skip (h : L2 l0 ys n kq x7 i d1 d2 d3 now at_) (hi : i < n) (hm : -1 ≤ (rd_T51 ys i).f2 ∧ (rd_T51 ys i).f2 ≤ 1) (hn : Math.next (toEd (rd_T51 ys i)) ((ys.drop (i + 1)).map toEd) = true) :
    L2 l0 ys n (kq - 1) x7 (i + 1) (if (rd_T51 ys i).f1 = 1 then d1 + (rd_T51 ys i).f2 else d1) (if (rd_T51 ys i).f1 = 2 then d2 + (rd_T51 ys i).f2 else d2) (if (rd_T51 ys i).f1 = 3 then d3 + (rd_T51 ys i).f2 else d3) now at_ := by
  obtain ⟨h1, h2, h3, h4, h5, h6, h7, h8, h9⟩ := h
  refine ⟨hi, by omega, h3, h4, by omega, bds h6 hm, bds h7 hm, bds h8 hm, ?_⟩
  rw [drop51 (by omega)] at h9
  unfold Math.prog at h9
  rw [if_pos hn] at h9
  exact h9
theorem L2_same (h : L2 l0 ys n kq x7 i d1 d2 d3 now at_) (hi : i < n) (hm : -1 ≤ (rd_T51 ys i).f2 ∧ (rd_T51 ys i).f2 ≤ 1) (hn : Math.next (toEd (rd_T51 ys i)) ((ys.drop (i + 1)).map toEd) = false)
    (ht : Math.top4 (if (rd_T51 ys i).f1 = 1 then d1 + (rd_T51 ys i).f2 else d1) (if (rd_T51 ys i).f1 = 2 then d2 + (rd_T51 ys i).f2 else d2) (if (rd_T51 ys i).f1 = 3 then d3 + (rd_T51 ys i).f2 else d3) = now) :
    L2 l0 ys n (kq - 1) x7 (i + 1) (if (rd_T51 ys i).f1 = 1 then d1 + (rd_T51 ys i).f2 else d1) (if (rd_T51 ys i).f1 = 2 then d2 + (rd_T51 ys i).f2 else d2) (if (rd_T51 ys i).f1 = 3 then d3 + (rd_T51 ys i).f2 else d3) now at_ := by
  obtain ⟨h1, h2, h3, h4, h5, h6, h7, h8, h9⟩ := h
  refine ⟨hi, by omega, h3, h4, by omega, bds h6 hm, bds h7 hm, bds h8 hm, ?_⟩
  rw [drop51 (by omega)] at h9
  unfold Math.prog at h9
  rw [if_neg (by rw [hn]; decide), if_pos (show (Math.top4 (Math.upd 1 (toEd (rd_T51 ys i)).m (toEd (rd_T51 ys i)) d1) (Math.upd 2 (toEd (rd_T51 ys i)).m (toEd (rd_T51 ys i)) d2) (Math.upd 3 (toEd (rd_T51 ys i)).m (toEd (rd_T51 ys i)) d3) = now) from ht)] at h9
  exact h9
theorem L2_from (h : L2 l0 ys n kq x7 i d1 d2 d3 now at_) (hi : i < n) (hm : -1 ≤ (rd_T51 ys i).f2 ∧ (rd_T51 ys i).f2 ≤ 1) (hn : Math.next (toEd (rd_T51 ys i)) ((ys.drop (i + 1)).map toEd) = false) (hp : ¬ 0 < now)
    (ht : ¬ Math.top4 (if (rd_T51 ys i).f1 = 1 then d1 + (rd_T51 ys i).f2 else d1) (if (rd_T51 ys i).f1 = 2 then d2 + (rd_T51 ys i).f2 else d2) (if (rd_T51 ys i).f1 = 3 then d3 + (rd_T51 ys i).f2 else d3) = now) :
    L2 l0 ys n (kq - 1) x7 (i + 1) (if (rd_T51 ys i).f1 = 1 then d1 + (rd_T51 ys i).f2 else d1) (if (rd_T51 ys i).f1 = 2 then d2 + (rd_T51 ys i).f2 else d2) (if (rd_T51 ys i).f1 = 3 then d3 + (rd_T51 ys i).f2 else d3) (Math.top4 (if (rd_T51 ys i).f1 = 1 then d1 + (rd_T51 ys i).f2 else d1) (if (rd_T51 ys i).f1 = 2 then d2 + (rd_T51 ys i).f2 else d2) (if (rd_T51 ys i).f1 = 3 then d3 + (rd_T51 ys i).f2 else d3)) (rd_T51 ys i).f0 := by
  obtain ⟨h1, h2, h3, h4, h5, h6, h7, h8, h9⟩ := h
  refine ⟨hi, by omega, h3, h4, by omega, bds h6 hm, bds h7 hm, bds h8 hm, ?_⟩
  rw [drop51 (by omega)] at h9
  unfold Math.prog at h9
  rw [if_neg (by rw [hn]; decide), if_neg (show ¬ (Math.top4 (Math.upd 1 (toEd (rd_T51 ys i)).m (toEd (rd_T51 ys i)) d1) (Math.upd 2 (toEd (rd_T51 ys i)).m (toEd (rd_T51 ys i)) d2) (Math.upd 3 (toEd (rd_T51 ys i)).m (toEd (rd_T51 ys i)) d3) = now) from ht), if_neg hp] at h9
  exact h9
theorem L2_out (h : L2 l0 ys n kq x7 i d1 d2 d3 now at_) (hi : i < n) (hm : -1 ≤ (rd_T51 ys i).f2 ∧ (rd_T51 ys i).f2 ≤ 1) (hn : Math.next (toEd (rd_T51 ys i)) ((ys.drop (i + 1)).map toEd) = false) (hp : 0 < now)
    (ht : ¬ Math.top4 (if (rd_T51 ys i).f1 = 1 then d1 + (rd_T51 ys i).f2 else d1) (if (rd_T51 ys i).f1 = 2 then d2 + (rd_T51 ys i).f2 else d2) (if (rd_T51 ys i).f1 = 3 then d3 + (rd_T51 ys i).f2 else d3) = now) :
    L2 l0 ys n (kq - 1) (x7 ++ [⟨at_, (rd_T51 ys i).f0, now⟩]) (i + 1) (if (rd_T51 ys i).f1 = 1 then d1 + (rd_T51 ys i).f2 else d1) (if (rd_T51 ys i).f1 = 2 then d2 + (rd_T51 ys i).f2 else d2) (if (rd_T51 ys i).f1 = 3 then d3 + (rd_T51 ys i).f2 else d3) (Math.top4 (if (rd_T51 ys i).f1 = 1 then d1 + (rd_T51 ys i).f2 else d1) (if (rd_T51 ys i).f1 = 2 then d2 + (rd_T51 ys i).f2 else d2) (if (rd_T51 ys i).f1 = 3 then d3 + (rd_T51 ys i).f2 else d3)) (rd_T51 ys i).f0 := by
  obtain ⟨h1, h2, h3, h4, h5, h6, h7, h8, h9⟩ := h
  refine ⟨hi, by omega, h3, h4, by simp; omega, bds h6 hm, bds h7 hm, bds h8 hm, ?_⟩
  rw [drop51 (by omega)] at h9
  unfold Math.prog at h9
  rw [if_neg (by rw [hn]; decide), if_neg (show ¬ (Math.top4 (Math.upd 1 (toEd (rd_T51 ys i)).m (toEd (rd_T51 ys i)) d1) (Math.upd 2 (toEd (rd_T51 ys i)).m (toEd (rd_T51 ys i)) d2) (Math.upd 3 (toEd (rd_T51 ys i)).m (toEd (rd_T51 ys i)) d3) = now) from ht), if_pos hp] at h9
  rw [List.map_append, List.append_assoc]
  exact h9
theorem L2_end (h : L2 l0 ys n kq x7 i d1 d2 d3 now at_) (hi : ¬ i < n) : x7 = (Math.spread (l0.map toSp)).map ofSp := by
  obtain ⟨h1, h2, h3, h4, h5, h6, h7, h8, h9⟩ := h
  rw [List.drop_eq_nil_of_le (by omega)] at h9
  have e : Math.prog (([] : List S51).map toEd) d1 d2 d3 now at_ = [] := rfl
  rw [e, List.append_nil] at h9
  rw [← h9, List.map_map, show (ofSp ∘ toSp) = id from rfl, List.map_id]
end

set_option maxHeartbeats 4000000 in
set_option maxRecDepth 100000 in
theorem busy_Spread.calls (A0 : Option Addr) (c0 : Nat) (l0 : List (S44)) (r1 : List (S44)) (r2 : Int) (w : World) (hr0 : Kd.C k44 w A0 l0.length l0) (hc0 : l0.length ≤ c0) (h : busy_Spread.f l0 = some (r1, r2)) :
    Calls Try.prog 11 #[.slice A0 l0.length c0] w fun e w' => ∃ v0_ : Value, e = .returned (.tuple #[v0_, .int .i64 r2]) ∧ Kd.R k44 44 w' w.heap.size (fun _ => True) v0_ r1 ∧ Below w.heap.size w w' := by
  have hu44 := Try.underlying44
  have hu51 := Try.underlying51
  have HR0 := Aside0.mk hr0
  have HC0 := Aside0.mk hc0
  clear hr0 hc0
  have HB := Aside0.mk (Below.refl w.heap.size w)
  unfold busy_Spread.f at h
  by_cases c2 : 4096 < l0.length
  · rw [if_pos c2] at h
    have c2b0 : decide (4096 < (l0.length : Int)) = true := decide_eq_true (by omega)
    have c2b1 : decide (4096 < l0.length) = true := decide_eq_true (by omega)
    clear c2
    simp only [Option.some.injEq, Prod.mk.injEq] at h
    obtain ⟨rfl, rfl⟩ := h
    go_enter Try.func11, Try.ntmps11
    go_wp2
    go_ret2
    exact ⟨_, rfl, Kd.R_nil _ _ _ _ _, HB.out⟩
  · rw [if_neg c2] at h
    have c2b0 : decide (4096 < (l0.length : Int)) = false := decide_eq_false (by omega)
    have c2b1 : decide (4096 < l0.length) = false := decide_eq_false (by omega)
    have HL := Aside0.mk c2
    clear c2
    have H' := Aside0.mk h
    clear h
    go_enter Try.func11, Try.ntmps11
    go_wp2
    go_loopg [3, 4, 19] l0.length (fun kq v3 v4 v19 w' => ∃ (x4_1 : List (S51)) (x19_1 : Int), v3 = .int .i64 0 ∧ v19 = .int .i64 x19_1 ∧ Aside0 (∃ i : Nat, x19_1 = i ∧ i ≤ l0.length ∧ l0.length - i ≤ kq ∧ x4_1 = edges51 (l0.take i) ∧ (l0.take i).all okB = true) ∧ Aside0 (Kd.R k51 51 w' w.heap.size (fun _ => True) v4 x4_1) ∧ Aside0 (Below w.heap.size w w'))
    case atStart => exact ⟨[], 0, rfl, rfl, ⟨0, rfl, Nat.zero_le _, by omega, rfl, rfl⟩, ⟨Kd.R_nil _ _ _ _ _⟩, ⟨HB.out⟩⟩
    case round =>
      clear HB
      try clear c2b0
      try clear c2b1
      obtain ⟨x4_1, x19_1, rfl, rfl, HI, HO_4, HB⟩ := hrel
      by_cases c3 : x19_1 < (l0.length : Int)
      · have c3b0 : decide (x19_1 < (l0.length : Int)) = true := decide_eq_true c3
        have hnn : 0 ≤ x19_1 := by obtain ⟨i, hi, _⟩ := HI.out; omega
        have c4b0 : decide (0 ≤ x19_1) = true := decide_eq_true hnn
        have hgk : Aside0 (0 < gk) := ⟨by obtain ⟨i, hi, h1, h2, _⟩ := HI.out; omega⟩
        have p226 : 0 ≤ (x19_1 : Int) := hnn
        have q226 : x19_1 < (l0.length : Int) := c3
        clear c3 hnn
        obtain ⟨ad226, e226, hx226_0, hx226_1, hx226_2⟩ := at_T44 HR0.out x19_1 p226 q226
        cases e226
        replace hx226_0 := (HB.out.cell (World.block_lt_of_cell? w _ hx226_0)).trans hx226_0
        replace hx226_1 := (HB.out.cell (World.block_lt_of_cell? w _ hx226_1)).trans hx226_1
        replace hx226_2 := (HB.out.cell (World.block_lt_of_cell? w _ hx226_2)).trans hx226_2
        replace p226 := eq_true p226
        replace q226 := eq_true q226
        have A60 := right_f (rd_T44 l0 x19_1)
        cases hok : okB (rd_T44 l0 x19_1) with
        | true =>
          rw [hok] at A60
          have A6 := Aside0.mk A60
          have HK0 := Aside0.mk hok
          clear A60 hok
          obtain ⟨y229, hy229⟩ : ∃ y_ : List (S51), y_ = (([(⟨(rd_T44 l0 x19_1).f0, (rd_T44 l0 x19_1).f2, 1⟩ : S51), (⟨(rd_T44 l0 x19_1).f1, (rd_T44 l0 x19_1).f2, (-1)⟩ : S51)] : List (S51))) := ⟨_, rfl⟩
          have Ny229 := Aside0.mk hy229
          clear hy229
          have LMc8 : Aside0 (x4_1.length + y229.length < 5864062014805) := ⟨by
            obtain ⟨i, _, h1, _, h3, _⟩ := HI.out
            have := HL.out
            rw [Ny229.out, h3, edges51_length]
            simp
            omega⟩
          obtain ⟨y232, hy232⟩ : ∃ y_ : List (S51), y_ = (x4_1 ++ y229) := ⟨_, rfl⟩
          have Ny232 := Aside0.mk hy232
          clear hy232
          go_wp2_with (first | ((with_reducible refine gate_dst (N := 6) rfl ?_); refine box_event ?hg (N := 6) ?hd (cs := #[.int .i64 0, .int .i64 0, .int .i64 0]) (t := 44) ?hr ?_; (case hd => rfl); (case hg => rfl); (case hr => first | (go_simp; done) | (go_simp; rfl)); intro gb227 hg w9 hbox hb; have n0_ := Aside0.mk (Kd.R_below (by (with_reducible repeat (first | apply Kd.R_alloc | apply Kd.R_drewN | apply Kd.R_drew)); exact HO_4.out) hb); have n1_ := Aside0.mk (below_step (by repeat (first | (with_reducible first | exact HB.out | apply below_alloc | apply pw_below_drewN | apply below_drew1) | exact HB.out)) hb); have n2_ := Aside0.mk (hbox); have n3_ := Aside0.mk ((by rw [hg]; exact (below_size (by repeat (first | (with_reducible first | exact HB.out | apply below_alloc | apply pw_below_drewN | apply below_drew1) | exact HB.out))) : w.heap.size ≤ gb227)); have n4_ := Aside0.mk ((by rw [hg]; exact (below_size (by repeat (first | (with_reducible first | exact HB.out | apply below_alloc | apply pw_below_drewN | apply below_drew1) | exact HB.out))) : w.heap.size ≤ gb227)); clear HO_4; clear HB; have HO_4 := n0_; have HB := n1_; have BK227 := n2_; have GW227 := n3_; have GE227 := n4_; clear n0_ n1_ n2_ n3_ n4_; clear hb hbox hg; have hcz10_0 : w9.cell? ⟨gb227, 0, none⟩ = some (.int .i64 0) := (blk_cell BK227.out 0).trans rfl; have hcz10_1 : w9.cell? ⟨gb227, 1, none⟩ = some (.int .i64 0) := (blk_cell BK227.out 1).trans rfl; have hcz10_2 : w9.cell? ⟨gb227, 2, none⟩ = some (.int .i64 0) := (blk_cell BK227.out 2).trans rfl; have hfz10_0 := blk_frozen BK227.out 0; have hfz10_1 := blk_frozen BK227.out 1; have hfz10_2 := blk_frozen BK227.out 2) | ((with_reducible refine gate_callee (f := 23) rfl ?_); refine goesL_ (some 24) rfl rfl Try.func23 (by kernel_rfl) rfl #[.agg #[.int .i64 ((rd_T44 l0 x19_1).f0), .int .i64 ((rd_T44 l0 x19_1).f1), .int .i64 ((rd_T44 l0 x19_1).f2)]] rfl (by (try simp only [List.map_toArray, List.map_cons, List.map_nil]); first | done | rfl | (simp only [List.length_drop, List.length_take]; rfl)) ?_; (with_reducible refine (busy_Span_right.calls ((rd_T44 l0 x19_1).f0) ((rd_T44 l0 x19_1).f1) ((rd_T44 l0 x19_1).f2) true _ A6.out).mono ?_); rintro e w11 ⟨rfl, hb⟩; refine ⟨_, rfl, ?_⟩; have n0_ := Aside0.mk (Kd.R_below (by (with_reducible repeat (first | apply Kd.R_alloc | apply Kd.R_drewN | apply Kd.R_drew)); exact (Kd.R_mono (Kd.R_far (p := ⟨gb227, 2, none⟩) (Kd.R_far (p := ⟨gb227, 1, none⟩) (Kd.R_far (p := ⟨gb227, 0, none⟩) (Kd.R_types HO_4.out BK227.out (by decide)) (fun _ hk => hk.2) (.int .i64 ((rd_T44 l0 x19_1).f0))) (fun _ hk => hk.2) (.int .i64 ((rd_T44 l0 x19_1).f1))) (fun _ hk => hk.2) (.int .i64 ((rd_T44 l0 x19_1).f2))) (fun _ h_ => h_.1))) hb); have n1_ := Aside0.mk (blk_below (g := gb227) (o := .cells #[.int .i64 ((rd_T44 l0 x19_1).f0), .int .i64 ((rd_T44 l0 x19_1).f1), .int .i64 ((rd_T44 l0 x19_1).f2)] 44 (0, 0)) (by (with_reducible repeat (first | refine blk_drewN ?_ _ | refine blk_drew ?_ | refine blk_alloc ?_ _)); refine blk_put (cs := #[.int .i64 ((rd_T44 l0 x19_1).f0), .int .i64 ((rd_T44 l0 x19_1).f1), .int .i64 0]) ?_ 2 _ rfl; (with_reducible repeat (first | refine blk_drewN ?_ _ | refine blk_drew ?_ | refine blk_alloc ?_ _)); refine blk_put (cs := #[.int .i64 ((rd_T44 l0 x19_1).f0), .int .i64 0, .int .i64 0]) ?_ 1 _ rfl; (with_reducible repeat (first | refine blk_drewN ?_ _ | refine blk_drew ?_ | refine blk_alloc ?_ _)); refine blk_put (cs := #[.int .i64 0, .int .i64 0, .int .i64 0]) ?_ 0 _ rfl; (with_reducible repeat (first | refine blk_drewN ?_ _ | refine blk_drew ?_ | refine blk_alloc ?_ _)); exact BK227.out) hb); have n2_ := Aside0.mk (below_step (by repeat (first | (with_reducible first | exact HB.out | apply below_alloc | apply pw_below_drewN | apply below_drew1 | refine below_set ?_ GE227.out) | exact HB.out)) hb); clear HO_4; clear BK227; clear HB; have HO_4 := n0_; have BK227 := n1_; have HB := n2_; clear n0_ n1_ n2_; (try clear hb); (try clear hb2); (try clear hk); (try clear hi); have hcz12_0 : w11.cell? ⟨gb227, 0, none⟩ = some (.int .i64 ((rd_T44 l0 x19_1).f0)) := (blk_cell BK227.out 0).trans rfl; have hcz12_1 : w11.cell? ⟨gb227, 1, none⟩ = some (.int .i64 ((rd_T44 l0 x19_1).f1)) := (blk_cell BK227.out 1).trans rfl; have hcz12_2 : w11.cell? ⟨gb227, 2, none⟩ = some (.int .i64 ((rd_T44 l0 x19_1).f2)) := (blk_cell BK227.out 2).trans rfl; have hfz12_0 := blk_frozen BK227.out 0; have hfz12_1 := blk_frozen BK227.out 1; have hfz12_2 := blk_frozen BK227.out 2) | ((with_reducible refine gate_dst (N := 37) rfl ?_); refine Kd.R_lit k51 _ 51 ?hg (N := 37) ?hd (xs := ([(⟨(rd_T44 l0 x19_1).f0, (rd_T44 l0 x19_1).f2, 1⟩ : S51), (⟨(rd_T44 l0 x19_1).f1, (rd_T44 l0 x19_1).f2, (-1)⟩ : S51)] : List (S51))) (inner := [.int .i64 ((rd_T44 l0 x19_1).f0), .int .i64 ((rd_T44 l0 x19_1).f2), .int .i64 1, .int .i64 ((rd_T44 l0 x19_1).f1), .int .i64 ((rd_T44 l0 x19_1).f2), .int .i64 (-1)]) (ok := fun _ => True) (okp := fun _ => True) ?hr ?hp (fun _ hk => hk) trivial (Below.refl _ _) (Nat.le_refl _) (by simp) ?_; (case hd => rfl); (case hg => rfl); (case hr => first | (go_simp; done) | (go_simp; rfl)); (case hp => exact (Reps.c3 (show Kd.M k51 _ _ _ (⟨(rd_T44 l0 x19_1).f0, (rd_T44 l0 x19_1).f2, 1⟩ : S51) [.int .i64 ((rd_T44 l0 x19_1).f0), .int .i64 ((rd_T44 l0 x19_1).f2), .int .i64 1] from (k51_mkM _ _ _ (⟨(rd_T44 l0 x19_1).f0, (rd_T44 l0 x19_1).f2, 1⟩ : S51) )) (Reps.c3 (show Kd.M k51 _ _ _ (⟨(rd_T44 l0 x19_1).f1, (rd_T44 l0 x19_1).f2, (-1)⟩ : S51) [.int .i64 ((rd_T44 l0 x19_1).f1), .int .i64 ((rd_T44 l0 x19_1).f2), .int .i64 (-1)] from (k51_mkM _ _ _ (⟨(rd_T44 l0 x19_1).f1, (rd_T44 l0 x19_1).f2, (-1)⟩ : S51) )) (Reps.none _ _)))); intro v230 w13 ho14 hb hg_ hnew_; clear hg_ hnew_; (first | rw [← Ny229.out] at ho14 | (simp only [Int.reduceToNat] at ho14; rw [← Ny229.out] at ho14)); have n0_ := Aside0.mk (Kd.R_elder' (by (with_reducible repeat (first | apply Kd.R_alloc | apply Kd.R_drewN | apply Kd.R_drew)); exact HO_4.out) (Kd.R_base ho14) hb); have n1_ := Aside0.mk (Kd.R_lower (Kd.R_new' ho14 (Kd.R_lt (by (with_reducible repeat (first | apply Kd.R_alloc | apply Kd.R_drewN | apply Kd.R_drew)); exact HO_4.out))) (below_size (by repeat (first | (with_reducible first | exact HB.out | apply below_alloc | apply pw_below_drewN | apply below_drew1 | refine below_set ?_ GE227.out) | exact HB.out)))); have n2_ := Aside0.mk (blk_below (g := gb227) (o := .cells #[.int .i64 ((rd_T44 l0 x19_1).f0), .int .i64 ((rd_T44 l0 x19_1).f1), .int .i64 ((rd_T44 l0 x19_1).f2)] 44 (0, 0)) (by (with_reducible repeat (first | refine blk_drewN ?_ _ | refine blk_drew ?_ | refine blk_alloc ?_ _)); exact BK227.out) hb); have n3_ := Aside0.mk (below_step (by repeat (first | (with_reducible first | exact HB.out | apply below_alloc | apply pw_below_drewN | apply below_drew1 | refine below_set ?_ GE227.out) | exact HB.out)) hb); clear HO_4; clear BK227; clear HB; have HO_4 := n0_; have HO231 := n1_; have BK227 := n2_; have HB := n3_; clear n0_ n1_ n2_ n3_; clear hb ho14; obtain ⟨Ao16, co16, eo16⟩ := Kd.R_slice HO231.out; subst eo16) | ((with_reducible refine gate_builtin (b := .append) (xs := #[.tmp 26, .tmp 37]) rfl ?_); at_builtin; refine Kd.R_append_rows k51 (w0 := w) w.heap.size rfl (.tmp 26) (.tmp 37) 49 51 (.agg #[(.int .i64 0), (.int .i64 0), (.int .i64 0)]) 24 rfl Try.underlying49 info51 rfl (by decide) (by omega) u4 x4_1 y229 _ _ _ (fun k_ => some k_ ≠ (.slice Ao16 y229.length co16 : Value).ownBlock) (fun _ => False) rfl rfl ?aO ?aR (fun _ _ h => h) (fun _ h => h.elim) ?aF ?aB ?aS ?aL ?_; (case aR => repeat (first | exact (Kd.R_reads' HO231.out).2.2 | (with_reducible refine Kd.C_alloc ?_ _) | (with_reducible refine Kd.C_drewN ?_ _) | (with_reducible refine Kd.C_drew ?_))); (case aB => exact (by repeat (first | (with_reducible first | exact HB.out | apply below_alloc | apply pw_below_drewN | apply below_drew1 | refine below_set ?_ GE227.out) | exact HB.out))); (case aF => exact (fun k_ hk => Kd.fresh' (Kd.R_lt (by (with_reducible repeat (first | apply Kd.R_alloc | apply Kd.R_drewN | apply Kd.R_drew)); exact HO231.out)) k_ hk)); (case aO => exact (by (with_reducible repeat (first | apply Kd.R_alloc | apply Kd.R_drewN | apply Kd.R_drew)); exact Kd.R_mono HO_4.out (fun _ hk => hk.2))); (case aS => exact (below_size (by repeat (first | (with_reducible first | exact HB.out | apply below_alloc | apply pw_below_drewN | apply below_drew1 | refine below_set ?_ GE227.out) | exact HB.out)))); (case aL => have := LMc8.out; omega); intro v233 w15 ho hb hg hat; rw [← Ny232.out] at ho; have n0_ := Aside0.mk (blk_grown (g := gb227) (o := .cells #[.int .i64 ((rd_T44 l0 x19_1).f0), .int .i64 ((rd_T44 l0 x19_1).f1), .int .i64 ((rd_T44 l0 x19_1).f2)] 44 (0, 0)) (by (with_reducible repeat (first | refine blk_drewN ?_ _ | refine blk_drew ?_ | refine blk_alloc ?_ _)); exact BK227.out) hg (Kd.R_ne HO_4.out BK227.out (by decide))); have n1_ := Aside0.mk (Kd.R_after (ok := (fun _ => True)) (by (with_reducible repeat (first | apply Kd.R_alloc | apply Kd.R_drewN | apply Kd.R_drew)); exact HO231.out) hg hat); have n2_ := Aside0.mk (hb); have n3_ := Aside0.mk (ho); clear BK227; clear HO231; clear HB; clear HO_4; have BK227 := n0_; have HO231 := n1_; have HB := n2_; have HO234 := n3_; clear n0_ n1_ n2_ n3_; clear ho hb hg hat))
          go_roundg (gk - 1)
          case measure => have := hgk.out; omega
          case rel => exact ⟨(y232), (wrap64 (x19_1 + 1)), rfl, (by first | rfl | (simp; done) | (simp [*]; done)), ⟨by
              obtain ⟨i, hi, h1, h2, h3, h4⟩ := HI.out
              have hlt : i < l0.length := by have := of_decide_eq_true c3b0; omega
              have := HL.out
              refine ⟨i + 1, ?_, hlt, by omega, ?_, ?_⟩
              · rw [hi]; exact wrap_nat (by omega)
              · rw [Ny232.out, Ny229.out, h3, take44 hlt, edges51_append, hi]; rfl
              · rw [take44 hlt, List.all_append, h4, ← hi]; simp [HK0.out]⟩, ⟨by (with_reducible repeat (first | apply Kd.R_alloc | apply Kd.R_drewN | apply Kd.R_drew)); exact Kd.R_mono HO234.out (fun _ hk => trivial)⟩, ⟨by repeat (first | (with_reducible first | exact HB.out | apply below_alloc | apply pw_below_drewN | apply below_drew1 | refine below_set ?_ GE227.out) | exact HB.out)⟩⟩
        | false =>
          rw [hok] at A60
          have A6 := Aside0.mk A60
          have HK0 := Aside0.mk hok
          clear A60 hok
          obtain ⟨rfl, rfl⟩ : r1 = [] ∧ r2 = 3 := by
            have h := H'.out
            rw [if_neg ?_] at h
            · simp only [Option.some.injEq, Prod.mk.injEq] at h
              exact ⟨h.1.symm, h.2.symm⟩
            · intro hall
              obtain ⟨i, hi, h1, _⟩ := HI.out
              have hlt : i < l0.length := by have := of_decide_eq_true c3b0; omega
              have := HK0.out
              rw [hi, rd44_get hlt] at this
              have h2 := List.all_eq_true.mp hall l0[i] (List.getElem_mem _)
              rw [this] at h2
              cases h2
          go_wp2_with (first | ((with_reducible refine gate_dst (N := 6) rfl ?_); refine box_event ?hg (N := 6) ?hd (cs := #[.int .i64 0, .int .i64 0, .int .i64 0]) (t := 44) ?hr ?_; (case hd => rfl); (case hg => rfl); (case hr => first | (go_simp; done) | (go_simp; rfl)); intro gb227 hg w17 hbox hb; have n0_ := Aside0.mk (Kd.R_below (by (with_reducible repeat (first | apply Kd.R_alloc | apply Kd.R_drewN | apply Kd.R_drew)); exact HO_4.out) hb); have n1_ := Aside0.mk (below_step (by repeat (first | (with_reducible first | exact HB.out | apply below_alloc | apply pw_below_drewN | apply below_drew1) | exact HB.out)) hb); have n2_ := Aside0.mk (hbox); have n3_ := Aside0.mk ((by rw [hg]; exact (below_size (by repeat (first | (with_reducible first | exact HB.out | apply below_alloc | apply pw_below_drewN | apply below_drew1) | exact HB.out))) : w.heap.size ≤ gb227)); have n4_ := Aside0.mk ((by rw [hg]; exact (below_size (by repeat (first | (with_reducible first | exact HB.out | apply below_alloc | apply pw_below_drewN | apply below_drew1) | exact HB.out))) : w.heap.size ≤ gb227)); clear HO_4; clear HB; have HO_4 := n0_; have HB := n1_; have BK227 := n2_; have GW227 := n3_; have GE227 := n4_; clear n0_ n1_ n2_ n3_ n4_; clear hb hbox hg; have hcz18_0 : w17.cell? ⟨gb227, 0, none⟩ = some (.int .i64 0) := (blk_cell BK227.out 0).trans rfl; have hcz18_1 : w17.cell? ⟨gb227, 1, none⟩ = some (.int .i64 0) := (blk_cell BK227.out 1).trans rfl; have hcz18_2 : w17.cell? ⟨gb227, 2, none⟩ = some (.int .i64 0) := (blk_cell BK227.out 2).trans rfl; have hfz18_0 := blk_frozen BK227.out 0; have hfz18_1 := blk_frozen BK227.out 1; have hfz18_2 := blk_frozen BK227.out 2) | ((with_reducible refine gate_callee (f := 23) rfl ?_); refine goesL_ (some 24) rfl rfl Try.func23 (by kernel_rfl) rfl #[.agg #[.int .i64 ((rd_T44 l0 x19_1).f0), .int .i64 ((rd_T44 l0 x19_1).f1), .int .i64 ((rd_T44 l0 x19_1).f2)]] rfl (by (try simp only [List.map_toArray, List.map_cons, List.map_nil]); first | done | rfl | (simp only [List.length_drop, List.length_take]; rfl)) ?_; (with_reducible refine (busy_Span_right.calls ((rd_T44 l0 x19_1).f0) ((rd_T44 l0 x19_1).f1) ((rd_T44 l0 x19_1).f2) false _ A6.out).mono ?_); rintro e w19 ⟨rfl, hb⟩; refine ⟨_, rfl, ?_⟩; have n0_ := Aside0.mk (Kd.R_below (by (with_reducible repeat (first | apply Kd.R_alloc | apply Kd.R_drewN | apply Kd.R_drew)); exact (Kd.R_mono (Kd.R_far (p := ⟨gb227, 2, none⟩) (Kd.R_far (p := ⟨gb227, 1, none⟩) (Kd.R_far (p := ⟨gb227, 0, none⟩) (Kd.R_types HO_4.out BK227.out (by decide)) (fun _ hk => hk.2) (.int .i64 ((rd_T44 l0 x19_1).f0))) (fun _ hk => hk.2) (.int .i64 ((rd_T44 l0 x19_1).f1))) (fun _ hk => hk.2) (.int .i64 ((rd_T44 l0 x19_1).f2))) (fun _ h_ => h_.1))) hb); have n1_ := Aside0.mk (blk_below (g := gb227) (o := .cells #[.int .i64 ((rd_T44 l0 x19_1).f0), .int .i64 ((rd_T44 l0 x19_1).f1), .int .i64 ((rd_T44 l0 x19_1).f2)] 44 (0, 0)) (by (with_reducible repeat (first | refine blk_drewN ?_ _ | refine blk_drew ?_ | refine blk_alloc ?_ _)); refine blk_put (cs := #[.int .i64 ((rd_T44 l0 x19_1).f0), .int .i64 ((rd_T44 l0 x19_1).f1), .int .i64 0]) ?_ 2 _ rfl; (with_reducible repeat (first | refine blk_drewN ?_ _ | refine blk_drew ?_ | refine blk_alloc ?_ _)); refine blk_put (cs := #[.int .i64 ((rd_T44 l0 x19_1).f0), .int .i64 0, .int .i64 0]) ?_ 1 _ rfl; (with_reducible repeat (first | refine blk_drewN ?_ _ | refine blk_drew ?_ | refine blk_alloc ?_ _)); refine blk_put (cs := #[.int .i64 0, .int .i64 0, .int .i64 0]) ?_ 0 _ rfl; (with_reducible repeat (first | refine blk_drewN ?_ _ | refine blk_drew ?_ | refine blk_alloc ?_ _)); exact BK227.out) hb); have n2_ := Aside0.mk (below_step (by repeat (first | (with_reducible first | exact HB.out | apply below_alloc | apply pw_below_drewN | apply below_drew1 | refine below_set ?_ GE227.out) | exact HB.out)) hb); clear HO_4; clear BK227; clear HB; have HO_4 := n0_; have BK227 := n1_; have HB := n2_; clear n0_ n1_ n2_; (try clear hb); (try clear hb2); (try clear hk); (try clear hi)))
          go_ret2
          exact ⟨_, by first | rfl | (simp [errW_none, errW_some] <;> rfl) | (simp [*, errW_none, errW_some] <;> rfl), Kd.R_nil _ _ _ _ _, by repeat (first | (with_reducible first | exact HB.out | apply below_alloc | apply pw_below_drewN | apply below_drew1 | refine below_set ?_ GE227.out) | exact HB.out)⟩
      · have c3b0 : decide (x19_1 < (l0.length : Int)) = false := decide_eq_false c3
        obtain ⟨hx4, hall⟩ : x4_1 = edges51 l0 ∧ l0.all okB = true := by
          obtain ⟨i, hi, h1, h2, h3, h4⟩ := HI.out
          rw [List.take_of_length_le (by omega)] at h3 h4
          exact ⟨h3, h4⟩
        subst hx4
        have HA := Aside0.mk hall
        clear c3 hall HI
        obtain ⟨A4, cp4, e4, hl4, _⟩ := Kd.R_reads HO_4.out
        obtain ⟨n4, hn4⟩ : ∃ n, (edges51 l0).length = n := ⟨_, rfl⟩
        rw [hn4] at e4 hl4
        have hsort := sort_R HO_4.out (by rw [edges51_length]; have := HL.out; omega)
        have hb4 := Aside0.mk (fun k hk => Kd.R_base HO_4.out k hk)
        have HN4 := Aside0.mk hn4
        clear hn4 hl4 HO_4
        subst e4
        go_wp2_with (first | (go_at_call 24; refine hsort.mono ?_; rintro e w1 ⟨rfl, ys, hperm, hsrt, hR, hg⟩; clear hsort; have HP := Aside0.mk hperm; have HS := Aside0.mk hsrt; have HR4 := Aside0.mk hR; have HB1 := Aside0.mk (HB.out.grown hg (below_size HB.out) hb4.out); clear hperm hsrt hR hg) | ((with_reducible refine gate_dst (N := 8) rfl ?_); refine box_event ?hg (N := 8) ?hd (cs := #[.int .i64 0, .int .i64 0, .int .i64 0, .int .i64 0]) (t := 54) ?hr ?_; (case hd => rfl); (case hg => rfl); (case hr => first | (go_simp; done) | (go_simp; rfl)); intro gc hgc w2 hbox hb; have HM := Aside0.mk (show Mem2 w w2 gc 0 0 0 (.slice A4 n4 cp4) ys (.slice none 0 0) [] from ⟨hbox, Kd.R_below HR4.out hb, Kd.R_nil _ _ _ _ _, below_step HB1.out hb, by rw [hgc]; exact below_size HB1.out⟩); clear hgc hbox hb HR4 HB1))
        clear HB
        have HLs := Aside0.mk (L2_start HA.out (by have := HL.out; omega) HN4.out HP.out HS.out)
        have HE : Aside0 (∀ i : Nat, i < n4 → 1 ≤ (rd_T51 ys i).f1 ∧ (rd_T51 ys i).f1 ≤ 3 ∧ -1 ≤ (rd_T51 ys i).f2 ∧ (rd_T51 ys i).f2 ≤ 1) := ⟨by
          intro i hi
          have hl : i < ys.length := by rw [HP.out.length_eq, HN4.out]; exact hi
          rw [rd51_get hl]
          exact mem_edges51 HA.out _ (HP.out.mem_iff.mp (List.getElem_mem hl))⟩
        go_loopg [7, 9, 10, 44] n4 (fun kq v7 v9 v10 v44 w' => ∃ (x7 : List S44) (i : Nat) (d1 d2 d3 now at_ : Int), v9 = .int .i64 now ∧ v10 = .int .i64 at_ ∧ v44 = .int .i64 (i : Int) ∧ Aside0 (L2 l0 ys n4 kq x7 i d1 d2 d3 now at_) ∧ Aside0 (Mem2 w w' gc d1 d2 d3 (.slice A4 n4 cp4) ys v7 x7))
        case atStart => exact ⟨[], 0, 0, 0, 0, 0, 0, rfl, rfl, rfl, HLs, HM⟩
        case round =>
          clear HLs HM hb4
          obtain ⟨x7, i, d1, d2, d3, now, at_, rfl, rfl, rfl, HI, HM⟩ := hrel
          by_cases hi : i < n4
          · have hib : decide ((i : Int) < (n4 : Int)) = true := decide_eq_true (by omega)
            have hib2 : decide (i < n4) = true := decide_eq_true hi
            have hinT : (i < n4) = True := eq_true hi
            have hinT2 : ((i : Int) < (n4 : Int)) = True := eq_true (by omega)
            have hC4 : Kd.C k51 wr A4 n4 ys := by
              obtain ⟨A', c', e', _, hC⟩ := Kd.R_reads HM.out.ed
              injection e' with e1 e2 e3
              rw [e1, e2]
              exact hC
            have hEi := HE.out i hi
            obtain ⟨ad, ead, hx_0, hx_1, hx_2⟩ := at_T51 hC4 (i : Int) (Int.natCast_nonneg _) (by omega)
            rw [Int.toNat_natCast] at hx_0 hx_1 hx_2
            have Hi := Aside0.mk hi
            clear hi hC4
            cases ead
            obtain ⟨T, hT⟩ : ∃ T, (rd_T51 ys (i : Int)).f0 = T := ⟨_, rfl⟩
            obtain ⟨K, hK⟩ : ∃ K, (rd_T51 ys (i : Int)).f1 = K := ⟨_, rfl⟩
            obtain ⟨Mo, hMo⟩ : ∃ Mo, (rd_T51 ys (i : Int)).f2 = Mo := ⟨_, rfl⟩
            rw [hT] at hx_0
            rw [hK] at hx_1 hEi
            rw [hMo] at hx_2 hEi
            have HT := Aside0.mk hT
            have HK := Aside0.mk hK
            have HMo := Aside0.mk hMo
            clear hT hK hMo
            obtain ⟨hk1, hk3, hm1, hm2⟩ := hEi
            go_upto_region 18 with (first | ((with_reducible refine gate_dst (N := 12) rfl ?_); refine box_event ?hg (N := 12) ?hd (cs := #[.int .i64 0, .int .i64 0, .int .i64 0]) (t := 51) ?hr ?_; (case hd => rfl); (case hg => rfl); (case hr => first | (go_simp; done) | (go_simp; rfl)); intro gb hgb w3 hbox hb; have BE := Aside0.mk hbox; have HG := Aside0.mk (Nat.le_of_eq hgb.symm); have HBb := Aside0.mk hb; clear hgb hb hbox; have hcz_0 : w3.cell? ⟨gb, 0, none⟩ = some (.int .i64 0) := (blk_cell BE.out 0).trans rfl; have hcz_1 : w3.cell? ⟨gb, 1, none⟩ = some (.int .i64 0) := (blk_cell BE.out 1).trans rfl; have hcz_2 : w3.cell? ⟨gb, 2, none⟩ = some (.int .i64 0) := (blk_cell BE.out 2).trans rfl; have hfz_0 := blk_frozen BE.out 0; have hfz_1 := blk_frozen BE.out 1; have hfz_2 := blk_frozen BE.out 2))
            have BE4 : (((w3.setCell ⟨gb, 0, none⟩ (.int .i64 T)).setCell ⟨gb, 1, none⟩ (.int .i64 K)).setCell ⟨gb, 2, none⟩ (.int .i64 Mo)).heap[gb]? = some (.cells #[.int .i64 T, .int .i64 K, .int .i64 Mo] 51 (0, 0)) := blk_put (blk_put (blk_put BE.out 0 _ rfl) 1 _ rfl) 2 _ rfl
            have HM4 : Mem2 w (((w3.setCell ⟨gb, 0, none⟩ (.int .i64 T)).setCell ⟨gb, 1, none⟩ (.int .i64 K)).setCell ⟨gb, 2, none⟩ (.int .i64 Mo)) gc d1 d2 d3 (.slice (some ad) n4 cp4) ys u7 x7 := HM.out.below (below_set (below_set (below_set HBb.out HG.out) HG.out) HG.out)
            clear HM BE HBb HG
            revert BE4 HM4
            generalize ((w3.setCell ⟨gb, 0, none⟩ (.int .i64 T)).setCell ⟨gb, 1, none⟩ (.int .i64 K)).setCell ⟨gb, 2, none⟩ (.int .i64 Mo) = W4
            intro BE4 HM4
            have he_0 : W4.cell? ⟨gb, 0, none⟩ = some (.int .i64 T) := (blk_cell BE4 0).trans rfl
            have he_1 : W4.cell? ⟨gb, 1, none⟩ = some (.int .i64 K) := (blk_cell BE4 1).trans rfl
            have he_2 : W4.cell? ⟨gb, 2, none⟩ = some (.int .i64 Mo) := (blk_cell BE4 2).trans rfl
            have hc_K := HM4.count K hk1 hk3
            have hf_K := blk_frozen HM4.cnt K.toNat
            have hgne : gb ≠ gc := blk_ne BE4 HM4.cnt (by decide)
            have hDb := L2_bounds HI.out K
            obtain ⟨D, hD⟩ : ∃ D, at3 K d1 d2 d3 = D := ⟨_, rfl⟩
            rw [hD] at hc_K hDb
            obtain ⟨hD1, hD2⟩ := hDb
            have HD := Aside0.mk hD
            have HG := Aside0.mk hgne
            have BE := Aside0.mk BE4
            have HM := Aside0.mk HM4
            clear hD hgne BE4 HM4
            have hw : IntKind.i64.wrap (D + Mo) = D + Mo := IntWalk.i64_in _ (by omega)
            go_region
            have HM5 : Mem2 w ((W4.setCell ⟨gc, K.toNat, none⟩ (.int .i64 (D + Mo))).drew) gc (if K = 1 then d1 + Mo else d1) (if K = 2 then d2 + Mo else d2) (if K = 3 then d3 + Mo else d3) (.slice (some ad) n4 cp4) ys u7 x7 := by
              have := HM.out.put K Mo hk1 hk3
              rw [HD.out] at this
              exact this.below (below_drew1 (Below.refl _ _))
            have BE5 : ((W4.setCell ⟨gc, K.toNat, none⟩ (.int .i64 (D + Mo))).drew).heap[gb]? = some (.cells #[.int .i64 T, .int .i64 K, .int .i64 Mo] 51 (0, 0)) := blk_drew (blk_far (p := ⟨gc, K.toNat, none⟩) BE.out HG.out _)
            clear HM BE hw hc_K hf_K he_0 he_1 he_2 hD1 hD2
            revert HM5 BE5
            generalize ((W4.setCell ⟨gc, K.toNat, none⟩ (.int .i64 (D + Mo))).drew) = W5
            intro HM5 BE5
            obtain ⟨q1, hq1⟩ : ∃ q, (if K = 1 then d1 + Mo else d1) = q := ⟨_, rfl⟩
            obtain ⟨q2, hq2⟩ : ∃ q, (if K = 2 then d2 + Mo else d2) = q := ⟨_, rfl⟩
            obtain ⟨q3, hq3⟩ : ∃ q, (if K = 3 then d3 + Mo else d3) = q := ⟨_, rfl⟩
            rw [hq1, hq2, hq3] at HM5
            have HQ1 := Aside0.mk hq1
            have HQ2 := Aside0.mk hq2
            have HQ3 := Aside0.mk hq3
            have HKM := Aside0.mk (And.intro (And.intro hk1 hk3) (And.intro hm1 hm2))
            have HNx := Aside0.mk (next51 (l := ys) (i := i) (toEd (rd_T51 ys (i : Int))))
            clear hq1 hq2 hq3 hk1 hk3 hm1 hm2 HD HG
            have he_0 : W5.cell? ⟨gb, 0, none⟩ = some (.int .i64 T) := (blk_cell BE5 0).trans rfl
            have HM := Aside0.mk HM5
            have BE := Aside0.mk BE5
            have hi1 : wrap64 ((i : Int) + 1) = (i : Int) + 1 := by have := HI.out.2.2.2.1; have := Hi.out; unfold wrap64; omega
            have hi2 : 0 ≤ (i : Int) + 1 := by omega
            have hi3 : ((i : Int) + 1).toNat = i + 1 := by omega
            have hw1 : IntKind.i64.wrap ((i : Int) + 1) = (i : Int) + 1 := IntWalk.i64_in _ (by have := HI.out.2.2.2.1; have := Hi.out; omega)
            by_cases hn : i + 1 < n4
            · have hnb : decide ((i : Int) + 1 < (n4 : Int)) = true := decide_eq_true (by omega)
              have hnT : ((i : Int) + 1 < (n4 : Int)) = True := eq_true (by omega)
              have hC5 : Kd.C k51 W5 (some ad) n4 ys := by
                obtain ⟨A', c', e', _, hC⟩ := Kd.R_reads HM5.ed
                injection e' with e1 e2 e3
                rw [e1, e2]
                exact hC
              obtain ⟨ad2, ead, hy_0, _, _⟩ := at_T51 hC5 ((i : Int) + 1) hi2 (by omega)
              injection ead with ead
              subst ead
              rw [hi3] at hy_0
              obtain ⟨T2, hT2⟩ : ∃ T, (rd_T51 ys ((i : Int) + 1)).f0 = T := ⟨_, rfl⟩
              rw [hT2] at hy_0
              have HT2 := Aside0.mk hT2
              have HN := Aside0.mk hn
              clear hT2 hC5 hn HM5 BE5
              by_cases ht : T2 = T
              · have htb : (T2 == T) = true := by simpa using ht
                have HTT := Aside0.mk ht
                clear ht
                go_wp2_with fail
                go_quiet (fail)
                have HM6 := Aside0.mk (HM.out.below (pw_below_drewN (Below.refl _ _) nq))
                have HNT : Aside0 (Math.next (toEd (rd_T51 ys (i : Int))) ((ys.drop (i + 1)).map toEd) = true) := ⟨by
                  rw [HNx.out, if_pos (by rw [HI.out.2.2.1]; exact HN.out), HT2.out, HTT.out]
                  exact beq_iff_eq.mpr HT.out.symm⟩
                clear HM BE
                go_wp2
                go_roundg (gk - 1)
                case measure => have := HI.out.2.1; have := Hi.out; omega
                case rel => exact ⟨x7, i + 1, q1, q2, q3, now, at_, rfl, rfl, (by simp), ⟨by
                    have h := L2_skip HI.out Hi.out (by rw [HMo.out]; exact HKM.out.2) HNT.out
                    rw [HK.out, HMo.out, HQ1.out, HQ2.out, HQ3.out] at h
                    exact h⟩, HM6⟩
              · have htb : (T2 == T) = false := by simpa using ht
                have HNF : Aside0 (Math.next (toEd (rd_T51 ys (i : Int))) ((ys.drop (i + 1)).map toEd) = false) := ⟨by
                  rw [HNx.out, if_pos (by rw [HI.out.2.2.1]; exact HN.out), HT2.out]
                  exact beq_eq_false_iff_ne.mpr (fun h => ht (h.trans HT.out))⟩
                clear ht
                go_wp2_with fail
                go_quiet (fail)
                have HM6 : Mem2 w (W5.drewN nq) gc q1 q2 q3 (.slice (some ad) n4 cp4) ys u7 x7 := HM.out.below (pw_below_drewN (Below.refl _ _) _)
                have BE6 : (W5.drewN nq).heap[gb]? = some (.cells #[.int .i64 T, .int .i64 K, .int .i64 Mo] 51 (0, 0)) := BE.out
                clear HM BE he_0
                revert HM6 BE6
                generalize W5.drewN nq = W6
                intro HM6 BE6
                have hc_0 : W6.cell? ⟨gc, 0, none⟩ = some (.int .i64 0) := (blk_cell HM6.cnt 0).trans rfl
                have hc_1 : W6.cell? ⟨gc, 1, none⟩ = some (.int .i64 q1) := (blk_cell HM6.cnt 1).trans rfl
                have hc_2 : W6.cell? ⟨gc, 2, none⟩ = some (.int .i64 q2) := (blk_cell HM6.cnt 2).trans rfl
                have hc_3 : W6.cell? ⟨gc, 3, none⟩ = some (.int .i64 q3) := (blk_cell HM6.cnt 3).trans rfl
                have HM := Aside0.mk HM6
                have BE := Aside0.mk BE6
                clear HM6 BE6
                have htop := fun W => top_calls 0 q1 q2 q3 W
                obtain ⟨kk, hkk⟩ : ∃ k_, Math.top4 q1 q2 q3 = k_ := ⟨_, rfl⟩
                rw [hkk] at htop
                have HKK := Aside0.mk hkk
                clear hkk
                by_cases hk : kk = now
                · have hkb : (kk != now) = false := by simp [hk]
                  have hkb2 : (kk == now) = true := by simp [hk]
                  have HKN := Aside0.mk hk
                  clear hk
                  go_wp2_with (first | (go_at_call 26; refine (htop _).mono ?_; rintro e w7 ⟨rfl, hb⟩; have HM7 := Aside0.mk (HM.out.below hb); clear hb))
                  go_roundg (gk - 1)
                  case measure => have := HI.out.2.1; have := Hi.out; omega
                  case rel => exact ⟨x7, i + 1, q1, q2, q3, now, at_, rfl, rfl, (by simp), ⟨by
                      have h := L2_same HI.out Hi.out (by rw [HMo.out]; exact HKM.out.2) HNF.out (by rw [HK.out, HMo.out, HQ1.out, HQ2.out, HQ3.out, HKK.out]; exact HKN.out)
                      rw [HK.out, HMo.out, HQ1.out, HQ2.out, HQ3.out] at h
                      exact h⟩, HM7⟩
                · have hkb : (kk != now) = true := by simp [hk]
                  have hkb2 : (kk == now) = false := by simp [hk]
                  have HKN := Aside0.mk hk
                  clear hk
                  by_cases hp : 0 < now
                  · have hpb : decide (0 < now) = true := decide_eq_true hp
                    have HPN := Aside0.mk hp
                    clear hp
                    go_upto_region 24 with (first | (go_at_call 26; refine (htop _).mono ?_; rintro e w7 ⟨rfl, hb⟩; have HM7 := Aside0.mk (HM.out.below hb); have BE7 := Aside0.mk (blk_below BE.out hb); clear hb HM BE; have he_0 : w7.cell? ⟨gb, 0, none⟩ = some (.int .i64 T) := (blk_cell BE7.out 0).trans rfl) | ((with_reducible refine gate_builtin (b := .append) (xs := #[.tmp 80, .tmp 86]) rfl ?_); at_builtin; refine Kd.R_append k44 (w0 := w) w.heap.size rfl (.tmp 80) (.tmp 86) 22 44 (.agg #[(.int .i64 0), (.int .i64 0), (.int .i64 0)]) 24 rfl Try.underlying22 info44 rfl (by decide) (by omega) u7 x7 (⟨at_, T, now⟩ : S44) [.int .i64 at_, .int .i64 T, .int .i64 now] (fun _ => True) (fun _ => False) rfl (by first | (go_simp; done) | (go_simp; rfl)) ?aP (fun _ hk => hk.elim) ?aF ?aO ?aB ?aS ?aL ?_; (case aP => exact k44_mkM _ _ _ (⟨at_, T, now⟩ : S44)); (case aB => exact (by repeat (first | (with_reducible first | exact HM7.out.bel | apply below_alloc | apply pw_below_drewN | apply below_drew1) | exact HM7.out.bel))); (case aF => exact (fun _ _ => trivial)); (case aO => exact (by (with_reducible repeat (first | apply Kd.R_alloc | apply Kd.R_drewN | apply Kd.R_drew)); exact HM7.out.out)); (case aS => exact (below_size (by repeat (first | (with_reducible first | exact HM7.out.bel | apply below_alloc | apply pw_below_drewN | apply below_drew1) | exact HM7.out.bel)))); (case aL => have := HI.out.2.2.2.2.1; have := HI.out.2.2.2.1; have := Hi.out; omega); intro v8 w8 ho hb hg hat; have HM8 := Aside0.mk (Mem2.append (HM7.out.below (by repeat (first | exact Below.refl _ _ | apply below_alloc | apply pw_below_drewN | apply below_drew1))) hg ho hb); have BE8 := Aside0.mk (blk_grown (g := gb) (o := .cells #[.int .i64 T, .int .i64 K, .int .i64 Mo] 51 (0, 0)) (by (with_reducible repeat (first | refine blk_drewN ?_ _ | refine blk_drew ?_ | refine blk_alloc ?_ _)); exact BE7.out) hg (Kd.R_ne HM7.out.out BE7.out (by decide))); clear ho hb hg hat he_0; have he_0 : w8.cell? ⟨gb, 0, none⟩ = some (.int .i64 T) := (blk_cell BE8.out 0).trans rfl))
                    go_quiet (fail)
                    go_wp2
                    go_roundg (gk - 1)
                    case measure => have := HI.out.2.1; have := Hi.out; omega
                    case rel => exact ⟨x7 ++ [⟨at_, T, now⟩], i + 1, q1, q2, q3, kk, T, rfl, rfl, (by simp), ⟨by
                        have h := L2_out HI.out Hi.out (by rw [HMo.out]; exact HKM.out.2) HNF.out HPN.out (by rw [HK.out, HMo.out, HQ1.out, HQ2.out, HQ3.out, HKK.out]; exact HKN.out)
                        rw [HK.out, HMo.out, HT.out, HQ1.out, HQ2.out, HQ3.out, HKK.out] at h
                        exact h⟩, ⟨HM8.out.below (pw_below_drewN (Below.refl _ _) _)⟩⟩
                  · have hpb : decide (0 < now) = false := decide_eq_false hp
                    have HPN := Aside0.mk hp
                    clear hp
                    go_upto_region 24 with (first | (go_at_call 26; refine (htop _).mono ?_; rintro e w7 ⟨rfl, hb⟩; have HM7 := Aside0.mk (HM.out.below hb); have BE7 := Aside0.mk (blk_below BE.out hb); clear hb HM BE; have he_0 : w7.cell? ⟨gb, 0, none⟩ = some (.int .i64 T) := (blk_cell BE7.out 0).trans rfl))
                    go_quiet (fail)
                    go_wp2
                    go_roundg (gk - 1)
                    case measure => have := HI.out.2.1; have := Hi.out; omega
                    case rel => exact ⟨x7, i + 1, q1, q2, q3, kk, T, rfl, rfl, (by simp), ⟨by
                        have h := L2_from HI.out Hi.out (by rw [HMo.out]; exact HKM.out.2) HNF.out (by have := HPN.out; omega) (by rw [HK.out, HMo.out, HQ1.out, HQ2.out, HQ3.out, HKK.out]; exact HKN.out)
                        rw [HK.out, HMo.out, HT.out, HQ1.out, HQ2.out, HQ3.out, HKK.out] at h
                        exact h⟩, ⟨HM7.out.below (pw_below_drewN (Below.refl _ _) _)⟩⟩
            · have hnb : decide ((i : Int) + 1 < (n4 : Int)) = false := decide_eq_false (by omega)
              have HNF : Aside0 (Math.next (toEd (rd_T51 ys (i : Int))) ((ys.drop (i + 1)).map toEd) = false) := ⟨by
                rw [HNx.out, if_neg (by rw [HI.out.2.2.1]; exact hn)]⟩
              clear hn HM5 BE5
              go_wp2_with fail
              go_quiet (fail)
              have HM6 : Mem2 w (W5.drewN nq) gc q1 q2 q3 (.slice (some ad) n4 cp4) ys u7 x7 := HM.out.below (pw_below_drewN (Below.refl _ _) _)
              have BE6 : (W5.drewN nq).heap[gb]? = some (.cells #[.int .i64 T, .int .i64 K, .int .i64 Mo] 51 (0, 0)) := BE.out
              clear HM BE he_0
              revert HM6 BE6
              generalize W5.drewN nq = W6
              intro HM6 BE6
              have hc_0 : W6.cell? ⟨gc, 0, none⟩ = some (.int .i64 0) := (blk_cell HM6.cnt 0).trans rfl
              have hc_1 : W6.cell? ⟨gc, 1, none⟩ = some (.int .i64 q1) := (blk_cell HM6.cnt 1).trans rfl
              have hc_2 : W6.cell? ⟨gc, 2, none⟩ = some (.int .i64 q2) := (blk_cell HM6.cnt 2).trans rfl
              have hc_3 : W6.cell? ⟨gc, 3, none⟩ = some (.int .i64 q3) := (blk_cell HM6.cnt 3).trans rfl
              have HM := Aside0.mk HM6
              have BE := Aside0.mk BE6
              clear HM6 BE6
              have htop := fun W => top_calls 0 q1 q2 q3 W
              obtain ⟨kk, hkk⟩ : ∃ k_, Math.top4 q1 q2 q3 = k_ := ⟨_, rfl⟩
              rw [hkk] at htop
              have HKK := Aside0.mk hkk
              clear hkk
              by_cases hk : kk = now
              · have hkb : (kk != now) = false := by simp [hk]
                have hkb2 : (kk == now) = true := by simp [hk]
                have HKN := Aside0.mk hk
                clear hk
                go_wp2_with (first | (go_at_call 26; refine (htop _).mono ?_; rintro e w7 ⟨rfl, hb⟩; have HM7 := Aside0.mk (HM.out.below hb); clear hb))
                go_roundg (gk - 1)
                case measure => have := HI.out.2.1; have := Hi.out; omega
                case rel => exact ⟨x7, i + 1, q1, q2, q3, now, at_, rfl, rfl, (by simp), ⟨by
                    have h := L2_same HI.out Hi.out (by rw [HMo.out]; exact HKM.out.2) HNF.out (by rw [HK.out, HMo.out, HQ1.out, HQ2.out, HQ3.out, HKK.out]; exact HKN.out)
                    rw [HK.out, HMo.out, HQ1.out, HQ2.out, HQ3.out] at h
                    exact h⟩, HM7⟩
              · have hkb : (kk != now) = true := by simp [hk]
                have hkb2 : (kk == now) = false := by simp [hk]
                have HKN := Aside0.mk hk
                clear hk
                by_cases hp : 0 < now
                · have hpb : decide (0 < now) = true := decide_eq_true hp
                  have HPN := Aside0.mk hp
                  clear hp
                  go_upto_region 24 with (first | (go_at_call 26; refine (htop _).mono ?_; rintro e w7 ⟨rfl, hb⟩; have HM7 := Aside0.mk (HM.out.below hb); have BE7 := Aside0.mk (blk_below BE.out hb); clear hb HM BE; have he_0 : w7.cell? ⟨gb, 0, none⟩ = some (.int .i64 T) := (blk_cell BE7.out 0).trans rfl) | ((with_reducible refine gate_builtin (b := .append) (xs := #[.tmp 80, .tmp 86]) rfl ?_); at_builtin; refine Kd.R_append k44 (w0 := w) w.heap.size rfl (.tmp 80) (.tmp 86) 22 44 (.agg #[(.int .i64 0), (.int .i64 0), (.int .i64 0)]) 24 rfl Try.underlying22 info44 rfl (by decide) (by omega) u7 x7 (⟨at_, T, now⟩ : S44) [.int .i64 at_, .int .i64 T, .int .i64 now] (fun _ => True) (fun _ => False) rfl (by first | (go_simp; done) | (go_simp; rfl)) ?aP (fun _ hk => hk.elim) ?aF ?aO ?aB ?aS ?aL ?_; (case aP => exact k44_mkM _ _ _ (⟨at_, T, now⟩ : S44)); (case aB => exact (by repeat (first | (with_reducible first | exact HM7.out.bel | apply below_alloc | apply pw_below_drewN | apply below_drew1) | exact HM7.out.bel))); (case aF => exact (fun _ _ => trivial)); (case aO => exact (by (with_reducible repeat (first | apply Kd.R_alloc | apply Kd.R_drewN | apply Kd.R_drew)); exact HM7.out.out)); (case aS => exact (below_size (by repeat (first | (with_reducible first | exact HM7.out.bel | apply below_alloc | apply pw_below_drewN | apply below_drew1) | exact HM7.out.bel)))); (case aL => have := HI.out.2.2.2.2.1; have := HI.out.2.2.2.1; have := Hi.out; omega); intro v8 w8 ho hb hg hat; have HM8 := Aside0.mk (Mem2.append (HM7.out.below (by repeat (first | exact Below.refl _ _ | apply below_alloc | apply pw_below_drewN | apply below_drew1))) hg ho hb); have BE8 := Aside0.mk (blk_grown (g := gb) (o := .cells #[.int .i64 T, .int .i64 K, .int .i64 Mo] 51 (0, 0)) (by (with_reducible repeat (first | refine blk_drewN ?_ _ | refine blk_drew ?_ | refine blk_alloc ?_ _)); exact BE7.out) hg (Kd.R_ne HM7.out.out BE7.out (by decide))); clear ho hb hg hat he_0; have he_0 : w8.cell? ⟨gb, 0, none⟩ = some (.int .i64 T) := (blk_cell BE8.out 0).trans rfl))
                  go_quiet (fail)
                  go_wp2
                  go_roundg (gk - 1)
                  case measure => have := HI.out.2.1; have := Hi.out; omega
                  case rel => exact ⟨x7 ++ [⟨at_, T, now⟩], i + 1, q1, q2, q3, kk, T, rfl, rfl, (by simp), ⟨by
                      have h := L2_out HI.out Hi.out (by rw [HMo.out]; exact HKM.out.2) HNF.out HPN.out (by rw [HK.out, HMo.out, HQ1.out, HQ2.out, HQ3.out, HKK.out]; exact HKN.out)
                      rw [HK.out, HMo.out, HT.out, HQ1.out, HQ2.out, HQ3.out, HKK.out] at h
                      exact h⟩, ⟨HM8.out.below (pw_below_drewN (Below.refl _ _) _)⟩⟩
                · have hpb : decide (0 < now) = false := decide_eq_false hp
                  have HPN := Aside0.mk hp
                  clear hp
                  go_upto_region 24 with (first | (go_at_call 26; refine (htop _).mono ?_; rintro e w7 ⟨rfl, hb⟩; have HM7 := Aside0.mk (HM.out.below hb); have BE7 := Aside0.mk (blk_below BE.out hb); clear hb HM BE; have he_0 : w7.cell? ⟨gb, 0, none⟩ = some (.int .i64 T) := (blk_cell BE7.out 0).trans rfl))
                  go_quiet (fail)
                  go_wp2
                  go_roundg (gk - 1)
                  case measure => have := HI.out.2.1; have := Hi.out; omega
                  case rel => exact ⟨x7, i + 1, q1, q2, q3, kk, T, rfl, rfl, (by simp), ⟨by
                      have h := L2_from HI.out Hi.out (by rw [HMo.out]; exact HKM.out.2) HNF.out (by have := HPN.out; omega) (by rw [HK.out, HMo.out, HQ1.out, HQ2.out, HQ3.out, HKK.out]; exact HKN.out)
                      rw [HK.out, HMo.out, HT.out, HQ1.out, HQ2.out, HQ3.out, HKK.out] at h
                      exact h⟩, ⟨HM7.out.below (pw_below_drewN (Below.refl _ _) _)⟩⟩
          · have hib : decide ((i : Int) < (n4 : Int)) = false := decide_eq_false (by omega)
            have hib2 : decide (i < n4) = false := decide_eq_false hi
            have hx7 := L2_end HI.out hi
            clear hi
            obtain ⟨A7, cp7, e7, hl7, _⟩ := Kd.R_reads HM.out.out
            have h := H'.out
            rw [if_pos HA.out, ← hx7] at h
            clear hx7
            have HH := Aside0.mk h
            clear h
            by_cases c1024 : 1024 < x7.length
            · have h := HH.out
              rw [if_pos c1024] at h
              have cb : decide (1024 < (x7.length : Int)) = true := decide_eq_true (by omega)
              have cb2 : decide (1024 < x7.length) = true := decide_eq_true c1024
              clear c1024 HH
              simp only [Option.some.injEq, Prod.mk.injEq] at h
              obtain ⟨rfl, rfl⟩ := h
              subst e7
              go_wp2
              go_ret2
              exact ⟨_, rfl, Kd.R_nil _ _ _ _ _, HM.out.bel⟩
            · have h := HH.out
              rw [if_neg c1024] at h
              have cb : decide (1024 < (x7.length : Int)) = false := decide_eq_false (by omega)
              have cb2 : decide (1024 < x7.length) = false := decide_eq_false c1024
              clear c1024 HH
              simp only [Option.some.injEq, Prod.mk.injEq] at h
              obtain ⟨rfl, rfl⟩ := h
              subst e7
              go_wp2
              go_ret2
              exact ⟨_, rfl, HM.out.out, HM.out.bel⟩

end Go.Proofs.Ytalepohjmjlndaa.PB

/- A rule that came in as data: as the kinds of rows that the printed functions read; and what the row's condition gives: what the library's texts ask. -/
import Derived.Test.YtbeihceeliifeaaGreatDoorPRx0
import Derived.Test.YtbeihceeliifeaaGreatDoorOpener
import Derived.Test.YtbeihceeliifeaaGreatDoorRows
import Derived.HandedShaped
import Derived.Lib.LaidTab
import Derived.LaidMore
import Derived.Lay
import Derived.Stop.LaidErr
import Derived.ProofKit
set_option linter.unusedVariables false
namespace Go.Proofs.YtbeihceeliifeaaGreatDoor.ROpen
open Go.RowKit Go.Deep Go.Proofs.YtbeihceeliifeaaGreatDoorW.PrintWords Go.Proofs.YtbeihceeliifeaaGreatDoorW.PrintLast Go.Proofs.YtbeihceeliifeaaGreatDoorW.PrintMore Go.Proofs.YtbeihceeliifeaaGreatDoor.PR Go.Proofs.YtbeihceeliifeaaGreatDoor.Opener

theorem b3 : Tryz.prog.bytesOf 3 = 8 := by kernel_rfl
theorem b53 : Tryz.prog.bytesOf 53 = 16 := by kernel_rfl
def wf (n : Int) : Prop := (Lit.int .i64 n).wf = true
def wfL (l : List Int) : Prop := Fits l.length 8 ∧ ∀ x, x ∈ l → wf x
def wf53 (x : S53) : Prop := wf x.f0 ∧ wf x.f1
/-- A rule: its kind, and what is known of each part. -/
def kRule := Kd.iso (Kd.pair (Kd.int .i64) (Kd.pair (Kd.int .i64) (Kd.pair (Kd.int .i64) (Kd.pair (Kd.int .i64) (Kd.pair (Kd.slice 3 (Kd.int .i64)) (Kd.pair (Kd.slice 3 (Kd.int .i64)) (Kd.slice 53 k53))))))) id
theorem wf_bound {n : Int} (h : wf n) : -9223372036854775808 ≤ n ∧ n ≤ 9223372036854775807 := by
  have h' : IntKind.i64.min ≤ n ∧ n ≤ 9223372036854775807 := by simpa [wf, Lit.wf] using h
  exact ⟨Int.le_trans (by decide) h'.1, h'.2⟩
section
variable {H : Type} {enc : TypeId × Value → H} {w : World} {base : Nat} {spare : Nat → Bool} {held : Bool}
theorem o2 : Opens enc Tryz.prog w base spare held 2 (Kd.int .i64) wf := Opener.open_int Tryz.underlying2 (by kernel_rfl)
theorem o3 : Opens enc Tryz.prog w base spare held 3 (Kd.int .i64) wf := Opener.open_int Tryz.underlying3 (by kernel_rfl)
theorem o22 : Opens enc Tryz.prog w base spare held 22 (Kd.slice 3 (Kd.int .i64)) wfL := Opener.open_slice (e:=3) (t:=22) (nb:=8) b3 Tryz.underlying22 (by kernel_rfl) o3
theorem o53 : Opens enc Tryz.prog w base spare held 53 k53 wf53 :=
  open_struct (fun x : S53 => (x.f0, x.f1)) (fun p => ⟨p.1, p.2⟩) (fun _ => rfl) Tryz.underlying53 (by kernel_rfl) (fields_cons rfl o3 (fields_last rfl o3))
theorem o23 : Opens enc Tryz.prog w base spare held 23 (Kd.slice 53 k53) (fun l => Fits l.length 16 ∧ ∀ y, y ∈ l → wf53 y) := Opener.open_slice (e:=53) (t:=23) (nb:=16) b53 Tryz.underlying23 (by kernel_rfl) o53
theorem o25 : Opens enc Tryz.prog w base spare held 25 kRule (fun x => wf x.1 ∧ wf x.2.1 ∧ wf x.2.2.1 ∧ wf x.2.2.2.1 ∧ wfL x.2.2.2.2.1 ∧ wfL x.2.2.2.2.2.1 ∧ (Fits x.2.2.2.2.2.2.length 16 ∧ ∀ y, y ∈ x.2.2.2.2.2.2 → wf53 y)) :=
  open_struct id id (fun _ => rfl) Tryz.underlying25 (by kernel_rfl) (fields_cons rfl o3 (fields_cons rfl o3 (fields_cons rfl o3 (fields_cons rfl o2 (fields_cons rfl o22 (fields_cons rfl o22 (fields_last rfl o23)))))))
/-- A slice that came in. -/
structure Sl (α : Type) where
  A : Option Addr
  l : List α
  c : Nat
def Sl.v {α : Type} (x : Sl α) : Value := .slice x.A x.l.length x.c
structure Sl.Ok {α : Type} (w : World) (d : Kd α) (x : Sl α) : Prop where
  r : Kd.C d w x.A x.l.length x.l
  c : x.l.length ≤ x.c
  n : x.l.length * 8 ≤ 140737488351232
/-- A rule that came in. -/
structure Rul where
  (r0 r1 r2 r3 : Int)
  (x7 x8 : Sl Int) (x9 : Sl S53)
def Rul.cells (S : Rul) : List Value := [.int .i64 S.r0, .int .i64 S.r1, .int .i64 S.r2, .int .i64 S.r3, S.x7.v, S.x8.v, S.x9.v]
structure Rul.Ok (w : World) (S : Rul) : Prop where
  k7 : S.x7.Ok w (Kd.int .i64)
  k8 : S.x8.Ok w (Kd.int .i64)
  k9 : S.x9.Ok w k53
theorem rule_of {fuel : Nat} {cs : List Value} {x : DataW H × List MemPlace} (h : DataW.trod enc Tryz.prog w base spare held fuel 25 cs = some x) (hl : Light Tryz.prog 25 x.1) : ∃ S : Rul, cs = S.cells ∧ S.Ok w := by
  obtain ⟨⟨r0, r1, r2, r3, l7, l8, l9⟩, hr, -, -, -, -, h7, h8, h9⟩ := o25.run h hl
  obtain ⟨_, _, rfl, rfl, _, _, rfl, rfl, _, _, rfl, rfl, _, _, rfl, rfl, _, _, rfl, ⟨A7, c7, rfl, e7, k7⟩, _, _, rfl, ⟨A8, c8, rfl, e8, k8⟩, A9, c9, rfl, e9, k9⟩ := hr
  exact ⟨⟨r0, r1, r2, r3, ⟨A7, l7, c7⟩, ⟨A8, l8, c8⟩, ⟨A9, l9, c9⟩⟩, rfl, ⟨k7, e7, h7.1⟩, ⟨k8, e8, h8.1⟩, ⟨k9, e9, by have h : l9.length * 16 ≤ 140737488351232 := h9.1; show l9.length * 8 ≤ 140737488351232; omega⟩⟩
end
/-- A row under a condition, where the world's shape is told too. -/
theorem shaped_and {H : Type} {enc : TypeId × Value → H} {a : Assume} {C : Checked} {os : Os} {f : FuncId} {fn : Func} {s : ChangeSpec} {conds : List PathCond} {apart fresh handsOn again : Bool} {X : World → Array Value → Prop}
    (hX : ∀ (w w' : World) (args : Array Value), w.heap = w'.heap → X w args → X w' args)
    (own : ownKnob C.prog.godebug = none) (started : os.Started) (noInit : C.prog.inits.idxOf? f = none) (hfn : C.prog.funcs[f]? = some fn)
    (witness : ∃ (w : World) (tape : Tape) (i : Input), w.os = os ∧ (w.forCall tape i).Shaped C.prog ∧ i.vars = [] ∧ Input.okWide C.prog (w.forCall tape i) .any w.heap.size f i ∧
      ((s.pre enc C.prog fn conds apart (w.forCall tape i).memory i.args ∧ X (w.forCall tape i).memory i.args) ∧ sizedMet enc C.prog fn (OpenSpec.ofChange s) apart (w.forCall tape i).memory i.args) ∧ a.holds C.prog (lone (Frame.enter C.prog f i.args .normal) [] (w.forCall tape i)))
    (contract : ∀ (W : World) (base : Nat) (args : Array Value) (ds gs : List (DataW H)) (before : List MemPlace),
      (∀ (j : Nat) t v, fn.params[j]? = some t → args[j]? = some v → Value.okWide C.prog W .any base t v) →
      DataW.Whole enc C.prog fn.params.toList s.vars apart W args.toList ds gs before →
      (DataW.weightsEach C.prog (fn.params.toList ++ s.plain.varTypes C.prog) (ds ++ gs)).all (· ≤ reachBytes) = true → X W args → W.ShapedOpen C.prog →
      Calls C.prog f args W fun e W' => ∃ v, e = .returned v ∧ s.post enc C.prog fn apart fresh handsOn again W args v W') :
    ReturnsInHanded a C os f .any (fun w args => (s.pre enc C.prog fn conds apart w args ∧ X w args) ∧ sizedMet enc C.prog fn (OpenSpec.ofChange s) apart w args) (s.post enc C.prog fn apart fresh handsOn again) := by
  refine returnsInHanded_of_calls own started noInit witness ?_
  intro w tape i _ hsh _ hok hpre hholds
  obtain ⟨_, _, _, fn', hfn', _, _, _, _, hval⟩ := hok
  obtain rfl : fn' = fn := Option.some.inj (hfn'.symm.trans hfn)
  obtain ⟨⟨⟨ds, gs, before, hw, -⟩, hx⟩, hz⟩ := hpre
  refine (contract (w.forCall tape i) w.heap.size i.args ds gs before hval (DataW.Whole.of_heap (w' := w.forCall tape i) (by rfl) hw) (hz.weights hw) (hX _ _ _ (by rfl) hx) hsh).mono fun e W' ⟨v, he, hp⟩ => ?_
  subst he
  exact ChangeSpec.post_blind hp
theorem glob_of {W : World} (h : laidMetH Tryz.prog Rows.recurMatchesRow.laid W) (hs : W.ShapedOpen Tryz.prog) : Read.Glob W := by
  refine ⟨Tryz.lays146.s1_3 W hs, ?_⟩
  rw [MakeChecks.laidMetH_plain _ _ _ (by kernel_rfl)] at h
  have h1 : laidMet Tryz.prog ([("math/bits.deBruijn32tab", Rows.laid_math_bits_deBruijn32tab), ("math/bits.deBruijn64tab", Rows.laid_math_bits_deBruijn64tab), ("internal/strconv.uint64pow10", Rows.laid_internal_strconv_uint64pow10)] ++ Rows.recurMatchesRow.laid.drop 3) W := h
  rw [show (Rows.laid_internal_strconv_uint64pow10 : DataW Unit) = Go.Lib.tabData .u64 Go.Lib.pow10Tab from by kernel_rfl] at h1
  have h3 := laidMet.tail (laidMet.tail h1)
  exact Go.Lib.tabIs_of_head (zs := Go.Lib.pow10Tab) (k := .u64) (g := 5) (by kernel_rfl) (by kernel_rfl) Tryz.underlying179 (by kernel_rfl) (by kernel_rfl) (by kernel_rfl) h3
end Go.Proofs.YtbeihceeliifeaaGreatDoor.ROpen

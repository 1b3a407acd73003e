/- A zone that came in as data: as the kinds of rows that the printed functions read. -/
import Derived.Test.YtlplmkllmgdifaaPZx0
import Derived.Test.YtlplmkllmgdifaaOpener
namespace Go.Proofs.Ytlplmkllmgdifaa.ZOpen
open Go.RowKit Go.Deep Go.Proofs.YtlplmkllmgdifaaW.PrintWords Go.Proofs.YtlplmkllmgdifaaW.PrintLast Go.Proofs.YtlplmkllmgdifaaW.PrintMore Go.Proofs.Ytlplmkllmgdifaa.PZ Go.Proofs.Ytlplmkllmgdifaa.Opener

def wf (n : Int) : Prop := (Lit.int .i64 n).wf = true
def wfL (l : List Int) : Prop := l.length ≤ maxLen ∧ ∀ x, x ∈ l → wf x
def wf79 (x : S79) : Prop := wf x.f0 ∧ wf x.f1
def wf40 (x : S40) : Prop := wf x.f0 ∧ wf x.f1 ∧ wf x.f2 ∧ wf x.f3 ∧ wfL x.f4 ∧ wfL x.f5 ∧ (x.f6.length ≤ maxLen ∧ ∀ y, y ∈ x.f6 → wf79 y)
def wf42 (x : S42) : Prop := wf x.f0 ∧ wf x.f1 ∧ wf x.f2 ∧ True ∧ wf40 x.f4
theorem wf_bound {n : Int} (h : wf n) : -9223372036854775808 ≤ n ∧ n ≤ 9223372036854775807 := by
  have h' : IntKind.i64.min ≤ n ∧ n ≤ 9223372036854775807 := by simpa [wf, Lit.wf] using h
  exact ⟨Int.le_trans (by decide) h'.1, h'.2⟩

section
variable {H : Type} {enc : TypeId × Value → H} {w : World} {base : Nat} {spare : Nat → Bool} {held : Bool}
theorem o2 : Opens enc Try.prog w base spare held 2 (Kd.int .i64) wf := Opener.open_int Try.underlying2 (by kernel_rfl)
theorem o3 : Opens enc Try.prog w base spare held 3 (Kd.int .i64) wf := Opener.open_int Try.underlying3 (by kernel_rfl)
theorem o4 : Opens enc Try.prog w base spare held 4 Kd.bool (fun _ => True) := open_bool Try.underlying4 (by kernel_rfl)
theorem o9 : Opens enc Try.prog w base spare held 9 Kd.string (fun s => s.size ≤ maxLen) := Opener.open_string Try.underlying9 (by kernel_rfl)
theorem o37 : Opens enc Try.prog w base spare held 37 (Kd.slice 3 (Kd.int .i64)) wfL := open_slice Try.underlying37 (by kernel_rfl) o3
theorem o79 : Opens enc Try.prog w base spare held 79 k79 wf79 :=
  open_struct (fun x : S79 => (x.f0, x.f1)) (fun p => ⟨p.1, p.2⟩) (fun _ => rfl) Try.underlying79 (by kernel_rfl) (fields_cons rfl o3 (fields_last rfl o3))
theorem o38 : Opens enc Try.prog w base spare held 38 (Kd.slice 79 k79) (fun l => l.length ≤ maxLen ∧ ∀ y, y ∈ l → wf79 y) := open_slice Try.underlying38 (by kernel_rfl) o79
theorem o40 : Opens enc Try.prog w base spare held 40 k40 wf40 :=
  open_struct (fun x : S40 => (x.f0, x.f1, x.f2, x.f3, x.f4, x.f5, x.f6)) (fun p => ⟨p.1, p.2.1, p.2.2.1, p.2.2.2.1, p.2.2.2.2.1, p.2.2.2.2.2.1, p.2.2.2.2.2.2⟩) (fun _ => rfl) Try.underlying40 (by kernel_rfl)
    (fields_cons rfl o3 (fields_cons rfl o3 (fields_cons rfl o3 (fields_cons rfl o2 (fields_cons rfl o37 (fields_cons rfl o37 (fields_last rfl o38)))))))
theorem o42 : Opens enc Try.prog w base spare held 42 k42 wf42 :=
  open_struct (fun x : S42 => (x.f0, x.f1, x.f2, x.f3, x.f4)) (fun p => ⟨p.1, p.2.1, p.2.2.1, p.2.2.2.1, p.2.2.2.2⟩) (fun _ => rfl) Try.underlying42 (by kernel_rfl)
    (fields_cons rfl o2 (fields_cons rfl o2 (fields_cons rfl o2 (fields_cons rfl o4 (fields_last rfl o40)))))
theorem o22 : Opens enc Try.prog w base spare held 22 (Kd.slice 42 k42) (fun l => l.length ≤ maxLen ∧ ∀ y, y ∈ l → wf42 y) := open_slice Try.underlying22 (by kernel_rfl) o42
theorem o24 : Opens enc Try.prog w base spare held 24 (Kd.iso (Kd.pair Kd.string (Kd.pair (Kd.int .i64) (Kd.slice 42 k42))) id) (fun x => x.1.size ≤ maxLen ∧ wf x.2.1 ∧ (x.2.2.length ≤ maxLen ∧ ∀ y, y ∈ x.2.2 → wf42 y)) :=
  open_struct id id (fun _ => rfl) Try.underlying24 (by kernel_rfl) (fields_cons rfl o9 (fields_cons rfl o2 (fields_last rfl o22)))
/-- A zone. -/
theorem zone_of {fuel : Nat} {cs : List Value} {x : DataW H × List MemPlace} (h : DataW.trod enc Try.prog w base spare held fuel 24 cs = some x) :
    ∃ (s : ByteArray) (b : Int) (A : Option Addr) (l : List S42) (c : Nat), cs = [.string s, .int .i64 b, .slice A l.length c] ∧ Kd.C k42 w A l.length l ∧ l.length ≤ c ∧ s.size ≤ maxLen ∧ wf b ∧ l.length ≤ maxLen ∧ ∀ y, y ∈ l → wf42 y := by
  obtain ⟨⟨s, b, l⟩, ⟨_, _, rfl, rfl, _, _, rfl, rfl, A, c, rfl, hl, hc⟩, h1, h2, h3, h4⟩ := o24.run h
  exact ⟨s, b, A, l, c, rfl, hc, hl, h1, h2, h3, h4⟩
end
end Go.Proofs.Ytlplmkllmgdifaa.ZOpen

/- The statement SeriesInstances over lists and numbers: the instances of a window, and the next one behind a time, are the document's. -/
import Derived.Test.YtkgkblmeafhkfaaGreatInst2
import Derived.Test.YtkgkblmeafhkfaaGreatAlive
import Derived.Test.YtkgkblmeafhkfaaGreatPHx30
set_option linter.unusedVariables false
set_option linter.unnecessarySimpa false
set_option linter.unnecessarySimpa false
namespace Go.Proofs.YtkgkblmeafhkfaaGreat.PureInstances
open Go.RowKit Go.Proofs.YtkgkblmeafhkfaaGreatW.PrintWords Go.Proofs.YtkgkblmeafhkfaaGreatW.PrintLast Go.Proofs.YtkgkblmeafhkfaaGreatW.PrintMore Go.Proofs.YtkgkblmeafhkfaaGreat.PH Go.Proofs.YtkgkblmeafhkfaaGreat.Base Go.Proofs.YtkgkblmeafhkfaaGreat.Agree Go.Proofs.YtkgkblmeafhkfaaGreat.Rule Go.Proofs.YtkgkblmeafhkfaaGreat.Ser Go.Proofs.YtkgkblmeafhkfaaGreat.Orgs Go.Proofs.YtkgkblmeafhkfaaGreat.Inst2
section
variable (s0 s1:Int) (s2:Bool) (r0 r1 r2 r3:Int) (l7 l8:List Int) (l9:List S91) (l10 l11:List Int) (l12:List S64)
theorem as21_loop (q0 q1 q2 q3:Int) (m7 m8:List Int) (hn:l9.length≤100):∀ (suf:List S91) (i:Nat) (acc:List S92),l9.drop i=suf→acc.length=i→acc ++ suf.map cv=l9.map cv→Ev (fun k=>pl21_As.l0 k (i:Int) r0 r1 r2 r3 l7 l8 l9 q0 q1 q2 q3 m7 m8 acc) (q0,q1,q2,q3,m7,m8,l9.map cv):=by
 intro suf
 induction suf with
 | nil =>
  intro i acc hd hi he
  have h:=drop_nil hd
  refine Ev.step (f:=fun _=>some (q0,q1,q2,q3,m7,m8,l9.map cv)) (fun k=>?_) (Ev.now _)
  simp only [pl21_As.l0]
  rw [if_neg (by omega),← he]
  simp
 | cons o suf ih =>
  intro i acc hd hi he
  obtain ⟨h,hg,hd'⟩:=get_drop (d:=(⟨0,0⟩:S91)) hd
  have hr:rd_T91 l9 (i:Int)=o:=hg
  have w1:=wrapS h (by omega)
  refine Ev.step (fun k=>by simp only [pl21_As.l0];rw [if_pos (show (i:Int) < (l9.length:Int) by omega),if_pos (show (0:Int)≤(i:Int) by omega),if_pos (show acc.length < 8796093022208 by omega),hr,w1]) ?_
  exact ih (i + 1) _ hd' (by simp;omega) (by rw [← he];simp [cv])
theorem as21 (hn:l9.length≤100):Ev (fun k=>pl21_As.f k r0 r1 r2 r3 l7 l8 l9) (r0,r1,r2,r3,l7,l8,l9.map cv):=by
 unfold pl21_As.f
 exact as21_loop r0 r1 r2 r3 l7 l8 l9 r0 r1 r2 r3 l7 l8 hn l9 0 [] rfl rfl rfl
theorem as23_loop (q0 q1:Int) (q2:Bool) (q3 q4 q5 q6:Int) (m7 m8:List Int) (m9:List S92) (m10 m11:List Int) (hn:l12.length≤300):∀ (suf:List S64) (i:Nat) (acc:List S69),l12.drop i=suf→acc.length=i→acc ++ suf.map cc=l12.map cc→Ev (fun k=>pl23_As.l0 k (i:Int) s0 s1 s2 r0 r1 r2 r3 l7 l8 l9 l10 l11 l12 q0 q1 q2 q3 q4 q5 q6 m7 m8 m9 m10 m11 acc) (q0,q1,q2,q3,q4,q5,q6,m7,m8,m9,m10,m11,l12.map cc):=by
 intro suf
 induction suf with
 | nil =>
  intro i acc hd hi he
  have h:=drop_nil hd
  refine Ev.step (f:=fun _=>some (q0,q1,q2,q3,q4,q5,q6,m7,m8,m9,m10,m11,l12.map cc)) (fun k=>?_) (Ev.now _)
  simp only [pl23_As.l0]
  rw [if_neg (by omega),← he]
  simp
 | cons o suf ih =>
  intro i acc hd hi he
  obtain ⟨h,hg,hd'⟩:=get_drop (d:=(⟨0,0,0,false⟩:S64)) hd
  have hr:rd_T64 l12 (i:Int)=o:=hg
  have w1:=wrapS h (by omega)
  refine Ev.step (fun k=>by simp only [pl23_As.l0];rw [if_pos (show (i:Int) < (l12.length:Int) by omega),if_pos (show (0:Int)≤(i:Int) by omega),if_pos (show acc.length < 4398046511104 by omega),hr,w1]) ?_
  exact ih (i + 1) _ hd' (by simp;omega) (by rw [← he];simp [cc])
/-- The series as the document's. -/
theorem as23 (h9:l9.length≤100) (hn:l12.length≤300):Ev (fun k=>pl23_As.f k s0 s1 s2 r0 r1 r2 r3 l7 l8 l9 l10 l11 l12) (s0,s1,s2,r0,r1,r2,r3,l7,l8,l9.map cv,l10,l11,l12.map cc):=by
 unfold pl23_As.f
 refine Ev.bind (as21 r0 r1 r2 r3 l7 l8 l9 h9) ?_
 exact as23_loop s0 s1 s2 r0 r1 r2 r3 l7 l8 l9 l10 l11 l12 s0 s1 s2 r0 r1 r2 r3 l7 l8 (l9.map cv) l10 l11 hn l12 0 [] rfl rfl rfl
end
theorem asall_loop (l : List S55) (hn : l.length ≤ 3000) : ∀ (suf : List S55) (i : Nat) (acc : List S58), l.drop i = suf → acc.length = i → acc ++ suf.map ci = l.map ci → Ev (fun k => pl23_AsAll.l0 k l acc (i : Int)) (l.map ci) := by
  intro suf
  induction suf with
  | nil =>
    intro i acc hd hi he
    have h := drop_nil hd
    refine Ev.step (f := fun _ => some (l.map ci)) (fun k => ?_) (Ev.now _)
    simp only [pl23_AsAll.l0]
    rw [if_neg (by omega), ← he]
    simp
  | cons o suf ih =>
    intro i acc hd hi he
    obtain ⟨h, hg, hd'⟩ := get_drop (d := z55) hd
    have hr : rd_T55 l (i : Int) = o := hg
    have w1 := wrapS h (by omega)
    refine Ev.step (fun k => by simp only [pl23_AsAll.l0]; rw [if_pos (show (i : Int) < (l.length : Int) by omega), if_pos (show (0 : Int) ≤ (i : Int) by omega), if_pos (show acc.length < 4398046511104 by omega), hr, w1]) ?_
    exact ih (i + 1) _ hd' (by simp; omega) (by rw [← he]; simp [ci])
theorem asall (l : List S55) (hn : l.length ≤ 3000) : Ev (fun k => pl23_AsAll.f k l) (l.map ci) := by
  unfold pl23_AsAll.f
  exact asall_loop l hn l 0 [] rfl rfl rfl
theorem same_loop (l : List S58) (hn : l.length ≤ 3000) : ∀ (n i : Nat), l.length - i = n → i ≤ l.length → Ev (fun k => pr23_Same.l0 k l l (i : Int)) true := by
  intro n
  induction n with
  | zero =>
    intro i h hle
    refine Ev.step (f := fun _ => some true) (fun k => ?_) (Ev.now _)
    simp only [pr23_Same.l0]
    rw [if_neg (by omega)]
  | succ n ih =>
    intro i h hle
    have w1 := wrapS (show i < l.length by omega) (by omega)
    refine Ev.step (fun k => by simp only [pr23_Same.l0, beq_self_eq_true, Bool.not_true, Bool.or_false, Bool.false_eq_true, if_false]; rw [if_pos (show (i : Int) < (l.length : Int) by omega), if_pos (show (0 : Int) ≤ (i : Int) by omega), if_pos (show (i : Int) < (l.length : Int) by omega), w1]) (ih (i + 1) (by omega) (by omega))
theorem same (l : List S58) (hn : l.length ≤ 3000) : Ev (fun k => pr23_Same.f k l l) true := by
  unfold pr23_Same.f
  simp only [if_true]
  exact same_loop l hn _ 0 rfl (by omega)
section
variable (s0 s1 : Int) (s2 : Bool) (r0 r1 r2 r3 : Int) (l7 l8 : List Int) (l9 : List S91) (l10 l11 : List Int) (l12 : List S64)
theorem great21 (hs:l7.length + l8.length≤9223372036854775807) (h:pl21_Great.f r0 r1 r2 r3 l7 l8 l9=some false):l7.length≤100∧l8.length≤100∧l9.length≤100:=by
 unfold pl21_Great.f at h
 have e:wrap64 ((l7.length:Int) + (l8.length:Int))=(l7.length:Int) + (l8.length:Int):=by unfold wrap64;omega
 rw [e] at h
 split at h
 ·cases h
 ·have:=of_decide_eq_false (Option.some.inj h)
  omega
theorem great_some (till:Int) (hs:l7.length + l8.length≤9223372036854775807):∃ g,pl23_Great.f s0 s1 s2 r0 r1 r2 r3 l7 l8 l9 l10 l11 l12 till=some g∧(g=false→(l7.length≤100∧l8.length≤100∧l9.length≤100)∧l10.length≤300∧l11.length≤300∧l12.length≤300):=by
 have h21:∃ b,pl21_Great.f r0 r1 r2 r3 l7 l8 l9=some b:=by
  unfold pl21_Great.f
  split <;> exact ⟨_,rfl⟩
 obtain ⟨b,hb⟩:=h21
 unfold pl23_Great.f
 rw [hb,Option.bind_some]
 cases b with
 | true=>exact ⟨true,rfl,fun h=>by cases h⟩
 | false =>
  have l:=great21 r0 r1 r2 r3 l7 l8 l9 hs hb
  simp only [Bool.false_eq_true,if_false]
  by_cases c1:(l10.length:Int) > 300
  ·exact ⟨true,by rw [if_pos c1],fun h=>by cases h⟩
  by_cases c2:(l11.length:Int) > 300
  ·exact ⟨true,by rw [if_neg c1,if_pos c2],fun h=>by cases h⟩
  by_cases c3:(l12.length:Int) > 300
  ·exact ⟨true,by rw [if_neg c1,if_neg c2,if_pos c3],fun h=>by cases h⟩
  by_cases c4:s0 > 4294967296
  ·exact ⟨true,by rw [if_neg c1,if_neg c2,if_neg c3,if_pos c4],fun h=>by cases h⟩
  exact ⟨_,by rw [if_neg c1,if_neg c2,if_neg c3,if_neg c4],fun _=>⟨l,by omega,by omega,by omega⟩⟩
theorem pure (hs : Short l7 l8 l9 l10 l11 l12) (hl : l7.length + l8.length ≤ 9223372036854775807) (fr till : Int) : ∃ k, pl23_SeriesInstances.f k s0 s1 s2 r0 r1 r2 r3 l7 l8 l9 l10 l11 l12 fr till = some true := by
  refine Ev.rounds ?_
  unfold pl23_SeriesInstances.f
  obtain ⟨g, hg, hgf⟩ := great_some s0 s1 s2 r0 r1 r2 r3 l7 l8 l9 l10 l11 l12 till hl
  obtain ⟨g', hg', -⟩ := great_some s0 s1 s2 r0 r1 r2 r3 l7 l8 l9 l10 l11 l12 fr hl
  have jt : Ev (fun k => pl23_SeriesInstances.j0 k fr till true s0 s1 s2 r0 r1 r2 r3 l7 l8 l9 l10 l11 l12) true := by
    refine Ev.step (fun k => by simp only [pl23_SeriesInstances.j0, if_true]; rfl) ?_
    exact Ev.bind Alive.alive_ev (Ev.now _)
  simp only [hg, hg', Option.bind_some]
  cases g with
  | true =>
    simp only [if_true]
    exact jt
  | false =>
    simp only [Bool.false_eq_true, if_false]
    cases g' with
    | true => exact jt
    | false =>
      obtain ⟨⟨h7, h8, h9⟩, h10, h11, h12⟩ := hgf rfl
      have has := as23 s0 s1 s2 r0 r1 r2 r3 l7 l8 l9 l10 l11 l12 h9 h12
      obtain ⟨p, p1, p2, p3, -⟩ := Instances_both s0 s1 s2 r0 r1 r2 r3 l7 l8 l9 l10 l11 l12 hs h7 h8 h9 h10 h11 h12 fr till
      obtain ⟨⟨q0, q1, q2, q3, q4, q5⟩, n1, n2⟩ := Next_both s0 s1 s2 r0 r1 r2 r3 l7 l8 l9 l10 l11 l12 hs h7 h8 h9 h10 h11 h12 fr
      refine Ev.step (fun k => by simp only [pl23_SeriesInstances.j0, Bool.false_eq_true, if_false]; rfl) ?_
      refine Ev.bind p1 (Ev.bind has (Ev.bind p2 (Ev.bind n1 (Ev.bind has (Ev.bind n2 (Ev.bind Alive.alive_ev ?_))))))
      simp only [if_true]
      refine Ev.bind (asall p.1 p3) (Ev.bind (same (p.1.map ci) (by simpa using p3)) ?_)
      simp only [if_true]
      refine Ev.bind (asall [(⟨q0, q1, q2, q3⟩ : S55)] (by simp)) ?_
      have g1 : rd_T58 ([(⟨q0, q1, q2, q3⟩ : S55)].map ci) 0 = ⟨q0, q1, q2, q3⟩ := rfl
      simp only [g1, beq_self_eq_true, Bool.and_self, if_true]
      exact Ev.now _
end
end Go.Proofs.YtkgkblmeafhkfaaGreat.PureInstances

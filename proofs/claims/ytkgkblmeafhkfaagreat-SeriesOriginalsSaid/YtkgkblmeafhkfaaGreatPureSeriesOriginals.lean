/- The statement SeriesOriginals over lists and numbers: the program's originals, and what may be, are the document's; a series reads as it did. -/
import Derived.Test.YtkgkblmeafhkfaaGreatOrgs
import Derived.Test.YtkgkblmeafhkfaaGreatWrites
import Derived.Test.YtkgkblmeafhkfaaGreatAlive
import Derived.Test.YtkgkblmeafhkfaaGreatPGx31
set_option linter.unusedVariables false
namespace Go.Proofs.YtkgkblmeafhkfaaGreat.PureOriginals
open Go.RowKit Go.Proofs.YtkgkblmeafhkfaaGreatW.PrintWords Go.Proofs.YtkgkblmeafhkfaaGreatW.PrintLast Go.Proofs.YtkgkblmeafhkfaaGreatW.PrintMore Go.Proofs.YtkgkblmeafhkfaaGreat.PG Go.Proofs.YtkgkblmeafhkfaaGreat.Base Go.Proofs.YtkgkblmeafhkfaaGreat.Agree Go.Proofs.YtkgkblmeafhkfaaGreat.Rule Go.Proofs.YtkgkblmeafhkfaaGreat.Ser Go.Proofs.YtkgkblmeafhkfaaGreat.Orgs Go.Proofs.YtkgkblmeafhkfaaGreat.Writes
section
variable (s0 s1:Int) (s2:Bool) (r0 r1 r2 r3:Int) (l7 l8:List Int) (l9:List S91) (l10 l11:List Int) (l12:List S64)
theorem as21_loop (q0 q1 q2 q3:Int) (m7 m8:List Int) (hn:l9.length≤100):∀ (suf:List S91) (i:Nat) (acc:List S92),l9.drop i=suf→acc.length=i→acc ++ suf.map cv=l9.map cv→Ev (fun k=>pl21_As.l0 k (i:Int) r0 r1 r2 r3 l7 l8 l9 q0 q1 q2 q3 m7 m8 acc) (q0,q1,q2,q3,m7,m8,l9.map cv):=by
 intro suf
 induction suf with
 | nil =>
  intro i acc hd hi he
  have h:=drop_nil hd
  refine Ev.step (f:=fun _=>some (q0,q1,q2,q3,m7,m8,l9.map cv)) (fun k=>?_) (Ev.now _)
  simp only [pl21_As.l0]
  rw [if_neg (by omega),← he]
  simp
 | cons o suf ih =>
  intro i acc hd hi he
  obtain ⟨h,hg,hd'⟩:=get_drop (d:=(⟨0,0⟩:S91)) hd
  have hr:rd_T91 l9 (i:Int)=o:=hg
  have w1:=wrapS h (by omega)
  refine Ev.step (fun k=>by simp only [pl21_As.l0];rw [if_pos (show (i:Int) < (l9.length:Int) by omega),if_pos (show (0:Int)≤(i:Int) by omega),if_pos (show acc.length < 8796093022208 by omega),hr,w1]) ?_
  exact ih (i + 1) _ hd' (by simp;omega) (by rw [← he];simp [cv])
theorem as21 (hn:l9.length≤100):Ev (fun k=>pl21_As.f k r0 r1 r2 r3 l7 l8 l9) (r0,r1,r2,r3,l7,l8,l9.map cv):=by
 unfold pl21_As.f
 exact as21_loop r0 r1 r2 r3 l7 l8 l9 r0 r1 r2 r3 l7 l8 hn l9 0 [] rfl rfl rfl
theorem as23_loop (q0 q1:Int) (q2:Bool) (q3 q4 q5 q6:Int) (m7 m8:List Int) (m9:List S92) (m10 m11:List Int) (hn:l12.length≤300):∀ (suf:List S64) (i:Nat) (acc:List S69),l12.drop i=suf→acc.length=i→acc ++ suf.map cc=l12.map cc→Ev (fun k=>pl23_As.l0 k (i:Int) s0 s1 s2 r0 r1 r2 r3 l7 l8 l9 l10 l11 l12 q0 q1 q2 q3 q4 q5 q6 m7 m8 m9 m10 m11 acc) (q0,q1,q2,q3,q4,q5,q6,m7,m8,m9,m10,m11,l12.map cc):=by
 intro suf
 induction suf with
 | nil =>
  intro i acc hd hi he
  have h:=drop_nil hd
  refine Ev.step (f:=fun _=>some (q0,q1,q2,q3,q4,q5,q6,m7,m8,m9,m10,m11,l12.map cc)) (fun k=>?_) (Ev.now _)
  simp only [pl23_As.l0]
  rw [if_neg (by omega),← he]
  simp
 | cons o suf ih =>
  intro i acc hd hi he
  obtain ⟨h,hg,hd'⟩:=get_drop (d:=(⟨0,0,0,false⟩:S64)) hd
  have hr:rd_T64 l12 (i:Int)=o:=hg
  have w1:=wrapS h (by omega)
  refine Ev.step (fun k=>by simp only [pl23_As.l0];rw [if_pos (show (i:Int) < (l12.length:Int) by omega),if_pos (show (0:Int)≤(i:Int) by omega),if_pos (show acc.length < 4398046511104 by omega),hr,w1]) ?_
  exact ih (i + 1) _ hd' (by simp;omega) (by rw [← he];simp [cc])
/-- The series as the document's. -/
theorem as23 (h9:l9.length≤100) (hn:l12.length≤300):Ev (fun k=>pl23_As.f k s0 s1 s2 r0 r1 r2 r3 l7 l8 l9 l10 l11 l12) (s0,s1,s2,r0,r1,r2,r3,l7,l8,l9.map cv,l10,l11,l12.map cc):=by
 unfold pl23_As.f
 refine Ev.bind (as21 r0 r1 r2 r3 l7 l8 l9 h9) ?_
 exact as23_loop s0 s1 s2 r0 r1 r2 r3 l7 l8 l9 l10 l11 l12 s0 s1 s2 r0 r1 r2 r3 l7 l8 (l9.map cv) l10 l11 hn l12 0 [] rfl rfl rfl
end
theorem times_loop (l:List Int) (hn:l.length≤9223372036854775807):∀ (n i:Nat),l.length - i=n→i≤l.length→Ev (fun k=>pr21_SameTimes.l0 k l l (i:Int)) true:=by
 intro n
 induction n with
 | zero =>
  intro i h hle
  refine Ev.step (f:=fun _=>some true) (fun k=>?_) (Ev.now _)
  simp only [pr21_SameTimes.l0]
  rw [if_neg (by omega)]
 | succ n ih =>
  intro i h hle
  have w1:=wrapS (show i < l.length by omega) hn
  refine Ev.step (fun k=>by simp only [pr21_SameTimes.l0];rw [if_pos (show (i:Int) < (l.length:Int) by omega),if_pos (show (0:Int)≤(i:Int) by omega),if_pos (show (i:Int) < (l.length:Int) by omega),if_pos trivial,w1]) (ih (i + 1) (by omega) (by omega))
theorem times (l:List Int) (hn:l.length≤9223372036854775807):Ev (fun k=>pr21_SameTimes.f k l l) true:=by
 unfold pr21_SameTimes.f
 simp only [if_true]
 exact times_loop l hn _ 0 rfl (by omega)
theorem changes_loop (l:List S69) (hn:l.length≤9223372036854775807):∀ (n i:Nat),l.length - i=n→i≤l.length→Ev (fun k=>pr23_SameChanges.l0 k l l (i:Int)) true:=by
 intro n
 induction n with
 | zero =>
  intro i h hle
  refine Ev.step (f:=fun _=>some true) (fun k=>?_) (Ev.now _)
  simp only [pr23_SameChanges.l0]
  rw [if_neg (by omega)]
 | succ n ih =>
  intro i h hle
  have w1:=wrapS (show i < l.length by omega) hn
  refine Ev.step (fun k=>by simp only [pr23_SameChanges.l0,beq_self_eq_true,Bool.not_true,Bool.or_false,Bool.false_eq_true,if_false];rw [if_pos (show (i:Int) < (l.length:Int) by omega),if_pos (show (0:Int)≤(i:Int) by omega),if_pos (show (i:Int) < (l.length:Int) by omega),w1]) (ih (i + 1) (by omega) (by omega))
theorem changes (l:List S69) (hn:l.length≤9223372036854775807):Ev (fun k=>pr23_SameChanges.f k l l) true:=by
 unfold pr23_SameChanges.f
 simp only [if_true]
 exact changes_loop l hn _ 0 rfl (by omega)
section
variable (s0 s1:Int) (s2:Bool) (r0 r1 r2 r3:Int) (l7 l8:List Int) (l9:List S91) (l10 l11:List Int) (l12:List S64)
/-- A series is the same as itself. -/
theorem same23 (h7:l7.length≤100) (h8:l8.length≤100) (h9:l9.length≤100) (h10:l10.length≤300) (h11:l11.length≤300) (h12:l12.length≤300) :
  Ev (fun k=>pl23_Same.f k s0 s1 s2 r0 r1 r2 r3 l7 l8 (l9.map cv) l10 l11 (l12.map cc) s0 s1 s2 r0 r1 r2 r3 l7 l8 (l9.map cv) l10 l11 (l12.map cc)) true:=by
 obtain ⟨w,hw,-⟩:=writes r0 r1 r2 r3 l7 l8 l9 h7 h8 h9
 have rule:Ev (fun k=>pr21_Same.f k r0 r1 r2 r3 l7 l8 (l9.map cv) r0 r1 r2 r3 l7 l8 (l9.map cv)) true:=by
  unfold pr21_Same.f
  refine Ev.bind hw (Ev.bind hw ?_)
  simp only [if_true,beq_self_eq_true]
  exact Ev.now _
 unfold pl23_Same.f
 simp only [if_true,beq_self_eq_true]
 refine Ev.bind rule ?_
 simp only [if_true]
 refine Ev.bind (times l10 (by omega)) ?_
 simp only [if_true]
 refine Ev.bind (times l11 (by omega)) ?_
 simp only [if_true]
 exact Ev.bind (changes (l12.map cc) (by simp;omega)) (Ev.now _)
theorem great21 (hs:l7.length + l8.length≤9223372036854775807) (h:pl21_Great.f r0 r1 r2 r3 l7 l8 l9=some false):l7.length≤100∧l8.length≤100∧l9.length≤100:=by
 unfold pl21_Great.f at h
 have e:wrap64 ((l7.length:Int) + (l8.length:Int))=(l7.length:Int) + (l8.length:Int):=by unfold wrap64;omega
 rw [e] at h
 split at h
 ·cases h
 ·have:=of_decide_eq_false (Option.some.inj h)
  omega
theorem great_some (till:Int) (hs:l7.length + l8.length≤9223372036854775807):∃ g,pl23_Great.f s0 s1 s2 r0 r1 r2 r3 l7 l8 l9 l10 l11 l12 till=some g∧(g=false→(l7.length≤100∧l8.length≤100∧l9.length≤100)∧l10.length≤300∧l11.length≤300∧l12.length≤300):=by
 have h21:∃ b,pl21_Great.f r0 r1 r2 r3 l7 l8 l9=some b:=by
  unfold pl21_Great.f
  split <;> exact ⟨_,rfl⟩
 obtain ⟨b,hb⟩:=h21
 unfold pl23_Great.f
 rw [hb,Option.bind_some]
 cases b with
 | true=>exact ⟨true,rfl,fun h=>by cases h⟩
 | false =>
  have l:=great21 r0 r1 r2 r3 l7 l8 l9 hs hb
  simp only [Bool.false_eq_true,if_false]
  by_cases c1:(l10.length:Int) > 300
  ·exact ⟨true,by rw [if_pos c1],fun h=>by cases h⟩
  by_cases c2:(l11.length:Int) > 300
  ·exact ⟨true,by rw [if_neg c1,if_pos c2],fun h=>by cases h⟩
  by_cases c3:(l12.length:Int) > 300
  ·exact ⟨true,by rw [if_neg c1,if_neg c2,if_pos c3],fun h=>by cases h⟩
  by_cases c4:s0 > 4294967296
  ·exact ⟨true,by rw [if_neg c1,if_neg c2,if_neg c3,if_pos c4],fun h=>by cases h⟩
  exact ⟨_,by rw [if_neg c1,if_neg c2,if_neg c3,if_neg c4],fun _=>⟨l,by omega,by omega,by omega⟩⟩
/-- The length of what a window's originals are. -/
theorem originals_few (hs:Short l7 l8 l9 l10 l11 l12) (h7:l7.length≤100) (h8:l8.length≤100) (h9:l9.length≤100) (h10:l10.length≤300) (h11:l11.length≤300) (h12:l12.length≤300) (fr till:Int) (o:List Int×Int) (h:Ev (fun k=>series_Originals.f k s0 s1 s2 r0 r1 r2 r3 l7 l8 l9 l10 l11 l12 fr till) o):o.1.length≤9223372036854775807:=by
 suffices hF:Fin (fun k=>series_Originals.f k s0 s1 s2 r0 r1 r2 r3 l7 l8 l9 l10 l11 l12 fr till) (fun o=>o.1.length≤9223372036854775807) by
  obtain ⟨o',h',hp⟩:=hF
  obtain rfl:=ev_one h' h
  exact hp
 obtain ⟨b,hb,hok⟩:=sright_fin s0 s1 s2 r0 r1 r2 r3 l7 l8 l9 l10 l11 l12 hs
 unfold series_Originals.f
 refine fin_bind (fin_ev hb (p:=fun x=>x=b) rfl) (fun x hx=>?_)
 subst hx
 cases x with
 | false =>
  simp only [Bool.false_eq_true,if_false]
  exact fin_now (by simp)
 | true =>
  have ok:=hok rfl
  have none:Fin (fun k=>series_Originals.j0 k fr till true s0 s1 s2 r0 r1 r2 r3 l7 l8 l9 l10 l11 l12) (fun o=>o.1.length≤9223372036854775807):=fin_step (f:=fun _=>some ([],110)) (fun k=>by simp only [series_Originals.j0,if_true]) (fin_now (by simp))
  simp only [when_f,Option.bind_some,if_true]
  refine fin_ite (fun c1=>?_) (fun _=>none)
  have hlo:=of_decide_eq_true c1
  by_cases c2:0≤till∧till≤253402300799
  ·rw [decide_eq_true c2,Bool.not_true]
   have hst:=ok.start
   have ew:wrap64 (till - s0)=till - s0:=by unfold wrap64;omega
   refine fin_step (f:=fun k=>if till - s0 > 631152000 then some ([],1) else (series_Series_originals.f k s0 s1 s2 r0 r1 r2 r3 l7 l8 l9 l10 l11 l12 fr till).bind fun bt=>some (bt.1,bt.2)) (fun k=>by simp only [series_Originals.j0,Bool.false_eq_true,if_false,ew]) ?_
   refine fin_ite (fun _=>fin_now (by simp)) (fun c=>fin_bind (Times.originals_fin s0 s1 s2 r0 r1 r2 r3 l7 l8 l9 l10 l11 l12 hs ok fr till hlo c2 (by omega)) (fun p hp=>fin_now ?_))
   by_cases e:p.2=0
   ·have:=(hp.2 e).2
    show p.1.length≤_
    omega
   ·show p.1.length≤_
    rw [hp.1 e]
    simp
  ·rw [decide_eq_false c2,Bool.not_false]
   exact none
theorem pure (hs:Short l7 l8 l9 l10 l11 l12) (hl:l7.length + l8.length≤9223372036854775807) (fr till:Int):∃ k,pl23_SeriesOriginals.f k s0 s1 s2 r0 r1 r2 r3 l7 l8 l9 l10 l11 l12 fr till=some true:=by
 refine Ev.rounds ?_
 unfold pl23_SeriesOriginals.f
 obtain ⟨g,hg,hgf⟩:=great_some s0 s1 s2 r0 r1 r2 r3 l7 l8 l9 l10 l11 l12 till hl
 simp only [hg,Option.bind_some]
 cases g with
 | true =>
  simp only [if_true]
  exact Ev.bind Alive.alive_ev (Ev.now _)
 | false =>
  obtain ⟨⟨h7,h8,h9⟩,h10,h11,h12⟩:=hgf rfl
  have has:=as23 s0 s1 s2 r0 r1 r2 r3 l7 l8 l9 l10 l11 l12 h9 h12
  simp only [Bool.false_eq_true,if_false]
  obtain ⟨o,o1,o2⟩:=Originals_both s0 s1 s2 r0 r1 r2 r3 l7 l8 l9 l10 l11 l12 hs h7 h8 h9 h10 h11 h12 fr till
  obtain ⟨b,b1,b2⟩:=sright_both s0 s1 s2 r0 r1 r2 r3 l7 l8 l9 l10 l11 l12 h7 h8 h9 h10 h11 h12
  have few:=originals_few s0 s1 s2 r0 r1 r2 r3 l7 l8 l9 l10 l11 l12 hs h7 h8 h9 h10 h11 h12 fr till o o1
  refine Ev.bind has (Ev.bind o1 (Ev.bind o2 (Ev.bind Alive.alive_ev ?_)))
  simp only [if_true]
  refine Ev.bind b1 (Ev.bind b2 ?_)
  simp only [beq_self_eq_true,if_true]
  refine Ev.bind (times o.1 few) ?_
  simp only [if_true]
  exact Ev.bind has (Ev.bind (same23 s0 s1 s2 r0 r1 r2 r3 l7 l8 l9 l10 l11 l12 h7 h8 h9 h10 h11 h12) (Ev.now _))
end
end Go.Proofs.YtkgkblmeafhkfaaGreat.PureOriginals

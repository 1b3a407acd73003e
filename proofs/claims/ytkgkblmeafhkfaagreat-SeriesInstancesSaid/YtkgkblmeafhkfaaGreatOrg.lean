/- A series' originals: the program's and the document's agree. -/
import Derived.Test.YtkgkblmeafhkfaaGreatSer
import Derived.Test.YtkgkblmeafhkfaaGreatExp
import Derived.Test.YtkgkblmeafhkfaaGreatPHx26
set_option linter.unusedVariables false
namespace Go.Proofs.YtkgkblmeafhkfaaGreat.Org
open Go.RowKit Go.Proofs.YtkgkblmeafhkfaaGreatW.PrintWords Go.Proofs.YtkgkblmeafhkfaaGreatW.PrintLast Go.Proofs.YtkgkblmeafhkfaaGreatW.PrintMore Go.Proofs.YtkgkblmeafhkfaaGreat.PH Go.Proofs.YtkgkblmeafhkfaaGreat.Cal Go.Proofs.YtkgkblmeafhkfaaGreat.Base Go.Proofs.YtkgkblmeafhkfaaGreat.Match Go.Proofs.YtkgkblmeafhkfaaGreat.Times Go.Proofs.YtkgkblmeafhkfaaGreat.Agree Go.Proofs.YtkgkblmeafhkfaaGreat.Rule Go.Proofs.YtkgkblmeafhkfaaGreat.Exp Go.Proofs.YtkgkblmeafhkfaaGreat.Ser
/-- What rises strictly is told by its members. -/
theorem up_ext:∀ {a b:List Int},a.Pairwise (· < ·)→b.Pairwise (· < ·)→(∀ x,x∈a ↔ x∈b)→a=b
 | [],[],_,_,_=>rfl
 | [],y :: b,_,_,h=>absurd ((h y).2 List.mem_cons_self) (by simp)
 | x :: a,[],_,_,h=>absurd ((h x).1 List.mem_cons_self) (by simp)
 | x :: a,y :: b,ha,hb,h=>by
  obtain ⟨a1,a2⟩:=List.pairwise_cons.1 ha
  obtain ⟨b1,b2⟩:=List.pairwise_cons.1 hb
  have exy:x=y:=by
   rcases List.mem_cons.1 ((h x).1 List.mem_cons_self) with e | hx
   ·exact e
   ·rcases List.mem_cons.1 ((h y).2 List.mem_cons_self) with e | hy
    ·exact e.symm
    ·have:=a1 y hy;have:=b1 x hx;omega
  subst exy
  congr 1
  refine up_ext a2 b2 (fun z=>⟨fun hz=>?_,fun hz=>?_⟩)
  ·rcases List.mem_cons.1 ((h z).1 (List.mem_cons_of_mem _ hz)) with e | hz'
   ·have:=a1 z hz;omega
   ·exact hz'
  ·rcases List.mem_cons.1 ((h z).2 (List.mem_cons_of_mem _ hz)) with e | hz'
   ·have:=b1 z hz;omega
   ·exact hz'
theorem has23 (l:List Int) (x:Int) (hn:l.length≤9223372036854775807):Ev (fun k=>pr23_has.f k l x) (l.contains x):=by
 have go:∀ (suf:List Int) (i:Nat),l.drop i=suf→Ev (fun k=>pr23_has.l0 k l x (i:Int)) (suf.contains x):=by
  intro suf
  induction suf with
  | nil =>
   intro i hd
   have:=drop_nil hd
   refine Ev.step (f:=fun _=>some false) (fun k=>?_) (Ev.now _)
   simp only [pr23_has.l0]
   rw [if_neg (by omega)]
  | cons o suf ih =>
   intro i hd
   obtain ⟨hi,ho,hd'⟩:=get_drop (d:=(0:Int)) hd
   have hw:=wrapS hi hn
   have ho':rd l (i:Int)=o:=ho
   by_cases e:o=x
   ·refine Ev.step (f:=fun _=>some true) (fun k=>?_) (by simp [e];exact Ev.now _)
    simp only [pr23_has.l0]
    rw [if_pos (by omega),if_pos (by omega),ho',if_pos e]
   ·rw [show (o :: suf).contains x=suf.contains x from by rw [List.contains_cons,beq_eq_false_iff_ne.mpr (fun h=>e h.symm),Bool.false_or]]
    refine Ev.step (fun k=>?_) (ih (i + 1) hd')
    simp only [pr23_has.l0]
    rw [if_pos (by omega),if_pos (by omega),ho',if_neg e,hw]
 exact go l 0 rfl
/-- A time put into its place. -/
theorem put_fin (l:List Int) (t:Int) (hn:l.length≤3000) (hup:l.Pairwise (· < ·)):Fin (fun k=>pr23_put.f k l t) (fun r=>r.Pairwise (· < ·)∧(∀ x,x∈r ↔ x∈l∨x=t)∧r.length≤l.length + 1):=by
 have cut:∀ (i:Nat),i≤l.length→(∀ x,x∈l.take i→x < t)→(∀ x,x∈l.drop i→t < x)→(l.take i ++ [t] ++ l.drop i).Pairwise (· < ·)∧(∀ x,x∈l.take i ++ [t] ++ l.drop i ↔ x∈l∨x=t)∧(l.take i ++ [t] ++ l.drop i).length≤l.length + 1:=by
  intro i hi h1 h2
  refine ⟨?_,fun x=>?_,?_⟩
  ·refine List.pairwise_append.2 ⟨List.pairwise_append.2 ⟨hup.sublist (List.take_sublist _ _),by simp,fun a ha b hb=>?_⟩,hup.sublist (List.drop_sublist _ _),fun a ha b hb=>?_⟩
   ·rw [List.mem_singleton] at hb;subst hb;exact h1 a ha
   ·have hb':=h2 b hb
    rcases List.mem_append.1 ha with ha | ha
    ·have:=h1 a ha;omega
    ·rw [List.mem_singleton] at ha;omega
  ·rw [List.mem_append,List.mem_append,List.mem_singleton]
   constructor
   ·rintro ((h | h) | h)
    ·exact .inl (List.mem_of_mem_take h)
    ·exact .inr h
    ·exact .inl (List.mem_of_mem_drop h)
   ·rintro (h | h)
    ·rw [← List.take_append_drop i l,List.mem_append] at h
     rcases h with h | h
     ·exact .inl (.inl h)
     ·exact .inr h
    ·exact .inl (.inr h)
  ·simp;omega
 have go:∀ (suf:List Int) (i:Nat),l.drop i=suf→i≤l.length→(∀ x,x∈l.take i→x < t)→Fin (fun k=>pr23_put.l0 k l t (i:Int)) (fun r=>r.Pairwise (· < ·)∧(∀ x,x∈r ↔ x∈l∨x=t)∧r.length≤l.length + 1):=by
  intro suf
  induction suf with
  | nil =>
   intro i hd hi h1
   have:=drop_nil hd
   refine fin_step (f:=fun _=>some (l.take i ++ [t] ++ l.drop i)) (fun k=>?_) (fin_now (cut i hi h1 (by rw [hd];simp)))
   simp only [pr23_put.l0,Option.bind_some,Int.toNat_natCast,List.nil_append]
   rw [if_neg (by omega),if_pos (by omega),if_pos (by omega),if_pos (by simp;omega),if_pos (by simp;omega),if_pos (by simp;omega)]
  | cons o suf ih =>
   intro i hd hi h1
   obtain ⟨hi',ho,hd'⟩:=get_drop (d:=(0:Int)) hd
   have hw:=wrapS hi' (by omega)
   have ho':rd l (i:Int)=o:=ho
   have hdrop:=hup.sublist (List.drop_sublist i l)
   rw [hd] at hdrop
   obtain ⟨d1,-⟩:=List.pairwise_cons.1 hdrop
   by_cases c:o < t
   ·have htk:l.take (i + 1)=l.take i ++ [o]:=by
     rw [List.take_succ_eq_append_getElem hi']
     congr 2
     rw [List.drop_eq_getElem_cons hi'] at hd
     injection hd
    refine fin_step (fun k=>by simp only [pr23_put.l0];rw [if_pos (by omega),if_pos (by omega),ho',if_pos c,hw]) (ih (i + 1) hd' (by omega) (fun x hx=>?_))
    rw [htk] at hx
    rcases List.mem_append.1 hx with hx | hx
    ·exact h1 x hx
    ·rw [List.mem_singleton] at hx;omega
   ·by_cases e:o=t
    ·refine fin_step (f:=fun _=>some l) (fun k=>by simp only [pr23_put.l0];rw [if_pos (by omega),if_pos (by omega),ho',if_neg c,if_pos e]) (fin_now ⟨hup,fun x=>⟨.inl,fun h=>?_⟩,by omega⟩)
     rcases h with h | h
     ·exact h
     ·rw [h,← e];exact List.mem_of_mem_drop (hd ▸ List.mem_cons_self)
    ·refine fin_step (f:=fun _=>some (l.take i ++ [t] ++ l.drop i)) (fun k=>?_) (fin_now (cut i hi h1 (fun x hx=>?_)))
     ·simp only [pr23_put.l0,Option.bind_some,Int.toNat_natCast,List.nil_append]
      rw [if_pos (by omega),if_pos (by omega),ho',if_neg c,if_neg e,if_pos (by omega),if_pos (by simp;omega),if_pos (by simp;omega),if_pos (by simp;omega)]
     ·rw [hd] at hx
      rcases List.mem_cons.1 hx with hx | hx
      ·omega
      ·have:=d1 x hx;omega
 exact go l 0 rfl (Nat.zero_le _) (by simp)
theorem span_up (step last:Int) (hs:1≤step):∀ (n:Nat) (d:Int),(span step last n d).Pairwise (· < ·)
 | 0,_=>List.Pairwise.nil
 | n + 1,d=>by
  unfold span
  by_cases c:d≤last
  ·rw [if_pos c]
   refine List.pairwise_cons.2 ⟨fun x hx=>?_,span_up step last hs n (d + step)⟩
   have:=span_mem step last (by omega) n (d + step) x hx
   omega
  ·rw [if_neg c]
   exact List.Pairwise.nil
theorem ahead_sub (cnt until_ first till:Int):∀ (ds:List Int) (c:Nat),(Times.ahead cnt until_ first till c ds).Sublist ds
 | [],_=>List.Sublist.refl _
 | d :: ds,c=>by
  unfold Times.ahead
  split
  ·exact List.nil_sublist _
  ·exact (ahead_sub cnt until_ first till ds (c + 1)).cons_cons d
theorem ahead_lt (cnt until_ first till:Int):∀ (ds:List Int) (c:Nat) (d:Int),d∈Times.ahead cnt until_ first till c ds→Expand.exTime first d < till
 | [],_,d,h=>by cases h
 | e :: ds,c,d,h=>by
  unfold Times.ahead at h
  by_cases hs:stops cnt until_ first till c e=true
  ·rw [if_pos hs] at h;cases h
  ·rw [if_neg hs] at h
   rcases List.mem_cons.1 h with rfl | h
   ·rcases Int.lt_or_le (Expand.exTime first d) till with c0 | c0
    ·exact c0
    ·exact absurd (by unfold stops;rw [decide_eq_true (show Expand.exTime first d ≥ till by omega)];rfl) hs
   ·exact ahead_lt cnt until_ first till ds (c + 1) d h
section
variable (s0 s1:Int) (s2:Bool) (r0 r1 r2 r3:Int) (l7 l8:List Int) (l9:List S91) (l10 l11:List Int) (l12:List S64)
/-- A rule's times rise, and are of the window. -/
theorem times_up (lo hi:Int) (hr:1≤r1) (hs:0≤s0∧s0≤253402300799):(timesIn r0 r1 r2 r3 l7 l8 l9 s0 lo hi).Pairwise (· < ·)∧∀ t,t∈timesIn r0 r1 r2 r3 l7 l8 l9 s0 lo hi→lo≤t∧t < hi:=by
 have hstep:1≤(if r0=1 then r1 else 1):=by split <;> omega
 have hsub:=ahead_sub r2 r3 s0 hi (daysTo r0 r1 r2 r3 l7 l8 l9 s0 hi) 0
 have hdays:(daysTo r0 r1 r2 r3 l7 l8 l9 s0 hi).Pairwise (· < ·):=(span_up _ _ hstep _ _).filter _
 have hb:∀ d,d∈daysTo r0 r1 r2 r3 l7 l8 l9 s0 hi→Expand.exTime s0 d=d * 86400 + s0 % 86400:=fun d hd=>by
  have:=span_mem _ _ (by omega) _ _ _ (List.mem_filter.1 hd).1
  exact time_eq (by omega) (by omega)
 unfold timesIn
 refine ⟨?_,fun t ht=>?_⟩
 ·rw [List.pairwise_map]
  have h1:((Times.ahead r2 r3 s0 hi 0 (daysTo r0 r1 r2 r3 l7 l8 l9 s0 hi)).filter fun d=>decide (Expand.exTime s0 d ≥ lo)).Sublist (daysTo r0 r1 r2 r3 l7 l8 l9 s0 hi):=(List.filter_sublist).trans hsub
  refine (hdays.sublist h1).imp_of_mem (fun {a b} ha hb' h=>?_)
  rw [hb a (h1.subset ha),hb b (h1.subset hb')]
  omega
 ·obtain ⟨d,hd,rfl⟩:=List.mem_map.1 ht
  obtain ⟨hd,hlo⟩:=List.mem_filter.1 hd
  exact ⟨by simpa using hlo,ahead_lt r2 r3 s0 hi _ 0 d hd⟩
end
end Go.Proofs.YtkgkblmeafhkfaaGreat.Org

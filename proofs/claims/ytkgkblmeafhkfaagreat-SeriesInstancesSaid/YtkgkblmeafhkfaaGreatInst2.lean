/- The instances of a series in a window: the program's and the document's are the same. -/
import Derived.Test.YtkgkblmeafhkfaaGreatInsts
import Derived.Test.YtkgkblmeafhkfaaGreatOrgs
import Derived.Test.YtkgkblmeafhkfaaGreatPHx28
import Derived.Test.YtkgkblmeafhkfaaGreatPHx29
set_option linter.unusedVariables false
set_option linter.unnecessarySimpa false
namespace Go.Proofs.YtkgkblmeafhkfaaGreat.Inst2
open Go.RowKit Go.Proofs.YtkgkblmeafhkfaaGreatW.PrintWords Go.Proofs.YtkgkblmeafhkfaaGreatW.PrintLast Go.Proofs.YtkgkblmeafhkfaaGreatW.PrintMore Go.Proofs.YtkgkblmeafhkfaaGreat.PH Go.Proofs.YtkgkblmeafhkfaaGreat.Cal Go.Proofs.YtkgkblmeafhkfaaGreat.Base Go.Proofs.YtkgkblmeafhkfaaGreat.Match Go.Proofs.YtkgkblmeafhkfaaGreat.Times Go.Proofs.YtkgkblmeafhkfaaGreat.Agree Go.Proofs.YtkgkblmeafhkfaaGreat.Rule Go.Proofs.YtkgkblmeafhkfaaGreat.Exp Go.Proofs.YtkgkblmeafhkfaaGreat.Ser Go.Proofs.YtkgkblmeafhkfaaGreat.Org Go.Proofs.YtkgkblmeafhkfaaGreat.Orgs Go.Proofs.YtkgkblmeafhkfaaGreat.Insts
/-- An instance as the document's. -/
def ci (x:S55):S58:=⟨x.f0,x.f1,x.f2,x.f3⟩
abbrev lt:=series_Instance_43.lt
theorem lt_no (x y:S55):lt x y=false ↔ ¬(x.f1 < y.f1∨(x.f1=y.f1∧x.f0 < y.f0)):=by rw [Bool.eq_false_iff];simp [lt,series_Instance_43.lt]
theorem lt_yes (x y:S55):lt x y=true ↔ (x.f1 < y.f1∨(x.f1=y.f1∧x.f0 < y.f0)):=by simp [lt,series_Instance_43.lt]
theorem swo:Sort.SWO lt:=⟨fun x=>by rw [lt_no];omega,fun x y z h1 h2=>by rw [lt_yes] at *;omega,fun x y z h1 h2=>by rw [lt_no] at *;omega⟩
theorem rd_a (q t:List S58) (a:S58):rd_T58 (q ++ a :: t) ((q.length:Nat):Int)=a:=by simp [rd_T58]
theorem set_ab (q t:List S58) (a b:S58):((q ++ a :: b :: t).set q.length b).set (q.length + 1) a=q ++ b :: a :: t:=by
 induction q with
 | nil=>rfl
 | cons x q ih=>simpa using ih
section
variable (s0 s1:Int) (s2:Bool) (r0 r1 r2 r3:Int) (l7 l8:List Int) (l9:List S92) (l10 l11:List Int) (l12:List S64) (lo hi e:Int) (os:List Int)
theorem one_loop (t:Int) (hn:l12.length≤300):∀ (suf:List S64) (i:Nat),l12.drop i=suf→Ev (fun k=>pr23_one.l0 k t (i:Int) s0 s1 s2 r0 r1 r2 r3 l7 l8 l9 l10 l11 (l12.map cc))
  (match suf.find? fun c=>c.f0 == t with
   | some c=>(t,c.f1,wrap64 (c.f1 + c.f2),true,!c.f3)
   | none=>(t,t,wrap64 (t + s1),false,true)):=by
 have hlen:((l12.map cc).length:Int)=(l12.length:Int):=by rw [List.length_map]
 intro suf
 induction suf with
 | nil =>
  intro i hd
  have:=drop_nil hd
  refine Ev.step (f:=fun _=>some (t,t,wrap64 (t + s1),false,true)) (fun k=>?_) (Ev.now _)
  simp only [pr23_one.l0,hlen]
  rw [if_neg (by omega)]
 | cons o suf ih =>
  intro i hd
  obtain ⟨hi',-,hd'⟩:=get_drop (d:=z64) hd
  have hw:=wrapS hi' (by omega)
  have hc:=cc_drop hd hi'
  have e0:(cc o).f0=o.f0:=rfl
  have e1:(cc o).f1=o.f1:=rfl
  have e2:(cc o).f2=o.f2:=rfl
  have e3:(cc o).f3=o.f3:=rfl
  by_cases c:o.f0=t
  ·rw [List.find?_cons_of_pos (by simpa using c)]
   refine Ev.step (f:=fun _=>some (t,o.f1,wrap64 (o.f1 + o.f2),true,!o.f3)) (fun k=>?_) (Ev.now _)
   simp only [pr23_one.l0,hlen,hc,e0,e1,e2,e3]
   rw [if_pos (by omega),if_pos (by omega),if_pos c]
  ·rw [List.find?_cons_of_neg (by simpa using c)]
   refine Ev.step (fun k=>?_) (ih (i + 1) hd')
   simp only [pr23_one.l0,hlen,hc,e0,e1,e2,e3]
   rw [if_pos (by omega),if_pos (by omega),if_neg c,hw]
theorem one_ev (t:Int) (hn:l12.length≤300):Ev (fun k=>pr23_one.f k s0 s1 s2 r0 r1 r2 r3 l7 l8 l9 l10 l11 (l12.map cc) t) (instOf s1 l12 t):=by
 unfold pr23_one.f instOf changeOf
 exact one_loop s0 s1 s2 r0 r1 r2 r3 l7 l8 l9 l10 l11 l12 t hn l12 0 rfl
/-- A new one finds its place. -/
theorem bubble (m12:List S69) (x13:Int) (r:List S58×Int) (x:S55):∀ (n:Nat) (pre post:List S55),pre.length=n→(pre ++ post).Pairwise (fun a b=>lt b a=false)→(∀ p,p∈post→lt p x=false)→pre.length + post.length≤4000 →
  (∀ out:List S55,out.Perm (x :: (pre ++ post))→out.Pairwise (fun a b=>lt b a=false)→Ev (fun k=>pr23_Instances.l0 k lo hi os e (out.map ci) (wrap64 (x13 + 1)) s0 s1 s2 r0 r1 r2 r3 l7 l8 l9 l10 l11 m12) r) →
  Ev (fun k=>pr23_Instances.l1 k lo hi os e ((pre ++ x :: post).map ci) x13 (n:Int) s0 s1 s2 r0 r1 r2 r3 l7 l8 l9 l10 l11 m12) r:=by
 intro n
 induction n with
 | zero =>
  intro pre post hp hs hx hl hk
  obtain rfl:=List.eq_nil_of_length_eq_zero hp
  refine Ev.step (fun k=>?_) (hk (x :: post) (by simp) (List.pairwise_cons.2 ⟨hx,by simpa using hs⟩))
  simp only [pr23_Instances.l1]
  rw [if_neg (by omega)]
  rfl
 | succ n ih =>
  intro pre post hp hs hx hl hk
  obtain ⟨p0,y,rfl⟩:∃ p0 y,pre=p0 ++ [y]:=⟨pre.dropLast,pre.getLast (by intro h;subst h;cases hp),(List.dropLast_concat_getLast _).symm⟩
  have hp0:p0.length=n:=by simpa using hp
  have hmap:((p0 ++ [y]) ++ x :: post).map ci=p0.map ci ++ ci y :: ci x :: post.map ci:=by simp
  have hq:(p0.map ci).length=n:=by simpa using hp0
  have hlen:(((p0.map ci ++ ci y :: ci x :: post.map ci).length:Nat):Int)=((n + 2 + post.length:Nat):Int):=by simp;omega
  have w1:wrap64 (((n + 1:Nat):Int) - 1)=(n:Int):=by unfold wrap64;simp at hl;omega
  have g1:rd_T58 (p0.map ci ++ ci y :: ci x :: post.map ci) (n:Int)=ci y:=by
   have:=rd_a (p0.map ci) (ci x :: post.map ci) (ci y)
   rwa [hq] at this
  have g2:rd_T58 (p0.map ci ++ ci y :: ci x :: post.map ci) ((n + 1:Nat):Int)=ci x:=by
   have:=rd_a (p0.map ci ++ [ci y]) (post.map ci) (ci x)
   simpa [hq] using this
  have g3:((p0.map ci ++ ci y :: ci x :: post.map ci).set n (ci x)).set (n + 1) (ci y)=(p0 ++ x :: y :: post).map ci:=by
   have:=set_ab (p0.map ci) (post.map ci) (ci y) (ci x)
   rw [hq] at this
   rw [this];simp
  have f0:∀ z:S55,(⟨(ci z).f0,(ci z).f1,(ci z).f2,(ci z).f3⟩:S58)=ci z:=fun z=>rfl
  have t1:((n:Int)).toNat=n:=by omega
  have t2:(((n + 1:Nat):Int)).toNat=n + 1:=by omega
  have hno:lt x y=false→Ev (fun k=>pr23_Instances.l0 k lo hi os e ((p0.map ci ++ ci y :: ci x :: post.map ci)) (wrap64 (x13 + 1)) s0 s1 s2 r0 r1 r2 r3 l7 l8 l9 l10 l11 m12) r:=by
   intro h
   rw [← hmap]
   refine hk _ List.perm_middle ?_
   rw [List.pairwise_append] at hs ⊢
   refine ⟨hs.1,List.pairwise_cons.2 ⟨hx,hs.2.1⟩,fun a ha b hb=>?_⟩
   rcases List.mem_cons.1 hb with rfl | hb
   ·rcases List.mem_append.1 ha with ha | ha
    ·have h1:=(List.pairwise_append.1 hs.1).2.2 a ha y (by simp)
     rw [lt_no] at *
     omega
    ·obtain rfl:=List.mem_singleton.1 ha
     exact h
   ·exact hs.2.2 a ha b hb
  have hyes:lt x y=true→Ev (fun k=>pr23_Instances.l1 k lo hi os e ((p0 ++ x :: y :: post).map ci) x13 (n:Int) s0 s1 s2 r0 r1 r2 r3 l7 l8 l9 l10 l11 m12) r:=by
   intro h
   refine ih p0 (y :: post) hp0 (by simpa using hs) (fun p hp=>?_) (by simp at hl ⊢;omega) (fun out ho hs'=>hk out (by simpa using ho) hs')
   rcases List.mem_cons.1 hp with rfl | hp
   ·rw [lt_yes] at h;rw [lt_no];omega
   ·exact hx p hp
  rw [hmap]
  refine Ev.step (f:=fun k=>if y.f1 > x.f1 then pr23_Instances.l1 k lo hi os e ((p0 ++ x :: y :: post).map ci) x13 (n:Int) s0 s1 s2 r0 r1 r2 r3 l7 l8 l9 l10 l11 m12 else if y.f1=x.f1 then (if y.f0 > x.f0 then pr23_Instances.l1 k lo hi os e ((p0 ++ x :: y :: post).map ci) x13 (n:Int) s0 s1 s2 r0 r1 r2 r3 l7 l8 l9 l10 l11 m12 else pr23_Instances.l0 k lo hi os e ((p0.map ci ++ ci y :: ci x :: post.map ci)) (wrap64 (x13 + 1)) s0 s1 s2 r0 r1 r2 r3 l7 l8 l9 l10 l11 m12) else pr23_Instances.l0 k lo hi os e ((p0.map ci ++ ci y :: ci x :: post.map ci)) (wrap64 (x13 + 1)) s0 s1 s2 r0 r1 r2 r3 l7 l8 l9 l10 l11 m12) (fun k=>?_) ?_
  ·simp only [pr23_Instances.l1,w1,g1,g2,hlen,f0,t1,t2,g3]
   rw [if_pos (by omega),if_pos (by omega),if_pos (by omega),if_pos (by omega),if_pos (by omega)]
   rfl
  ·by_cases c1:y.f1 > x.f1
   ·simp only [if_pos c1]
    exact hyes ((lt_yes _ _).2 (.inl c1))
   ·simp only [if_neg c1]
    by_cases c2:y.f1=x.f1
    ·simp only [if_pos c2]
     by_cases c3:y.f0 > x.f0
     ·simp only [if_pos c3]
      exact hyes ((lt_yes _ _).2 (.inr ⟨c2.symm,c3⟩))
     ·simp only [if_neg c3]
      exact hno ((lt_no _ _).2 (by omega))
    ·simp only [if_neg c2]
     exact hno ((lt_no _ _).2 (by omega))
/-- An instance does not end ahead of its start. -/
def fine (t:Int):Prop:=(instOf s1 l12 t).2.1≤(instOf s1 l12 t).2.2.1
theorem ref_loop (hn:l12.length≤300) (hup:os.Pairwise (· < ·)) (hos:os.length≤3000) (hf:∀ t,t∈os→fine s1 l12 t):∀ (suf:List Int) (i:Nat) (acc A:List S55),os.drop i=suf→acc.Pairwise (fun a b=>lt b a=false)→acc.Perm A→A ++ suf.filterMap (keep s1 l12 lo hi)=os.filterMap (keep s1 l12 lo hi)→A.length≤i →
  Ev (fun k=>pr23_Instances.l0 k lo hi os e (acc.map ci) (i:Int) s0 s1 s2 r0 r1 r2 r3 l7 l8 l9 l10 l11 (l12.map cc)) ((Sort.isort lt (os.filterMap (keep s1 l12 lo hi))).map ci,e):=by
 intro suf
 induction suf with
 | nil =>
  intro i acc A hd hs hp ha hl
  have:=drop_nil hd
  rw [List.filterMap_nil,List.append_nil] at ha
  subst ha
  have hap:((os.filterMap (keep s1 l12 lo hi)).map (·.f0)).Pairwise (·≠·):=(hup.sublist (keep_sub s1 l12 lo hi os)).imp (fun h e=>by omega)
  have hu:acc=Sort.isort lt (os.filterMap (keep s1 l12 lo hi)):=Sort.isort_unique swo hp hs (fun a b ha hb h1 h2=>by
   rw [lt_no] at h1 h2
   exact Sort.same_of_apart (List.pairwise_map.1 hap) ha hb (by omega))
  rw [← hu]
  refine Ev.step (f:=fun _=>some (acc.map ci,e)) (fun k=>?_) (Ev.now _)
  simp only [pr23_Instances.l0]
  rw [if_neg (by omega)]
 | cons o suf ih =>
  intro i acc A hd hs hp ha hl
  obtain ⟨hi',ho,hd'⟩:=get_drop (d:=(0:Int)) hd
  have hw:=wrapS hi' (by omega)
  have ho':rd os (i:Int)=o:=ho
  have hfo:fine s1 l12 o:=hf o (by rw [← ho];simp [hi'])
  have hal:acc.length≤i:=by rw [hp.length_eq];exact hl
  refine Ev.step (fun k=>by simp only [pr23_Instances.l0];rw [if_pos (show (i:Int) < (os.length:Int) by omega),if_pos (show (0:Int)≤(i:Int) by omega),ho']) ?_
  refine Ev.bind (one_ev s0 s1 s2 r0 r1 r2 r3 l7 l8 l9 l10 l11 l12 o hn) ?_
  have h1:=instOf_1 s1 l12 o
  rw [List.filterMap_cons] at ha
  have hlen:(acc.map ci).length=acc.length:=List.length_map _
  -- what the join does
  have hj:∀ z,z = !inWin lo hi (instOf s1 l12 o)→Ev (fun k=>pr23_Instances.j4 k lo hi os e (acc.map ci) (i:Int) z s0 s1 s2 r0 r1 r2 r3 l7 l8 l9 l10 l11 (l12.map cc) (instOf s1 l12 o).1 (instOf s1 l12 o).2.1 (instOf s1 l12 o).2.2.1 (instOf s1 l12 o).2.2.2.1) ((Sort.isort lt (os.filterMap (keep s1 l12 lo hi))).map ci,e):=by
   intro z hz
   cases hin:inWin lo hi (instOf s1 l12 o) with
   | false =>
    rw [hin] at hz
    subst hz
    have hk:keep s1 l12 lo hi o=none:=by unfold keep;rw [hin];rfl
    rw [hk] at ha
    refine Ev.step (fun k=>?_) (ih (i + 1) acc A hd' hs hp ha (by omega))
    simp only [pr23_Instances.j4,Bool.not_false,if_true,hw]
   | true =>
    rw [hin] at hz
    subst hz
    have hk:keep s1 l12 lo hi o=some (⟨(instOf s1 l12 o).1,(instOf s1 l12 o).2.1,(instOf s1 l12 o).2.2.1,(instOf s1 l12 o).2.2.2.1⟩:S55):=by unfold keep;rw [hin];rfl
    rw [hk] at ha
    have hb:=bubble s0 s1 s2 r0 r1 r2 r3 l7 l8 l9 l10 l11 lo hi e os (l12.map cc) (i:Int) ((Sort.isort lt (os.filterMap (keep s1 l12 lo hi))).map ci,e) (⟨(instOf s1 l12 o).1,(instOf s1 l12 o).2.1,(instOf s1 l12 o).2.2.1,(instOf s1 l12 o).2.2.2.1⟩:S55) acc.length acc [] rfl (by simpa using hs) (by simp) (by simp;omega)
     (fun out hpo hso=>by
      rw [hw]
      refine ih (i + 1) out (A ++ [⟨(instOf s1 l12 o).1,(instOf s1 l12 o).2.1,(instOf s1 l12 o).2.2.1,(instOf s1 l12 o).2.2.2.1⟩]) hd' hso ?_ (by rw [← ha];simp) (by simp;omega)
      rw [List.append_nil] at hpo
      exact hpo.trans ((List.Perm.cons _ hp).trans (List.perm_append_singleton _ _).symm))
    refine Ev.step (fun k=>?_) hb
    simp only [pr23_Instances.j4,Bool.not_true,Bool.false_eq_true,if_false,hlen]
    rw [if_pos (by omega),List.map_append]
    rfl
  unfold fine at hfo
  generalize instOf s1 l12 o=p at hj hfo ⊢
  unfold inWin at hj
  by_cases c1:p.2.2.2.2=true
  ·simp only [if_pos c1]
   by_cases c2:p.2.1 ≥ hi
   ·simp only [if_pos c2]
    exact hj _ (by rw [decide_eq_false (show ¬p.2.1 < hi by omega)];simp)
   ·simp only [if_neg c2]
    have d2:decide (p.2.1 < hi)=true:=decide_eq_true (by omega)
    by_cases c3:p.2.2.1 < lo
    ·simp only [if_pos c3]
     refine hj _ ?_
     rw [c1,d2,decide_eq_false (show ¬p.2.2.1 > lo by omega)]
     by_cases c5:p.2.1=p.2.2.1
     ·rw [decide_eq_false (show ¬p.2.1 ≥ lo by omega)];simp
     ·simp [c5]
    ·simp only [if_neg c3]
     by_cases c4:p.2.2.1=lo
     ·simp only [if_pos c4]
      refine hj _ ?_
      rw [c1,d2,decide_eq_false (show ¬p.2.2.1 > lo by omega)]
      by_cases c5:p.2.1=p.2.2.1
      ·rw [decide_eq_false (show ¬p.2.1 < lo by omega),decide_eq_true (show p.2.1 ≥ lo by omega)]
       simp [c5]
      ·rw [decide_eq_true (show p.2.1 < lo by omega)]
       simp [c5]
     ·simp only [if_neg c4]
      exact hj _ (by rw [c1,d2,decide_eq_true (show p.2.2.1 > lo by omega)];simp)
  ·simp only [if_neg c1]
   exact hj _ (by simp [c1])
end
section
variable (s0 s1:Int) (s2:Bool) (r0 r1 r2 r3:Int) (l7 l8:List Int) (l9:List S91) (l10 l11:List Int) (l12:List S64)
/-- What a series says of a window, or that it is too great. -/
noncomputable def says (lo hi:Int):List Int×Int:=if hi - s0 > 631152000 then ([],1) else said s0 s2 r0 r1 r2 r3 l7 l8 l9 l10 l11 lo hi
theorem days_few (ok:okSeries s0 s1 s2 r0 r1 r2 r3 l7 l8 l9 l10 l11 l12) (h7:l7.length≤100) (h8:l8.length≤100) (h9:l9.length≤100):s2=true→l9.length≤77:=fun c=>rule_few r0 r1 r2 r3 l7 l8 l9 (by omega) (by omega) (by omega) (ok.rule c)
theorem says_ev (ok:okSeries s0 s1 s2 r0 r1 r2 r3 l7 l8 l9 l10 l11 l12) (hr:Ev (fun k=>series_Right.f k s0 s1 s2 r0 r1 r2 r3 l7 l8 l9 l10 l11 l12) true) (h7:l7.length≤100) (h8:l8.length≤100) (h9:l9.length≤100) (lo hi:Int) (hlo:0≤lo∧lo≤253402300799) (hhi:0≤hi∧hi≤253402300799) :
  Ev (fun k=>series_Originals.f k s0 s1 s2 r0 r1 r2 r3 l7 l8 l9 l10 l11 l12 lo hi) (says s0 s2 r0 r1 r2 r3 l7 l8 l9 l10 l11 lo hi):=by
 unfold series_Originals.f says
 refine Ev.bind hr ?_
 have d1:decide (0≤lo∧lo≤253402300799)=true:=decide_eq_true hlo
 have d2:decide (0≤hi∧hi≤253402300799)=true:=decide_eq_true hhi
 simp only [when_f,Option.bind_some,if_true,d1,d2,Bool.not_true]
 have ew:wrap64 (hi - s0)=hi - s0:=by have:=ok.start;unfold wrap64;omega
 refine Ev.step (f:=fun k=>if hi - s0 > 631152000 then some ([],1) else (series_Series_originals.f k s0 s1 s2 r0 r1 r2 r3 l7 l8 l9 l10 l11 l12 lo hi).bind fun bt=>some (bt.1,bt.2)) (fun k=>?_) ?_
 ·simp only [series_Originals.j0,Bool.false_eq_true,if_false,ew]
 ·by_cases c:hi - s0 > 631152000
  ·simp only [if_pos c]
   exact Ev.now _
  ·simp only [if_neg c]
   exact Ev.bind (originals_ev s0 s1 s2 r0 r1 r2 r3 l7 l8 l9 l10 l11 l12 ok h7 h8 (days_few s0 s1 s2 r0 r1 r2 r3 l7 l8 l9 l10 l11 l12 ok h7 h8 h9) lo hi hlo hhi (by omega)) (Ev.now _)
theorem says_bad {lo hi:Int} (h:(says s0 s2 r0 r1 r2 r3 l7 l8 l9 l10 l11 lo hi).2≠0):(says s0 s2 r0 r1 r2 r3 l7 l8 l9 l10 l11 lo hi).1 = []:=by
 unfold says said at *
 split
 ·rfl
 ·rename_i c
  rw [if_neg c] at h
  split
  ·rfl
  ·rename_i c2
   rw [if_neg c2] at h
   exact absurd rfl h
/-- The originals are times, rise, and are not too many. -/
theorem says_ok (ok:okSeries s0 s1 s2 r0 r1 r2 r3 l7 l8 l9 l10 l11 l12) (hs:Short l7 l8 l9 l10 l11 l12) (h7:l7.length≤100) (h8:l8.length≤100) (h9:l9.length≤100) (lo hi:Int) (hlo:0≤lo∧lo≤253402300799) (hhi:0≤hi∧hi≤253402300799)
  (hr:Ev (fun k=>series_Right.f k s0 s1 s2 r0 r1 r2 r3 l7 l8 l9 l10 l11 l12) true) (h:(says s0 s2 r0 r1 r2 r3 l7 l8 l9 l10 l11 lo hi).2=0) :
  (says s0 s2 r0 r1 r2 r3 l7 l8 l9 l10 l11 lo hi).1.Pairwise (· < ·)∧(says s0 s2 r0 r1 r2 r3 l7 l8 l9 l10 l11 lo hi).1.length≤2000∧∀ x,x∈(says s0 s2 r0 r1 r2 r3 l7 l8 l9 l10 l11 lo hi).1→0≤x∧x≤253402300799:=by
 obtain ⟨p,hp,-,q⟩:=toriginals_fin s0 s1 s2 r0 r1 r2 r3 l7 l8 l9 l10 l11 l12 hs ok hr lo hi hlo hhi
 obtain rfl:=ev_one hp (says_ev s0 s1 s2 r0 r1 r2 r3 l7 l8 l9 l10 l11 l12 ok hr h7 h8 h9 lo hi hlo hhi)
 obtain ⟨qw,qe,ql⟩:=q h
 have sp:=origs_spec s0 s2 r0 r1 r2 r3 l7 l8 l9 l10 l11 lo hi
 refine ⟨by rw [qe];exact sp.1,ql,fun x hx=>?_⟩
 rw [qe] at hx
 have hx:=((sp.2 x).1 hx).1
 have hm:s2=true→(most s0 r0 r1 r2 r3 l7 l8 l9 lo hi).length≠1000:=by
  intro c e
  unfold says at h
  rw [if_neg (by omega)] at h
  unfold said at h
  rw [if_pos ⟨c,e⟩] at h
  cases h
 unfold allTimes at hx
 rcases List.mem_append.1 hx with hx | hx
 ·unfold ruleTimes at hx
  split at hx
  ·rename_i c
   obtain ⟨m1,m2,m3⟩:=most_fin s0 r0 r1 r2 r3 l7 l8 l9 (ok.rule c) h7 h8 (days_few s0 s1 s2 r0 r1 r2 r3 l7 l8 l9 l10 l11 l12 ok h7 h8 h9 c) lo hi ok.start hlo hhi (by omega)
   have:=hm c
   rw [← m3 (by omega)] at hx
   exact m2 x hx
  ·cases hx
 ·rcases List.mem_cons.1 (List.mem_filter.1 hx).1 with rfl | hx
  ·exact ok.start
  ·exact ok.more.bd x hx
theorem fine_ok (ok:okSeries s0 s1 s2 r0 r1 r2 r3 l7 l8 l9 l10 l11 l12) {t:Int} (ht:0≤t∧t≤253402300799):fine s1 l12 t:=by
 unfold fine instOf
 split
 ·rename_i c hc
  have h:=ok.changes c (changeOf_some hc).1
  show c.f1≤wrap64 (c.f1 + c.f2)
  cases hf:c.f3 with
  | true =>
   obtain ⟨a,b⟩:=h.1 hf
   rw [wrapI (by omega) (by omega)];omega
  | false =>
   obtain ⟨a,b⟩:=h.2 hf
   rw [wrapI (by omega) (by omega)];omega
 ·have:=ok.long
  show t≤wrap64 (t + s1)
  rw [wrapI (by omega) (by omega)];omega
/-- Two windows' ends. -/
abbrev loOf (fr:Int):Int:=mx (wrap64 (fr - 2592000)) 0
abbrev hiOf (till:Int):Int:=mn (wrap64 (till + 2592000)) 253402300799
theorem ref_j0 (m9:List S92) (m12:List S69) (fr till:Int) (r:List S58×Int) (h:Ev (fun k=>pr23_Instances.j2 k fr till (loOf fr) (hiOf till) s0 s1 s2 r0 r1 r2 r3 l7 l8 m9 l10 l11 m12) r):Ev (fun k=>pr23_Instances.j0 k fr till false s0 s1 s2 r0 r1 r2 r3 l7 l8 m9 l10 l11 m12) r:=by
 refine Ev.step (f:=fun k=>pr23_Instances.j1 k fr till (loOf fr) (wrap64 (till + 2592000)) s0 s1 s2 r0 r1 r2 r3 l7 l8 m9 l10 l11 m12) (fun k=>?_) ?_
 ·simp only [pr23_Instances.j0,Bool.false_eq_true,if_false,loOf,mx]
  split <;> rfl
 ·refine Ev.step (fun k=>?_) h
  simp only [pr23_Instances.j1,hiOf,mn]
  split <;> rfl
theorem Instances_both (hs:Short l7 l8 l9 l10 l11 l12) (h7:l7.length≤100) (h8:l8.length≤100) (h9:l9.length≤100) (h10:l10.length≤300) (h11:l11.length≤300) (h12:l12.length≤300) (fr till:Int) :
  ∃ p:List S55×Int,Ev (fun k=>series_Instances.f k s0 s1 s2 r0 r1 r2 r3 l7 l8 l9 l10 l11 l12 fr till) p∧Ev (fun k=>pr23_Instances.f k s0 s1 s2 r0 r1 r2 r3 l7 l8 (l9.map cv) l10 l11 (l12.map cc) fr till) (p.1.map ci,p.2)∧p.1.length≤3000∧(p.2≠0→p.1 = []):=by
 obtain ⟨b,b1,b2⟩:=sright_both s0 s1 s2 r0 r1 r2 r3 l7 l8 l9 l10 l11 l12 h7 h8 h9 h10 h11 h12
 obtain ⟨b',hb',hok⟩:=sright_fin s0 s1 s2 r0 r1 r2 r3 l7 l8 l9 l10 l11 l12 hs
 obtain rfl:=ev_one hb' b1
 have jt:Ev (fun k=>series_Instances.j0 k fr till true s0 s1 s2 r0 r1 r2 r3 l7 l8 l9 l10 l11 l12) (([],110):List S55×Int):=Ev.step (f:=fun _=>some ([],110)) (fun k=>by simp only [series_Instances.j0];rfl) (Ev.now _)
 have dt:Ev (fun k=>pr23_Instances.j0 k fr till true s0 s1 s2 r0 r1 r2 r3 l7 l8 (l9.map cv) l10 l11 (l12.map cc)) (([],110):List S58×Int):=Ev.step (f:=fun _=>some ([],110)) (fun k=>by simp only [pr23_Instances.j0];rfl) (Ev.now _)
 unfold series_Instances.f pr23_Instances.f
 cases b' with
 | false =>
  refine ⟨([],3),Ev.bind b1 ?_,Ev.bind b2 ?_,Nat.zero_le _,fun _=>rfl⟩
  ·simp only [Bool.false_eq_true,if_false]
   refine Ev.step (fun k=>by simp only [series_Instances.j0,Bool.false_eq_true,if_false];rfl) ?_
   refine Ev.bind b1 ?_
   simp only [Bool.false_eq_true,if_false]
   exact Ev.now _
  ·simp only [Bool.false_eq_true,if_false]
   exact Ev.now _
 | true =>
  have ok:=hok rfl
  by_cases c1:0≤fr∧fr≤253402300799
  ·by_cases c2:0≤till∧till≤253402300799
   ·have d1:decide (0≤fr∧fr≤253402300799)=true:=decide_eq_true c1
    have d2:decide (0≤till∧till≤253402300799)=true:=decide_eq_true c2
    have hlo:=lo_bd fr c1.1 c1.2
    have hhi:=hi_bd till c2.1 c2.2
    have o1:=says_ev s0 s1 s2 r0 r1 r2 r3 l7 l8 l9 l10 l11 l12 ok b1 h7 h8 h9 (loOf fr) (hiOf till) hlo hhi
    obtain ⟨o,oa,o2⟩:=Originals_both s0 s1 s2 r0 r1 r2 r3 l7 l8 l9 l10 l11 l12 hs h7 h8 h9 h10 h11 h12 (loOf fr) (hiOf till)
    obtain rfl:=ev_one oa o1
    clear oa
    have bad:=says_bad s0 s2 r0 r1 r2 r3 l7 l8 l9 l10 l11 (lo:=loOf fr) (hi:=hiOf till)
    have good:=says_ok s0 s1 s2 r0 r1 r2 r3 l7 l8 l9 l10 l11 l12 ok hs h7 h8 h9 (loOf fr) (hiOf till) hlo hhi b1
    generalize says s0 s2 r0 r1 r2 r3 l7 l8 l9 l10 l11 (loOf fr) (hiOf till)=v at o1 o2 bad good
    obtain ⟨os,e⟩:=v
    simp only at bad good
    -- both,up to the originals
    have pj:∀ q,Ev (fun k=>if e=0 then series_Instances.l0 k fr till [] os (os.length:Int) 0 s0 s1 s2 r0 r1 r2 r3 l7 l8 l9 l10 l11 l12 else some ([],e)) q→Ev (fun k=>series_Instances.j0 k fr till false s0 s1 s2 r0 r1 r2 r3 l7 l8 l9 l10 l11 l12) q:=by
     intro q hq
     refine Ev.step (fun k=>by simp only [series_Instances.j0,Bool.false_eq_true,if_false];rfl) ?_
     refine Ev.bind b1 ?_
     simp only [if_true]
     exact Ev.bind o1 hq
    have dj:∀ q,Ev (fun k=>pr23_Instances.l0 k fr till os e ([]:List S58) 0 s0 s1 s2 r0 r1 r2 r3 l7 l8 (l9.map cv) l10 l11 (l12.map cc)) q→Ev (fun k=>pr23_Instances.j0 k fr till false s0 s1 s2 r0 r1 r2 r3 l7 l8 (l9.map cv) l10 l11 (l12.map cc)) q:=by
     intro q hq
     refine ref_j0 s0 s1 s2 r0 r1 r2 r3 l7 l8 l10 l11 (l9.map cv) (l12.map cc) fr till q ?_
     refine Ev.step (fun k=>by simp only [pr23_Instances.j2];rfl) ?_
     exact Ev.bind o2 hq
    by_cases he:e=0
    ·subst he
     obtain ⟨up,few,bd⟩:=good rfl
     have hn:l12.length≤256:=by have:=ok.origs.few;rwa [List.length_map] at this
     refine ⟨(Sort.isort lt (os.filterMap (keep s1 l12 fr till)),0),Ev.bind b1 ?_,Ev.bind b2 ?_,?_,fun h=>absurd rfl h⟩
     ·simp only [if_true,when_f,Option.bind_some,d1,d2,Bool.not_true]
      refine pj _ ?_
      simp only [if_true]
      exact list_loop s0 s1 s2 r0 r1 r2 r3 l7 l8 l9 l10 l11 l12 fr till hn ok.origs.up os (by omega) up os 0 [] rfl rfl (Nat.le_refl _)
     ·simp only [if_true,time12,Option.bind_some,d1,d2,Bool.not_true]
      refine dj _ ?_
      exact ref_loop s0 s1 s2 r0 r1 r2 r3 l7 l8 (l9.map cv) l10 l11 l12 fr till 0 os h12 up (by omega) (fun t ht=>fine_ok s0 s1 s2 r0 r1 r2 r3 l7 l8 l9 l10 l11 l12 ok (bd t ht)) os 0 [] [] rfl List.Pairwise.nil (List.Perm.refl _) rfl (Nat.le_refl _)
     ·have e1:=(Sort.isort_perm lt (os.filterMap (keep s1 l12 fr till))).length_eq
      have e2:=List.length_filterMap_le (keep s1 l12 fr till) os
      show (Sort.isort lt (os.filterMap (keep s1 l12 fr till))).length≤3000
      omega
    ·obtain rfl:=bad he
     refine ⟨([],e),Ev.bind b1 ?_,Ev.bind b2 ?_,Nat.zero_le _,fun _=>rfl⟩
     ·simp only [if_true,when_f,Option.bind_some,d1,d2,Bool.not_true]
      refine pj _ ?_
      simp only [if_neg he]
      exact Ev.now _
     ·simp only [if_true,time12,Option.bind_some,d1,d2,Bool.not_true]
      refine dj _ ?_
      refine Ev.step (f:=fun _=>some ([],e)) (fun k=>?_) (Ev.now _)
      simp only [pr23_Instances.l0]
      rfl
   ·have d1:decide (0≤fr∧fr≤253402300799)=true:=decide_eq_true c1
    have d2:decide (0≤till∧till≤253402300799)=false:=decide_eq_false c2
    refine ⟨([],110),Ev.bind b1 ?_,Ev.bind b2 ?_,Nat.zero_le _,fun _=>rfl⟩
    ·simp only [if_true,when_f,Option.bind_some,d1,d2,Bool.not_false]
     exact jt
    ·simp only [if_true,time12,Option.bind_some,d1,d2,Bool.not_false]
     exact dt
  ·have d1:decide (0≤fr∧fr≤253402300799)=false:=decide_eq_false c1
   refine ⟨([],110),Ev.bind b1 ?_,Ev.bind b2 ?_,Nat.zero_le _,fun _=>rfl⟩
   ·simp only [if_true,when_f,Option.bind_some,d1,Bool.false_eq_true,if_false]
    exact jt
   ·simp only [if_true,time12,Option.bind_some,d1,Bool.false_eq_true,if_false]
    exact dt
/-- The next one behind a time. -/
theorem Next_both (hs:Short l7 l8 l9 l10 l11 l12) (h7:l7.length≤100) (h8:l8.length≤100) (h9:l9.length≤100) (h10:l10.length≤300) (h11:l11.length≤300) (h12:l12.length≤300) (t:Int) :
  Both (fun k=>series_Next.f k s0 s1 s2 r0 r1 r2 r3 l7 l8 l9 l10 l11 l12 t) (fun k=>pr23_Next.f k s0 s1 s2 r0 r1 r2 r3 l7 l8 (l9.map cv) l10 l11 (l12.map cc) t):=by
 obtain ⟨b,b1,b2⟩:=sright_both s0 s1 s2 r0 r1 r2 r3 l7 l8 l9 l10 l11 l12 h7 h8 h9 h10 h11 h12
 unfold series_Next.f pr23_Next.f
 refine both_lb b1 (both_rb b2 ?_)
 cases b with
 | false =>
  simp only [Bool.false_eq_true,if_false]
  exact both_now _
 | true =>
  simp only [if_true,when_f,time12,Option.bind_some]
  by_cases c:decide (0≤t∧t≤253402300799)=true
  ·simp only [if_pos c]
   obtain ⟨⟨l,e⟩,p1,p2,p3,p4⟩:=Instances_both s0 s1 s2 r0 r1 r2 r3 l7 l8 l9 l10 l11 l12 hs h7 h8 h9 h10 h11 h12 t (mn (wrap64 (t + 31622400)) 253402300799)
   simp only at p2 p3 p4
   -- what both say of the list
   have tail:Both (fun _=>(if e=0 then (if (l.length:Int)=0 then some (0,0,0,false,false,e) else (if 0 < (l.length:Int) then some ((rd_T55 l 0).f0,(rd_T55 l 0).f1,(rd_T55 l 0).f2,(rd_T55 l 0).f3,true,0) else none)) else some (0,0,0,false,false,e):Option (Int×Int×Int×Bool×Bool×Int)))
     (fun _=>(if ((l.map ci).length:Int)=0 then some (0,0,0,false,false,e) else (if 0 < ((l.map ci).length:Int) then some ((rd_T58 (l.map ci) 0).f0,(rd_T58 (l.map ci) 0).f1,(rd_T58 (l.map ci) 0).f2,(rd_T58 (l.map ci) 0).f3,true,e) else none):Option (Int×Int×Int×Bool×Bool×Int))):=by
    cases l with
    | nil =>
     refine ⟨(0,0,0,false,false,e),?_,?_⟩
     ·simp only [List.length_nil]
      by_cases he:e=0
      ·simp only [if_pos he];exact Ev.now _
      ·simp only [if_neg he];exact Ev.now _
     ·exact Ev.now _
    | cons x l =>
     have he:e=0:=Decidable.byContradiction fun h=>by cases p4 h
     subst he
     have g:rd_T55 (x :: l) 0=x:=rfl
     have g':rd_T58 ((x :: l).map ci) 0=ci x:=rfl
     refine ⟨(x.f0,x.f1,x.f2,x.f3,true,0),?_,?_⟩
     ·simp only [if_true,g]
      rw [if_neg (by simp only [List.length_cons];omega),if_pos (by simp only [List.length_cons];omega)]
      exact Ev.now _
     ·simp only [g']
      rw [if_neg (by simp only [List.length_map,List.length_cons];omega),if_pos (by simp only [List.length_map,List.length_cons];omega)]
      exact Ev.now _
   refine both_lb p1 ?_
   by_cases c3:wrap64 (t + 31622400) > 253402300799
   ·simp only [if_pos c3]
    have e3:mn (wrap64 (t + 31622400)) 253402300799=253402300799:=by unfold mn;rw [if_pos c3]
    rw [e3] at p2
    exact both_rb p2 tail
   ·simp only [if_neg c3]
    have e3:mn (wrap64 (t + 31622400)) 253402300799=wrap64 (t + 31622400):=by unfold mn;rw [if_neg c3]
    rw [e3] at p2
    exact both_rb p2 tail
  ·simp only [if_neg c]
   exact both_now _
end
end Go.Proofs.YtkgkblmeafhkfaaGreat.Inst2

/- A series' originals in a window: the program's and the document's are the same. -/
import Derived.Test.YtkgkblmeafhkfaaGreatOrg
set_option linter.unusedVariables false
namespace Go.Proofs.YtkgkblmeafhkfaaGreat.Orgs
open Go.RowKit Go.Proofs.YtkgkblmeafhkfaaGreatW.PrintWords Go.Proofs.YtkgkblmeafhkfaaGreatW.PrintLast Go.Proofs.YtkgkblmeafhkfaaGreatW.PrintMore Go.Proofs.YtkgkblmeafhkfaaGreat.PH Go.Proofs.YtkgkblmeafhkfaaGreat.Cal Go.Proofs.YtkgkblmeafhkfaaGreat.Base Go.Proofs.YtkgkblmeafhkfaaGreat.Match Go.Proofs.YtkgkblmeafhkfaaGreat.Times Go.Proofs.YtkgkblmeafhkfaaGreat.Agree Go.Proofs.YtkgkblmeafhkfaaGreat.Rule Go.Proofs.YtkgkblmeafhkfaaGreat.Exp Go.Proofs.YtkgkblmeafhkfaaGreat.Ser Go.Proofs.YtkgkblmeafhkfaaGreat.Org
section
variable (s0 s1:Int) (s2:Bool) (r0 r1 r2 r3:Int) (l7 l8:List Int) (l9:List S91) (l10 l11:List Int) (l12:List S64)
/-- A rule's first thousand times. -/
noncomputable def most (lo hi:Int):List Int:=Expand.exRun r2 r3 s0 lo hi 1000 0 [] (daysTo r0 r1 r2 r3 l7 l8 l9 s0 hi)
/-- What a series says of a window. -/
noncomputable def said (lo hi:Int):List Int×Int:=if s2=true∧(most s0 r0 r1 r2 r3 l7 l8 l9 lo hi).length=1000 then ([],5) else (origs s0 s2 r0 r1 r2 r3 l7 l8 l9 l10 l11 lo hi,0)
theorem most_fin (hr:Ev (fun k=>recur_Right.f k r0 r1 r2 r3 l7 l8 l9) true) (h7:l7.length≤100) (h8:l8.length≤100) (h9:l9.length≤77) (lo hi:Int) (hs:0≤s0∧s0≤253402300799) (hlo:0≤lo∧lo≤253402300799) (hhi:0≤hi∧hi≤253402300799) (hw:hi - s0≤631152000) :
  (most s0 r0 r1 r2 r3 l7 l8 l9 lo hi).length≤1000∧(∀ t,t∈most s0 r0 r1 r2 r3 l7 l8 l9 lo hi→0≤t∧t≤253402300799)∧((most s0 r0 r1 r2 r3 l7 l8 l9 lo hi).length < 1000→most s0 r0 r1 r2 r3 l7 l8 l9 lo hi=timesIn r0 r1 r2 r3 l7 l8 l9 s0 lo hi):=by
 obtain ⟨p,hp,q1,q2,q3,q4⟩:=expand_fin r0 r1 r2 r3 l7 l8 l9 s0 lo hi hr (by omega) (by omega) (by omega) hs hlo hhi hw
 have:=ev_one hp (expand_ev r0 r1 r2 r3 l7 l8 l9 s0 lo hi hr (by omega) (by omega) h9 hs hlo hhi hw)
 subst this
 exact ⟨q2,q3,q4⟩
theorem originals_ev (ok:okSeries s0 s1 s2 r0 r1 r2 r3 l7 l8 l9 l10 l11 l12) (h7:l7.length≤100) (h8:l8.length≤100) (h9:s2=true→l9.length≤77) (lo hi:Int) (hlo:0≤lo∧lo≤253402300799) (hhi:0≤hi∧hi≤253402300799) (hw:hi - s0≤631152000) :
  Ev (fun k=>series_Series_originals.f k s0 s1 s2 r0 r1 r2 r3 l7 l8 l9 l10 l11 l12 lo hi) (said s0 s2 r0 r1 r2 r3 l7 l8 l9 l10 l11 lo hi):=by
 have hm:=ok.more.few
 have tail:∀ ex:List Int,ex.length≤1000→(∀ t,t∈ex→0≤t∧t≤253402300799)→ex=ruleTimes s0 s2 r0 r1 r2 r3 l7 l8 l9 lo hi →
   series_Series_originals.tail l10 (ex ++ (s0 :: l11).filter (win lo hi))=some (origs s0 s2 r0 r1 r2 r3 l7 l8 l9 l10 l11 lo hi,0):=by
  intro ex hl hb he
  have k1:(ex ++ (s0 :: l11).filter (win lo hi)).length < 4611686018427387904:=by
   have:=List.length_filter_le (win lo hi) (s0 :: l11)
   simp only [List.length_append,List.length_cons] at this ⊢
   omega
  have k2:l10.length < 4398046511104:=by
   have:=ok.left.few
   omega
  have k3:∀ x,x∈ex ++ (s0 :: l11).filter (win lo hi)→wrap64 x=x:=by
   intro x hx
   have:0≤x∧x≤253402300799:=by
    rcases List.mem_append.1 hx with hx | hx
    ·exact hb x hx
    ·rcases List.mem_cons.1 (List.mem_filter.1 hx).1 with rfl | hx
     ·exact ok.start
     ·exact ok.more.bd x hx
   exact wrapI (by omega) (by omega)
  have k4:∀ x,x∈l10→wrap64 x=x:=by
   intro x hx
   have:=ok.left.bd x hx
   exact wrapI (by omega) (by omega)
  unfold series_Series_originals.tail
  rw [if_pos ⟨k1,k2,k3,k4⟩]
  unfold origs allTimes
  rw [he]
 have j0:∀ ex:List Int,ex.length≤1000→Ev (fun k=>series_Series_originals.j0 k lo hi 0 ex s0 s1 s2 r0 r1 r2 r3 l7 l8 l9 l10 l11 l12) (ex ++ (s0 :: l11).filter (win lo hi),0):=by
  intro ex hl
  refine Ev.step (fun k=>by simp only [series_Series_originals.j0,Option.bind_some];rw [if_pos (show ([s0]:List Int).length + l11.length < 17592186044416 by simp;omega)]) ?_
  exact pre_loop lo hi (s0 :: l11) (by simp;omega) (s0 :: l11) 0 ex rfl (by omega)
 unfold series_Series_originals.f series_Series_originals.pre
 have fin:∀ ex:List Int,ex.length≤1000→(∀ t,t∈ex→0≤t∧t≤253402300799)→ex=ruleTimes s0 s2 r0 r1 r2 r3 l7 l8 l9 lo hi →
   Ev (fun k=>(series_Series_originals.j0 k lo hi 0 ex s0 s1 s2 r0 r1 r2 r3 l7 l8 l9 l10 l11 l12).bind fun p=>if p.2=0 then series_Series_originals.tail l10 p.1 else some p) (origs s0 s2 r0 r1 r2 r3 l7 l8 l9 l10 l11 lo hi,0):=by
  intro ex h1 h2 h3
  refine Ev.bind (j0 ex h1) ?_
  simp only [if_true]
  rw [tail ex h1 h2 h3]
  exact Ev.now _
 unfold said
 by_cases c:s2=true
 ·simp only [if_pos c]
  have hr:=ok.rule c
  have hx:=expand_ev r0 r1 r2 r3 l7 l8 l9 s0 lo hi hr (by omega) (by omega) (h9 c) ok.start hlo hhi hw
  obtain ⟨m1,m2,m3⟩:=most_fin s0 r0 r1 r2 r3 l7 l8 l9 hr h7 h8 (h9 c) lo hi ok.start hlo hhi hw
  by_cases e:(most s0 r0 r1 r2 r3 l7 l8 l9 lo hi).length=1000
  ·rw [if_pos ⟨c,e⟩]
   refine Ev.bind (Ev.bind hx ?_) (a:=(([]:List Int),(5:Int))) ?_
   ·simp only [if_true]
    have e':((Expand.exRun r2 r3 s0 lo hi 1000 0 [] (daysTo r0 r1 r2 r3 l7 l8 l9 s0 hi)).length:Int)=1000:=by
     have:(Expand.exRun r2 r3 s0 lo hi 1000 0 [] (daysTo r0 r1 r2 r3 l7 l8 l9 s0 hi)).length=1000:=e
     omega
    simp only [if_pos e']
    exact Ev.now _
   ·exact Ev.now _
  ·rw [if_neg (fun h=>e h.2)]
   have e':¬((Expand.exRun r2 r3 s0 lo hi 1000 0 [] (daysTo r0 r1 r2 r3 l7 l8 l9 s0 hi)).length:Int)=1000:=by
    have:¬(Expand.exRun r2 r3 s0 lo hi 1000 0 [] (daysTo r0 r1 r2 r3 l7 l8 l9 s0 hi)).length=1000:=e
    omega
   refine Ev.bind (Ev.bind hx ?_) (a:=(most s0 r0 r1 r2 r3 l7 l8 l9 lo hi ++ (s0 :: l11).filter (win lo hi),(0:Int))) ?_
   ·simp only [if_true,if_neg e']
    exact j0 (most s0 r0 r1 r2 r3 l7 l8 l9 lo hi) m1
   ·simp only [if_true]
    rw [tail (most s0 r0 r1 r2 r3 l7 l8 l9 lo hi) m1 m2 (by unfold ruleTimes;rw [if_pos c];exact m3 (by omega))]
    exact Ev.now _
 ·simp only [if_neg c]
  rw [if_neg (fun h=>c h.1)]
  exact fin [] (by simp) (fun t ht=>by cases ht) (by unfold ruleTimes;rw [if_neg c])
/-! ### the document's -/
theorem put_loop (lo hi:Int) (hm:l11.length≤300) (R:List Int×Int):∀ (suf:List Int) (i:Nat) (acc:List Int),l11.drop i=suf→acc.Pairwise (· < ·)→acc.length≤1001 + i→i≤l11.length →
  (∀ all:List Int,all.Pairwise (· < ·)→(∀ x,x∈all ↔ x∈acc∨x∈suf)→all.length≤1400→Ev (fun k=>pr23_Originals.l1 k lo hi all [] 0 s0 s1 s2 r0 r1 r2 r3 l7 l8 (l9.map cv) l10 l11 (l12.map cc)) R) →
  Ev (fun k=>pr23_Originals.l0 k lo hi acc [] (i:Int) s0 s1 s2 r0 r1 r2 r3 l7 l8 (l9.map cv) l10 l11 (l12.map cc)) R:=by
 intro suf
 induction suf with
 | nil =>
  intro i acc hd hu hl hi' hnx
  have:=drop_nil hd
  exact Ev.step (fun k=>by simp only [pr23_Originals.l0];rw [if_neg (by omega)]) (hnx acc hu (fun x=>by simp) (by omega))
 | cons o suf ih =>
  intro i acc hd hu hl hi' hnx
  obtain ⟨hi,ho,hd'⟩:=get_drop (d:=(0:Int)) hd
  have hw:=wrapS hi (by omega)
  have ho':rd l11 (i:Int)=o:=ho
  obtain ⟨r,hr,p1,p2,p3⟩:=put_fin acc o (by omega) hu
  refine Ev.step (fun k=>by simp only [pr23_Originals.l0,ho',hw];rw [if_pos (by omega),if_pos (by omega)]) ?_
  refine Ev.bind hr (ih (i + 1) r hd' p1 (by omega) (by omega) (fun all h1 h2 h3=>hnx all h1 (fun x=>?_) h3))
  rw [h2 x,p2 x,List.mem_cons]
  constructor
  ·rintro ((h | h) | h)
   ·exact .inl h
   ·exact .inr (.inl h)
   ·exact .inr (.inr h)
  ·rintro (h | h | h)
   ·exact .inl (.inl h)
   ·exact .inl (.inr h)
   ·exact .inr h
theorem filter_loop (lo hi:Int) (h10:l10.length≤300) (all:List Int) (hn:all.length≤1400):∀ (suf:List Int) (i:Nat) (acc:List Int),all.drop i=suf→acc.length≤i →
  Ev (fun k=>pr23_Originals.l1 k lo hi all acc (i:Int) s0 s1 s2 r0 r1 r2 r3 l7 l8 (l9.map cv) l10 l11 (l12.map cc)) (acc ++ suf.filter (fun x=>win lo hi x && !l10.contains x),0):=by
 intro suf
 induction suf with
 | nil =>
  intro i acc hd hl
  have:=drop_nil hd
  refine Ev.step (f:=fun _=>some (acc,0)) (fun k=>by simp only [pr23_Originals.l1];rw [if_neg (by omega)]) (by rw [List.filter_nil,List.append_nil];exact Ev.now _)
 | cons o suf ih =>
  intro i acc hd hl
  obtain ⟨hi',ho,hd'⟩:=get_drop (d:=(0:Int)) hd
  have hw:=wrapS hi' (by omega)
  have ho':rd all (i:Int)=o:=ho
  have n1:=ih (i + 1) acc hd' (by omega)
  have n2:=ih (i + 1) (acc ++ [o]) hd' (by simp;omega)
  have q:acc.length < 17592186044416:=by omega
  by_cases c1:o ≥ lo
  ·by_cases c2:o < hi
   ·have hwin:win lo hi o=true:=by unfold win;rw [decide_eq_true c1,decide_eq_true c2];rfl
    refine Ev.step (fun k=>by simp only [pr23_Originals.l1,ho',hw,if_pos c1,if_pos c2,if_pos q];rw [if_pos (by omega),if_pos (by omega)]) ?_
    refine Ev.bind (has23 l10 o (by omega)) ?_
    cases hb:l10.contains o with
    | true =>
     rw [List.filter_cons_of_neg (p:=fun x=>win lo hi x && !l10.contains x) (show ¬((win lo hi o && !l10.contains o)=true) by rw [hwin,hb];decide)]
     simp only [if_true]
     exact n1
    | false =>
     rw [List.filter_cons_of_pos (p:=fun x=>win lo hi x && !l10.contains x) (show (win lo hi o && !l10.contains o)=true by rw [hwin,hb];rfl)]
     simp only [Bool.false_eq_true,if_false]
     simpa using n2
   ·rw [List.filter_cons_of_neg (by unfold win;simp [c2])]
    exact Ev.step (fun k=>by simp only [pr23_Originals.l1,ho',hw,if_pos c1,if_neg c2];rw [if_pos (by omega),if_pos (by omega)]) n1
  ·rw [List.filter_cons_of_neg (by unfold win;simp [c1])]
   exact Ev.step (fun k=>by simp only [pr23_Originals.l1,ho',hw,if_neg c1];rw [if_pos (by omega),if_pos (by omega)]) n1
/-- The document's originals, from the times of the rule on. -/
theorem ref_tail (ok:okSeries s0 s1 s2 r0 r1 r2 r3 l7 l8 l9 l10 l11 l12) (lo hi:Int) (ex:List Int) (hl:ex.length < 1000) (hup:ex.Pairwise (· < ·)) (hwin:∀ t,t∈ex→lo≤t∧t < hi) (he:ex=ruleTimes s0 s2 r0 r1 r2 r3 l7 l8 l9 lo hi) :
  Ev (fun k=>pr23_Originals.j1 k lo hi ex [] s0 s1 s2 r0 r1 r2 r3 l7 l8 (l9.map cv) l10 l11 (l12.map cc)) (origs s0 s2 r0 r1 r2 r3 l7 l8 l9 l10 l11 lo hi,0):=by
 have hm:=ok.more.few
 have h10:=ok.left.few
 obtain ⟨r,hr,p1,p2,p3⟩:=put_fin ex s0 (by omega) hup
 refine Ev.step (fun k=>by simp only [pr23_Originals.j1];rfl) ?_
 refine Ev.bind hr ?_
 refine put_loop s0 s1 s2 r0 r1 r2 r3 l7 l8 l9 l10 l11 l12 lo hi (by omega) _ l11 0 r rfl p1 (by omega) (Nat.zero_le _) (fun all a1 a2 a3=>?_)
 have hf:=filter_loop s0 s1 s2 r0 r1 r2 r3 l7 l8 l9 l10 l11 l12 lo hi (by omega) all a3 all 0 [] rfl (Nat.le_refl _)
 rw [List.nil_append] at hf
 have hsp:=origs_spec s0 s2 r0 r1 r2 r3 l7 l8 l9 l10 l11 lo hi
 have heq:all.filter (fun x=>win lo hi x && !l10.contains x)=origs s0 s2 r0 r1 r2 r3 l7 l8 l9 l10 l11 lo hi:=by
  refine up_ext (a1.filter _) hsp.1 (fun x=>?_)
  rw [List.mem_filter,hsp.2 x,a2 x,p2 x]
  unfold allTimes
  rw [List.mem_append,List.mem_filter,List.mem_cons,← he]
  simp only [Bool.and_eq_true,Bool.not_eq_true',List.contains_eq_mem,decide_eq_false_iff_not]
  constructor
  ·rintro ⟨(h | h) | h,hw,hn⟩
   ·exact ⟨.inl h,hn⟩
   ·exact ⟨.inr ⟨.inl h,hw⟩,hn⟩
   ·exact ⟨.inr ⟨.inr h,hw⟩,hn⟩
  ·rintro ⟨h | ⟨h | h,hw⟩,hn⟩
   ·have:=hwin x h
    exact ⟨.inl (.inl h),by unfold win;rw [decide_eq_true (show x ≥ lo by omega),decide_eq_true this.2];rfl,hn⟩
   ·exact ⟨.inl (.inr h),hw,hn⟩
   ·exact ⟨.inr h,hw,hn⟩
 rw [heq] at hf
 exact hf
theorem Originals_both (hs:Short l7 l8 l9 l10 l11 l12) (h7:l7.length≤100) (h8:l8.length≤100) (h9:l9.length≤100) (h10:l10.length≤300) (h11:l11.length≤300) (h12:l12.length≤300) (fr till:Int) :
  Both (fun k=>series_Originals.f k s0 s1 s2 r0 r1 r2 r3 l7 l8 l9 l10 l11 l12 fr till) (fun k=>pr23_Originals.f k s0 s1 s2 r0 r1 r2 r3 l7 l8 (l9.map cv) l10 l11 (l12.map cc) fr till):=by
 obtain ⟨b,b1,b2⟩:=sright_both s0 s1 s2 r0 r1 r2 r3 l7 l8 l9 l10 l11 l12 h7 h8 h9 h10 h11 h12
 obtain ⟨b',hb',hok⟩:=sright_fin s0 s1 s2 r0 r1 r2 r3 l7 l8 l9 l10 l11 l12 hs
 obtain rfl:=ev_one hb' b1
 unfold series_Originals.f pr23_Originals.f
 refine both_lb b1 (both_rb b2 ?_)
 cases b' with
 | false =>
  simp only [Bool.false_eq_true,if_false]
  exact both_now _
 | true =>
  have ok:=hok rfl
  simp only [if_true,when_f,time12,Option.bind_some]
  have pt:Ev (fun k=>series_Originals.j0 k fr till true s0 s1 s2 r0 r1 r2 r3 l7 l8 l9 l10 l11 l12) (([]:List Int),(110:Int)):=Ev.step (f:=fun _=>some ([],110)) (fun k=>by simp only [series_Originals.j0,if_true]) (Ev.now _)
  have dt:Ev (fun k=>pr23_Originals.j0 k fr till true s0 s1 s2 r0 r1 r2 r3 l7 l8 (l9.map cv) l10 l11 (l12.map cc)) (([]:List Int),(110:Int)):=Ev.step (f:=fun _=>some ([],110)) (fun k=>by simp only [pr23_Originals.j0,if_true]) (Ev.now _)
  refine both_ite Iff.rfl (fun c1=>?_) (fun _=>both_ev pt dt)
  have hlo:=of_decide_eq_true c1
  by_cases c2:0≤till∧till≤253402300799
  ·rw [decide_eq_true c2,Bool.not_true]
   refine both_l (fun k=>series_Originals.j0.eq_2 ..) (both_r (fun k=>pr23_Originals.j0.eq_2 ..) ?_)
   simp only [Bool.false_eq_true,if_false]
   refine both_ite Iff.rfl (fun _=>both_now _) (fun c3=>?_)
   have hst:=ok.start
   have hw:till - s0≤631152000:=by
    rw [wrapI (n:=till - s0) (by omega) (by omega)] at c3
    omega
   have h9':s2=true→l9.length≤77:=fun c=>rule_few r0 r1 r2 r3 l7 l8 l9 (by omega) (by omega) (by omega) (ok.rule c)
   have hp:=originals_ev s0 s1 s2 r0 r1 r2 r3 l7 l8 l9 l10 l11 l12 ok h7 h8 h9' fr till hlo c2 hw
   refine both_lb hp ?_
   refine both_ev (r:=said s0 s2 r0 r1 r2 r3 l7 l8 l9 l10 l11 fr till) (Ev.now _) ?_
   unfold said
   by_cases c:s2=true
   ·simp only [if_pos c]
    have hr:=ok.rule c
    obtain ⟨q,q1,q2,q3⟩:=right_both r0 r1 r2 r3 l7 l8 l9 (by omega) (by omega) (by omega)
    obtain rfl:=ev_one q1 hr
    have fine:=q3 rfl
    have okd:∀ x,x∈l9→okDay x:=by
     obtain ⟨r,hr1,hp1⟩:=rule_fin r0 r1 r2 r3 l7 l8 l9 (by omega) (by omega) (by omega)
     obtain rfl:=ev_one hr1 hr
     exact (hp1 rfl).2
    obtain ⟨m1,m2,m3⟩:=most_fin s0 r0 r1 r2 r3 l7 l8 l9 hr h7 h8 (h9' c) fr till hst hlo c2 hw
    have hx:=expand21 r0 r1 r2 r3 l7 l8 l9 s0 fr till q2 fine (by omega) (by omega) (h9' c) okd hst hlo c2 hw
    refine Ev.bind hx ?_
    simp only [if_true]
    by_cases e:(most s0 r0 r1 r2 r3 l7 l8 l9 fr till).length=1000
    ·rw [if_pos ⟨c,e⟩]
     have e':((Expand.exRun r2 r3 s0 fr till 1000 0 [] (daysTo r0 r1 r2 r3 l7 l8 l9 s0 till)).length:Int) ≥ 1000:=by
      have:(Expand.exRun r2 r3 s0 fr till 1000 0 [] (daysTo r0 r1 r2 r3 l7 l8 l9 s0 till)).length=1000:=e
      omega
     simp only [if_pos e']
     exact Ev.now _
    ·rw [if_neg (fun h=>e h.2)]
     have ml:(most s0 r0 r1 r2 r3 l7 l8 l9 fr till).length < 1000:=by omega
     have e':¬((Expand.exRun r2 r3 s0 fr till 1000 0 [] (daysTo r0 r1 r2 r3 l7 l8 l9 s0 till)).length:Int) ≥ 1000:=by
      have:(Expand.exRun r2 r3 s0 fr till 1000 0 [] (daysTo r0 r1 r2 r3 l7 l8 l9 s0 till)).length < 1000:=ml
      omega
     have e2:([]:List Int).length + (Expand.exRun r2 r3 s0 fr till 1000 0 [] (daysTo r0 r1 r2 r3 l7 l8 l9 s0 till)).length < 17592186044416:=by
      have:(Expand.exRun r2 r3 s0 fr till 1000 0 [] (daysTo r0 r1 r2 r3 l7 l8 l9 s0 till)).length < 1000:=ml
      simp;omega
     simp only [if_neg e',if_pos e2,List.nil_append]
     have hup:=times_up s0 r0 r1 r2 r3 l7 l8 l9 fr till fine.step.1 hst
     have hm:=m3 ml
     rw [← hm] at hup
     exact ref_tail s0 s1 s2 r0 r1 r2 r3 l7 l8 l9 l10 l11 l12 ok fr till (most s0 r0 r1 r2 r3 l7 l8 l9 fr till) ml hup.1 hup.2 (by unfold ruleTimes;rw [if_pos c];exact hm)
   ·simp only [if_neg c]
    rw [if_neg (fun h=>c h.1)]
    exact ref_tail s0 s1 s2 r0 r1 r2 r3 l7 l8 l9 l10 l11 l12 ok fr till [] (by simp) List.Pairwise.nil (fun t ht=>by cases ht) (by unfold ruleTimes;rw [if_neg c])
  ·rw [decide_eq_false c2,Bool.not_false]
   exact both_ev pt dt
end
end Go.Proofs.YtkgkblmeafhkfaaGreat.Orgs

/- A rule's times, and a series' originals: what they are, in plain words. -/
import Derived.Test.YtkgkblmeafhkfaaGreatMatch
import Derived.Test.YtkgkblmeafhkfaaGreatPHx11
set_option linter.unusedVariables false
namespace Go.Proofs.YtkgkblmeafhkfaaGreat.Times
open Go.RowKit Go.Proofs.YtkgkblmeafhkfaaGreatW.PrintWords Go.Proofs.YtkgkblmeafhkfaaGreatW.PrintLast Go.Proofs.YtkgkblmeafhkfaaGreatW.PrintMore Go.Proofs.YtkgkblmeafhkfaaGreat.PH Go.Proofs.YtkgkblmeafhkfaaGreat.Cal Go.Proofs.YtkgkblmeafhkfaaGreat.Base Go.Proofs.YtkgkblmeafhkfaaGreat.Match
/-! ### days -/
/-- The days from d on, every step-th, up to a last one. -/
def span (step last:Int):Nat→Int→List Int
 | 0,_=>[]
 | n + 1,d=>if d≤last then d :: span step last n (d + step) else []
theorem span_mem (step last:Int) (hs:0≤step):∀ (n:Nat) (d x:Int),x∈span step last n d→d≤x∧x≤last
 | 0,_,_,h=>by cases h
 | n + 1,d,x,h=>by
  unfold span at h
  split at h
  ·rcases List.mem_cons.1 h with rfl | h
   ·omega
   ·have:=span_mem step last hs n _ x h;omega
  ·cases h
theorem span_prefix (step l1 l2:Int) (hl:l1≤l2):∀ (n:Nat) (d:Int),span step l1 n d <+: span step l2 n d
 | 0,_=>List.prefix_refl _
 | n + 1,d=>by
  unfold span
  by_cases c:d≤l1
  ·rw [if_pos c,if_pos (by omega)]
   obtain ⟨t,ht⟩:=span_prefix step l1 l2 hl n (d + step)
   exact ⟨t,by rw [← ht];rfl⟩
  ·rw [if_neg c]
   exact List.nil_prefix
theorem days_ev (m:Nat→Int→Option Bool) (B:Int→Bool) (first last step:Int) (h0:0≤first) (hl:last≤2932896) (hs:1≤step∧step≤1000) (hm:∀ d,first≤d→d≤last→Ev (fun k=>m k d) (B d)) :
  ∀ (n:Nat) (d:Int),first≤d→last - d < n→Ev (fun k=>Expand.exDays m first last step k d) ((span step last n d).filter fun x=>x == first || B x):=by
 intro n
 induction n with
 | zero =>
  intro d hd hn
  refine Ev.step (f:=fun _=>some []) (fun k=>?_) (Ev.now _)
  simp only [Expand.exDays]
  rw [if_neg (by omega)]
 | succ n ih =>
  intro d hd hn
  by_cases c:d≤last
  ·have ew:wrap64 (d + step)=d + step:=by unfold wrap64;omega
   have nxt:=ih (d + step) (by omega) (by omega)
   refine Ev.step (fun k=>by simp only [Expand.exDays];rw [if_pos c,ew]) ?_
   by_cases e:d=first
   ·simp only [if_pos e]
    have:=Ev.bind (f:=fun _ ys=>some (d :: ys)) nxt (Ev.now _)
    rw [show span step last (n + 1) d=d :: span step last n (d + step) from by simp [span,c]]
    rw [List.filter_cons_of_pos (by simp [e])]
    exact this
   ·simp only [if_neg e]
    rw [show span step last (n + 1) d=d :: span step last n (d + step) from by simp [span,c]]
    have h1:=Ev.bind (f:=fun n b=>(Expand.exDays m first last step n (d + step)).bind fun ys=>some (if b=true then d :: ys else ys)) (hm d hd c) (Ev.bind nxt (Ev.now _))
    cases hb:B d with
    | true =>
     rw [List.filter_cons_of_pos (by simp [hb])]
     rw [hb] at h1
     exact h1
    | false =>
     rw [List.filter_cons_of_neg (by simp [hb,e])]
     rw [hb] at h1
     exact h1
  ·refine Ev.step (f:=fun _=>some []) (fun k=>?_) ?_
   ·simp only [Expand.exDays]
    rw [if_neg c]
   ·rw [show span step last (n + 1) d = [] from by simp [span,c]]
    exact Ev.now _
/-! ### the loop over days -/
section
variable (cnt until_ first from_ till:Int)
def stops (c:Nat) (d:Int):Bool:=decide (Expand.exTime first d ≥ till) || (decide (cnt > 0) && decide ((c:Int) + 1 > cnt)) || (!(until_ == -1) && decide (Expand.exTime first d > until_))
/-- The days ahead of the one that stops. -/
def ahead:Nat→List Int→List Int
 | _,[]=>[]
 | c,d :: ds=>if stops cnt until_ first till c d=true then [] else d :: ahead (c + 1) ds
theorem run_spec (most:Int):∀ (ds:List Int) (c:Nat) (out:List Int),c + ds.length < 4611686018427387904→((Expand.exRun cnt until_ first from_ till most c out ds).length:Int) < most →
  Expand.exRun cnt until_ first from_ till most c out ds=out ++ ((ahead cnt until_ first till c ds).filter fun d=>decide (Expand.exTime first d ≥ from_)).map (Expand.exTime first):=by
 intro ds
 induction ds with
 | nil=>intro c out _ _;simp [Expand.exRun,ahead]
 | cons d ds ih =>
  intro c out hc hlen
  have ew:wrap64 ((c:Int) + 1)=((c + 1:Nat):Int):=by simp at hc;unfold wrap64;omega
  have es:Expand.exStop cnt until_ first till most c (out.length:Int) d=(stops cnt until_ first till c d || ((out.length:Int) == most)):=by
   unfold Expand.exStop stops
   rw [ew]
   rfl
  simp only [Expand.exRun,es] at hlen ⊢
  cases h:stops cnt until_ first till c d with
  | true =>
   simp [ahead,h]
  | false =>
   rw [h,Bool.false_or] at hlen
   by_cases e:((out.length:Int) == most)=true
   ·rw [if_pos e] at hlen
    have:=beq_iff_eq.1 e
    omega
   ·rw [if_neg e,ew] at hlen
    rw [Bool.false_or,if_neg e,ew,ih (c + 1) _ (by simp at hc;omega) hlen]
    simp only [ahead,h,Bool.false_eq_true,if_false]
    unfold Expand.exPut
    by_cases cf:Expand.exTime first d ≥ from_
    ·rw [if_pos cf,List.filter_cons_of_pos (by simp [cf])]
     simp
    ·rw [if_neg cf,List.filter_cons_of_neg (by simp [cf])]
theorem run_mem (most:Int):∀ (ds:List Int) (c:Int) (out:List Int) (t:Int),t∈Expand.exRun cnt until_ first from_ till most c out ds→t∈out∨∃ d,d∈ds∧t=Expand.exTime first d:=by
 intro ds
 induction ds with
 | nil=>intro c out t h;exact .inl h
 | cons d ds ih =>
  intro c out t h
  simp only [Expand.exRun] at h
  split at h
  ·exact .inl h
  ·rcases ih _ _ _ h with h | ⟨x,hx,e⟩
   ·unfold Expand.exPut at h
    split at h
    ·rcases List.mem_append.1 h with h | h
     ·exact .inl h
     ·exact .inr ⟨d,by simp,by simpa using h⟩
    ·exact .inl h
   ·exact .inr ⟨x,List.mem_cons_of_mem _ hx,e⟩
theorem run_len (most:Int):∀ (ds:List Int) (c:Int) (out:List Int),(out.length:Int)≤most→((Expand.exRun cnt until_ first from_ till most c out ds).length:Int)≤most:=by
 intro ds
 induction ds with
 | nil=>intro c out h;exact h
 | cons d ds ih =>
  intro c out h
  simp only [Expand.exRun]
  split
  ·exact h
  ·rename_i hs
   refine ih _ _ ?_
   have hne:¬(out.length:Int)=most:=fun e=>hs (by simp [Expand.exStop,e])
   unfold Expand.exPut
   split
   ·simp;omega
   ·exact h
end
theorem time_eq {first d:Int} (h0:0≤d) (h1:d≤2932896):Expand.exTime first d=d * 86400 + first % 86400:=by
 unfold Expand.exTime wrap64
 omega
/-! ### a rule's times in a window -/
section
variable (r0 r1 r2 r3:Int) (l7 l8:List Int) (l9:List S91)
open Classical in
/-- Does a day match? -/
noncomputable def fits (first d:Int):Bool:=if h:∃ b,Ev (fun k=>recur_match.f k r0 r1 r2 r3 l7 l8 l9 first d) b then h.choose else false
/-- The days up to a last one. -/
noncomputable def daysTo (s0 hi:Int):List Int:=(span (if r0=1 then r1 else 1) (min (hi / 86400) 2932896) 3000000 (s0 / 86400)).filter fun x=>x == s0 / 86400 || fits r0 r1 r2 r3 l7 l8 l9 (s0 / 86400) x
/-- The times of a window. -/
noncomputable def timesIn (s0 lo hi:Int):List Int:=((ahead r2 r3 s0 hi 0 (daysTo r0 r1 r2 r3 l7 l8 l9 s0 hi)).filter fun d=>decide (Expand.exTime s0 d ≥ lo)).map (Expand.exTime s0)
theorem span_len (step last:Int):∀ (n:Nat) (d:Int),(span step last n d).length≤n
 | 0,_=>Nat.le_refl _
 | n + 1,d=>by
  unfold span
  split
  ·simp;exact span_len step last n _
  ·simp
theorem expand_fin (s0 lo hi:Int) (hr:Ev (fun k=>recur_Right.f k r0 r1 r2 r3 l7 l8 l9) true) (h7:l7.length≤9223372036854775807) (h8:l8.length≤9223372036854775807) (h9:l9.length < 4611686018427387904)
  (hs:0≤s0∧s0≤253402300799) (hlo:0≤lo∧lo≤253402300799) (hhi:0≤hi∧hi≤253402300799) (hw:hi - s0≤631152000) :
  Fin (fun k=>recur_Expand.f k r0 r1 r2 r3 l7 l8 l9 s0 lo hi 1000) (fun p=>p.2=0∧p.1.length≤1000∧(∀ t,t∈p.1→0≤t∧t≤253402300799)∧(p.1.length < 1000→p.1=timesIn r0 r1 r2 r3 l7 l8 l9 s0 lo hi)):=by
 have hi1:=rule_interval r0 r1 r2 r3 l7 l8 l9 hr
 unfold recur_Expand.f
 refine fin_bind (fin_ev hr (p:=fun x=>x=true) rfl) (fun ok hok=>?_)
 subst hok
 have hc:true=true∧(0≤s0∧s0≤253402300799)∧(0≤lo∧lo≤253402300799)∧(0≤hi∧hi≤253402300799)∧hi - s0≤631152000∧((1:Int)≤1000∧(1000:Int)≤1000)∧(1≤r1∧r1≤1000):=⟨rfl,hs,hlo,hhi,hw,⟨by omega,by omega⟩,hi1⟩
 refine fin_ite (fun _=>?_) (fun h=>absurd hc h)
 have hstep:1≤(if r0=1 then r1 else 1)∧(if r0=1 then r1 else 1)≤1000:=by split <;> omega
 have hB:∀ d,s0 / 86400≤d→d≤min (hi / 86400) 2932896→Ev (fun k=>recur_match.f k r0 r1 r2 r3 l7 l8 l9 (s0 / 86400) d) (fits r0 r1 r2 r3 l7 l8 l9 (s0 / 86400) d):=by
  intro d h1 h2
  obtain ⟨b,hb,-⟩:=match_fin r0 r1 r2 r3 l7 l8 l9 (s0 / 86400) d h7 h8 h9 hi1.1 ⟨by omega,by omega⟩ ⟨by omega,by omega⟩
  have hex:∃ b,Ev (fun k=>recur_match.f k r0 r1 r2 r3 l7 l8 l9 (s0 / 86400) d) b:=⟨b,hb⟩
  have hch:=hex.choose_spec
  unfold fits
  rw [dif_pos hex]
  exact hch
 have hd:=days_ev (fun k d=>recur_match.f k r0 r1 r2 r3 l7 l8 l9 (s0 / 86400) d) (fits r0 r1 r2 r3 l7 l8 l9 (s0 / 86400)) (s0 / 86400) (min (hi / 86400) 2932896) (if r0=1 then r1 else 1) (by omega) (by omega) hstep hB 3000000 (s0 / 86400) (Int.le_refl _) (by omega)
 refine fin_bind (fin_ev hd (p:=fun x=>x=daysTo r0 r1 r2 r3 l7 l8 l9 s0 hi) rfl) (fun xs hxs=>fin_now ?_)
 subst hxs
 have hlen:=run_len r2 r3 s0 lo hi 1000 (daysTo r0 r1 r2 r3 l7 l8 l9 s0 hi) 0 [] (by simp)
 refine ⟨rfl,by simpa using (by omega:(Expand.exRun r2 r3 s0 lo hi 1000 0 [] (daysTo r0 r1 r2 r3 l7 l8 l9 s0 hi)).length≤1000),fun t ht=>?_,fun hl=>?_⟩
 ·rcases run_mem r2 r3 s0 lo hi 1000 _ _ _ t ht with h | ⟨d,hd,rfl⟩
  ·cases h
  ·have:=span_mem _ _ (by omega) _ _ _ (List.mem_filter.1 hd).1
   rw [time_eq (by omega) (by omega)]
   omega
 ·have hdl:(daysTo r0 r1 r2 r3 l7 l8 l9 s0 hi).length≤3000000:=Nat.le_trans (List.length_filter_le _ _) (span_len _ _ _ _)
  have:=run_spec r2 r3 s0 lo hi 1000 (daysTo r0 r1 r2 r3 l7 l8 l9 s0 hi) 0 [] (by omega) (Int.ofNat_lt.mpr hl)
  simpa [timesIn] using this
end
/-! ### originals -/
theorem dedup_cf (p:Int):∀ (l:List Int),(∀ x,x∈l→p≤x)→l.Pairwise (·≤·)→(Orig.cf p l).Pairwise (· < ·)∧(∀ x,x∈Orig.cf p l→p < x)∧(∀ x,x∈l→x=p∨x∈Orig.cf p l)∧∀ x,x∈Orig.cf p l→x∈l:=by
 intro l
 induction l generalizing p with
 | nil=>intro _ _;exact ⟨List.Pairwise.nil,fun x h=>(by cases h),fun x h=>(by cases h),fun x h=>h⟩
 | cons y l ih =>
  intro h1 h2
  obtain ⟨h3,h4⟩:=List.pairwise_cons.1 h2
  obtain ⟨a,b,c,e⟩:=ih y h3 h4
  have hy:=h1 y (by simp)
  unfold Orig.cf
  by_cases ey:y=p
  ·rw [if_pos ey]
   subst ey
   refine ⟨a,b,fun x hx=>?_,fun x hx=>List.mem_cons_of_mem _ (e x hx)⟩
   rcases List.mem_cons.1 hx with rfl | hx
   ·exact .inl rfl
   ·exact c x hx
  ·rw [if_neg ey]
   refine ⟨List.pairwise_cons.2 ⟨b,a⟩,fun x hx=>?_,fun x hx=>?_,fun x hx=>?_⟩
   ·rcases List.mem_cons.1 hx with rfl | hx
    ·omega
    ·have:=b x hx;omega
   ·rcases List.mem_cons.1 hx with rfl | hx
    ·exact .inr (by simp)
    ·rcases c x hx with rfl | hx
     ·exact .inr (by simp)
     ·exact .inr (List.mem_cons_of_mem _ hx)
   ·rcases List.mem_cons.1 hx with rfl | hx
    ·simp
    ·exact List.mem_cons_of_mem _ (e x hx)
theorem dedup_spec (l:List Int) (h:l.Pairwise (·≤·)):(Orig.dedup l).Pairwise (· < ·)∧∀ x,x∈Orig.dedup l ↔ x∈l:=by
 cases l with
 | nil=>exact ⟨List.Pairwise.nil,fun x=>Iff.rfl⟩
 | cons y l =>
  obtain ⟨h1,h2⟩:=List.pairwise_cons.1 h
  obtain ⟨a,b,c,e⟩:=dedup_cf y l h1 h2
  refine ⟨List.pairwise_cons.2 ⟨b,a⟩,fun x=>⟨fun hx=>?_,fun hx=>?_⟩⟩
  ·rcases List.mem_cons.1 hx with rfl | hx
   ·simp
   ·exact List.mem_cons_of_mem _ (e x hx)
  ·rcases List.mem_cons.1 hx with rfl | hx
   ·simp [Orig.dedup]
   ·rcases c x hx with rfl | hx
    ·simp [Orig.dedup]
    ·exact List.mem_cons_of_mem _ hx
theorem isort_le (l:List Int):(Sort.isort (fun x y=>decide (x < y)) l).Pairwise (·≤·):=by
 have hw:Go.Sort.SWO (fun x y:Int=>decide (x < y)):=⟨fun x=>by simp,fun x y z h1 h2=>by simp at *;omega,fun x y z h1 h2=>by simp at *;omega⟩
 refine (Sort.isort_sorted hw l).imp ?_
 intro a b h
 simpa using h
section
variable (s0 s1:Int) (s2:Bool) (r0 r1 r2 r3:Int) (l7 l8:List Int) (l9:List S91) (l10 l11:List Int) (l12:List S64)
/-- Is a time in a window? -/
def win (lo hi t:Int):Bool:=decide (t ≥ lo) && decide (t < hi)
theorem pre_loop (lo hi:Int) (l:List Int) (hn:l.length≤1000):∀ (suf:List Int) (i:Nat) (acc:List Int),l.drop i=suf→acc.length≤4000 + i →
  Ev (fun k=>series_Series_originals.l0 k lo hi 0 acc l (l.length:Int) (i:Int)) (acc ++ suf.filter (win lo hi),0):=by
 intro suf
 induction suf with
 | nil =>
  intro i acc hd _
  have:=drop_nil hd
  refine Ev.step (f:=fun _=>some (acc,0)) (fun k=>?_) (by rw [List.filter_nil,List.append_nil];exact Ev.now _)
  simp only [series_Series_originals.l0]
  rw [if_neg (by omega)]
 | cons o suf ih =>
  intro i acc hd hl
  obtain ⟨hi',ho,hd'⟩:=get_drop (d:=(0:Int)) hd
  have hw:=wrapS hi' (by omega)
  have ho':rd l (i:Int)=o:=ho
  refine Ev.step (f:=fun k=>if o ≥ lo then (if o < hi then series_Series_originals.l0 k lo hi 0 (acc ++ [o]) l (l.length:Int) ((i + 1:Nat):Int) else series_Series_originals.l0 k lo hi 0 acc l (l.length:Int) ((i + 1:Nat):Int)) else series_Series_originals.l0 k lo hi 0 acc l (l.length:Int) ((i + 1:Nat):Int)) (fun k=>?_) ?_
  ·simp only [series_Series_originals.l0]
   rw [if_pos (by omega),if_pos (by omega),if_pos (by omega),ho',hw]
   by_cases c:acc.length < 17592186044416
   ·simp only [if_pos c]
   ·omega
  ·have h1:=ih (i + 1) (acc ++ [o]) hd' (by simp;omega)
   have h2:=ih (i + 1) acc hd' (by omega)
   by_cases c1:o ≥ lo
   ·simp only [if_pos c1]
    by_cases c2:o < hi
    ·simp only [if_pos c2]
     rw [List.filter_cons_of_pos (by simp [win,c1,c2])]
     simpa using h1
    ·simp only [if_neg c2]
     rw [List.filter_cons_of_neg (by simp [win,c2])]
     exact h2
   ·simp only [if_neg c1]
    rw [List.filter_cons_of_neg (by simp [win,c1])]
    exact h2
/-- The times of the rule, if it repeats. -/
noncomputable def ruleTimes (lo hi:Int):List Int:=if s2=true then timesIn r0 r1 r2 r3 l7 l8 l9 s0 lo hi else []
/-- All originals of a window, in no order, those that are left out too. -/
noncomputable def allTimes (lo hi:Int):List Int:=ruleTimes s0 s2 r0 r1 r2 r3 l7 l8 l9 lo hi ++ (s0 :: l11).filter (win lo hi)
/-- The originals of a window. -/
noncomputable def origs (lo hi:Int):List Int:=Orig.dedup (Sort.isort (fun x y=>decide (x < y)) ((allTimes s0 s2 r0 r1 r2 r3 l7 l8 l9 l11 lo hi).filter fun x=>!l10.contains x))
theorem origs_spec (lo hi:Int):(origs s0 s2 r0 r1 r2 r3 l7 l8 l9 l10 l11 lo hi).Pairwise (· < ·)∧∀ x,x∈origs s0 s2 r0 r1 r2 r3 l7 l8 l9 l10 l11 lo hi ↔ x∈allTimes s0 s2 r0 r1 r2 r3 l7 l8 l9 l11 lo hi∧x ∉ l10:=by
 have h:=dedup_spec _ (isort_le ((allTimes s0 s2 r0 r1 r2 r3 l7 l8 l9 l11 lo hi).filter fun x=>!l10.contains x))
 refine ⟨h.1,fun x=>(h.2 x).trans ?_⟩
 rw [(Sort.isort_perm _ _).mem_iff,List.mem_filter]
 simp
theorem originals_fin (hs:Short l7 l8 l9 l10 l11 l12) (ok:okSeries s0 s1 s2 r0 r1 r2 r3 l7 l8 l9 l10 l11 l12) (lo hi:Int) (hlo:0≤lo∧lo≤253402300799) (hhi:0≤hi∧hi≤253402300799) (hw:hi - s0≤631152000) :
  Fin (fun k=>series_Series_originals.f k s0 s1 s2 r0 r1 r2 r3 l7 l8 l9 l10 l11 l12 lo hi) (fun p=>(p.2≠0→p.1 = [])∧(p.2=0→p.1=origs s0 s2 r0 r1 r2 r3 l7 l8 l9 l10 l11 lo hi∧p.1.length≤2000)):=by
 have hm:=ok.more.few
 have fin_tail:∀ ex:List Int,ex.length≤1000→(∀ t,t∈ex→0≤t∧t≤253402300799)→ex=ruleTimes s0 s2 r0 r1 r2 r3 l7 l8 l9 lo hi →
   series_Series_originals.tail l10 (ex ++ (s0 :: l11).filter (win lo hi))=some (origs s0 s2 r0 r1 r2 r3 l7 l8 l9 l10 l11 lo hi,0):=by
  intro ex hl hb he
  have k1:(ex ++ (s0 :: l11).filter (win lo hi)).length < 4611686018427387904:=by
   have:=List.length_filter_le (win lo hi) (s0 :: l11)
   simp only [List.length_append,List.length_cons] at this ⊢
   omega
  have k2:l10.length < 4398046511104:=by
   have:=ok.left.few
   omega
  have k3:∀ x,x∈ex ++ (s0 :: l11).filter (win lo hi)→wrap64 x=x:=by
   intro x hx
   have:0≤x∧x≤253402300799:=by
    rcases List.mem_append.1 hx with hx | hx
    ·exact hb x hx
    ·rcases List.mem_cons.1 (List.mem_filter.1 hx).1 with rfl | hx
     ·exact ok.start
     ·exact ok.more.bd x hx
   unfold wrap64
   omega
  have k4:∀ x,x∈l10→wrap64 x=x:=by
   intro x hx
   have:=ok.left.bd x hx
   unfold wrap64
   omega
  unfold series_Series_originals.tail
  rw [if_pos ⟨k1,k2,k3,k4⟩]
  unfold origs allTimes
  rw [he]
 have j0:∀ ex:List Int,ex.length≤1000→Ev (fun k=>series_Series_originals.j0 k lo hi 0 ex s0 s1 s2 r0 r1 r2 r3 l7 l8 l9 l10 l11 l12) (ex ++ (s0 :: l11).filter (win lo hi),0):=by
  intro ex hl
  refine Ev.step (fun k=>by simp only [series_Series_originals.j0,Option.bind_some];rw [if_pos (show ([s0]:List Int).length + l11.length < 17592186044416 by simp;omega)]) ?_
  exact pre_loop lo hi (s0 :: l11) (by simp;omega) (s0 :: l11) 0 ex rfl (by omega)
 unfold series_Series_originals.f series_Series_originals.pre
 have fin_ok:∀ (ex:List Int) (p:List Int×Int),ex.length≤1000→(∀ t,t∈ex→0≤t∧t≤253402300799)→ex=ruleTimes s0 s2 r0 r1 r2 r3 l7 l8 l9 lo hi→p=(ex ++ (s0 :: l11).filter (win lo hi),0) →
   Fin (fun _=>if p.2=0 then series_Series_originals.tail l10 p.1 else some p) (fun p=>(p.2≠0→p.1 = [])∧(p.2=0→p.1=origs s0 s2 r0 r1 r2 r3 l7 l8 l9 l10 l11 lo hi∧p.1.length≤2000)):=by
  intro ex p h1 h2 h3 hp
  subst hp
  simp only [if_true]
  rw [fin_tail ex h1 h2 h3]
  refine fin_now ⟨fun h=>absurd rfl h,fun _=>⟨rfl,?_⟩⟩
  unfold origs allTimes
  rw [← h3]
  have e1:=Orig.dedup_le (Sort.isort (fun x y=>decide (x < y)) ((ex ++ (s0 :: l11).filter (win lo hi)).filter fun x=>!l10.contains x))
  have e2:=(Sort.isort_perm (fun x y=>decide (x < y)) ((ex ++ (s0 :: l11).filter (win lo hi)).filter fun x=>!l10.contains x)).length_eq
  have e3:=List.length_filter_le (fun x=>!l10.contains x) (ex ++ (s0 :: l11).filter (win lo hi))
  have e4:=List.length_filter_le (win lo hi) (s0 :: l11)
  simp only [List.length_append,List.length_cons] at e3 e4
  show (Orig.dedup _).length≤2000
  omega
 by_cases c:s2=true
 ·simp only [if_pos c]
  have hx:=expand_fin r0 r1 r2 r3 l7 l8 l9 s0 lo hi (ok.rule c) hs.a hs.b (by have:=rule_few r0 r1 r2 r3 l7 l8 l9 hs.a hs.b hs.c (ok.rule c);omega) ok.start hlo hhi hw
  obtain ⟨p,hp,q1,q2,q3,q4⟩:=hx
  refine fin_bind (p:=fun q=>(p.1.length=1000∧q=([],5))∨(p.1.length≠1000∧q=(p.1 ++ (s0 :: l11).filter (win lo hi),0))) (fin_bind (fin_ev hp (p:=fun x=>x=p) rfl) (fun x hx=>?_)) (fun q hq=>?_)
  ·subst hx
   simp only [q1,if_true]
   exact fin_ite (fun e=>fin_now (.inl ⟨by omega,rfl⟩)) (fun e=>fin_ev (j0 x.1 q2) (.inr ⟨by omega,rfl⟩))
  ·rcases hq with ⟨e,rfl⟩ | ⟨e,rfl⟩
   ·refine ⟨([],5),Ev.now _,fun _=>rfl,fun h=>?_⟩
    exact absurd h (by decide)
   ·exact fin_ok p.1 _ q2 q3 (by unfold ruleTimes;rw [if_pos c];exact q4 (by omega)) rfl
 ·simp only [if_neg c]
  exact fin_bind (fin_ev (j0 [] (by simp)) (p:=fun q=>q=(([]:List Int) ++ (s0 :: l11).filter (win lo hi),0)) rfl) (fun q hq=>fin_ok [] q (by simp) (fun t ht=>by cases ht) (by unfold ruleTimes;rw [if_neg c]) hq)
end
end Go.Proofs.YtkgkblmeafhkfaaGreat.Times

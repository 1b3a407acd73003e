/- A rule's times: the program's and the document's agree. -/
import Derived.Test.YtkgkblmeafhkfaaGreatRule
import Derived.Test.YtkgkblmeafhkfaaGreatTimes
import Derived.Test.YtkgkblmeafhkfaaGreatPHx24
set_option linter.unusedVariables false
namespace Go.Proofs.YtkgkblmeafhkfaaGreat.Exp
open Go.RowKit Go.Proofs.YtkgkblmeafhkfaaGreatW.PrintWords Go.Proofs.YtkgkblmeafhkfaaGreatW.PrintLast Go.Proofs.YtkgkblmeafhkfaaGreatW.PrintMore Go.Proofs.YtkgkblmeafhkfaaGreat.PH Go.Proofs.YtkgkblmeafhkfaaGreat.Cal Go.Proofs.YtkgkblmeafhkfaaGreat.Base Go.Proofs.YtkgkblmeafhkfaaGreat.Match Go.Proofs.YtkgkblmeafhkfaaGreat.Times Go.Proofs.YtkgkblmeafhkfaaGreat.Agree Go.Proofs.YtkgkblmeafhkfaaGreat.Rule
/-! ### days, step by step -/
theorem ev_pos {α:Type} {c:Prop} [Decidable c] {f g:Nat→Option α} {r:α} (h:c) (e:Ev f r):Ev (fun n=>if c then f n else g n) r:=by
 simp only [if_pos h]
 exact e
theorem span_fuel (step last:Int) (hs:1≤step):∀ (n m:Nat) (d:Int),last - d < n→last - d < m→span step last n d=span step last m d:=by
 intro n
 induction n with
 | zero =>
  intro m d h1 h2
  cases m with
  | zero=>rfl
  | succ m=>unfold span;rw [if_neg (by omega)]
 | succ n ih =>
  intro m d h1 h2
  cases m with
  | zero=>unfold span;rw [if_neg (by omega)]
  | succ m =>
   unfold span
   by_cases c:d≤last
   ·rw [if_pos c,if_pos c,ih m (d + step) (by omega) (by omega)]
   ·rw [if_neg c,if_neg c]
/-- Days of which none is meant fall away. -/
theorem skip (last:Int) (p:Int→Bool):∀ (j n m:Nat) (d:Int),last - d < n→last - (d + j) < m→(∀ x,d≤x→x < d + j→p x=false)→(span 1 last n d).filter p=(span 1 last m (d + j)).filter p:=by
 intro j
 induction j with
 | zero=>intro n m d h1 h2 _;rw [show d + ((0:Nat):Int)=d from by omega] at h2 ⊢;rw [span_fuel 1 last (by omega) n m d h1 h2]
 | succ j ih =>
  intro n m d h1 h2 hp
  cases n with
  | zero =>
   have:span 1 last m (d + ((j + 1:Nat):Int)) = []:=by
    cases m with
    | zero=>rfl
    | succ m=>unfold span;rw [if_neg (by omega)]
   rw [this]
   rfl
  | succ n =>
   rw [show span 1 last (n + 1) d=if d≤last then d :: span 1 last n (d + 1) else [] from rfl]
   by_cases c:d≤last
   ·rw [if_pos c,List.filter_cons_of_neg (by rw [hp d (by omega) (by omega)];decide),ih n m (d + 1) (by omega) (by omega) (fun x h1 h2=>hp x (by omega) (by omega))]
    rw [show d + 1 + (j:Int)=d + ((j + 1:Nat):Int) from by omega]
   ·rw [if_neg c]
    have:span 1 last m (d + ((j + 1:Nat):Int)) = []:=by
     cases m with
     | zero=>rfl
     | succ m=>unfold span;rw [if_neg (by omega)]
    rw [this]
/-- Day by day, or in steps, where what lies between is not meant. -/
theorem steps (last step:Int) (hs:1≤step) (p:Int→Bool) (first:Int) (hp:∀ x,first < x→(x - first) % step≠0→p x=false):∀ (n m:Nat) (d:Int),last - d < n→last - d < m→first≤d→(d - first) % step=0 →
  (span 1 last n d).filter p=(span step last m d).filter p:=by
 intro n m
 induction m generalizing n with
 | zero =>
  intro d h1 h2 _ _
  have:span 1 last n d = []:=by
   cases n with
   | zero=>rfl
   | succ n=>unfold span;rw [if_neg (by omega)]
  rw [this]
  rfl
 | succ m ih =>
  intro d h1 h2 hf hd
  cases n with
  | zero=>unfold span;rw [if_neg (by omega)]
  | succ n =>
   unfold span
   by_cases c:d≤last
   ·rw [if_pos c,if_pos c]
    have e1:(span 1 last n (d + 1)).filter p=(span step last m (d + step)).filter p:=by
     have hk:=skip last p (step - 1).toNat n n (d + 1) (by omega) (by omega) (fun x h3 h4=>hp x (by omega) (fun h0=>by
      have:(x - d) % step=0:=by
       have e:x - first=(x - d) + (d - first):=by omega
       rw [e,Int.add_emod,hd,Int.add_zero,Int.emod_emod_of_dvd _ (Int.dvd_refl _)] at h0
       exact h0
      rw [Int.emod_eq_of_lt (by omega) (by omega)] at this
      omega))
     rw [hk,show d + 1 + ((step - 1).toNat:Int)=d + step from by omega]
     exact ih n (d + step) (by omega) (by omega) (by omega) (by
      have e:d + step - first=(d - first) + step:=by omega
      rw [e,Int.add_emod_right]
      exact hd)
    rw [List.filter_cons,List.filter_cons,e1]
   ·rw [if_neg c,if_neg c]
section
variable (r0 r1 r2 r3:Int) (l7 l8:List Int) (l9:List S91)
/-- A day of a daily rule that is no step away does not match. -/
theorem off_step (h7:l7.length≤9223372036854775807) (fine:Fine r0 r1 r2 r3 l9) (a b:Int) (ha:0≤a) (hab:a≤b) (hb:b≤2932896) (h1:r0=1) (hm:(b - a) % r1≠0):Ev (fun k=>recur_match.f k r0 r1 r2 r3 l7 l8 l9 a b) false:=by
 obtain ⟨y0,m0,d0,hI0,hE0⟩:=civil_ev a ha (by omega)
 obtain ⟨y,m,d,hI,hE⟩:=civil_ev b (by omega) hb
 have hr:=fine.step
 have j:∀ (z:Bool) (wd w0:Int),Ev (fun k=>recur_match.j0 k a b y0 ((m0 + 1:Nat):Int) d0 y ((m + 1:Nat):Int) d wd w0 r1 z r0 r1 r2 r3 l7 l8 l9) false:=by
  intro z wd w0
  refine Ev.step (f:=fun _=>some false) (fun k=>?_) (Ev.now _)
  rw [recur_match.j0.eq_2]
  by_cases c:z=true
  ·rw [if_pos c]
  ·rw [if_neg c,if_pos h1,if_neg (by omega),show wrap64 (b - a)=b - a from by unfold wrap64;omega,tmodI (by omega),if_neg hm]
 unfold recur_match.f
 refine Ev.bind hE0 ?_
 refine Ev.bind hE ?_
 simp only [weekday_f ha (by omega),weekday_f (show 0≤b by omega) hb,Option.bind_some,if_neg (show ¬(b < a) by omega)]
 by_cases c:(l7.length:Int) > 0
 ·simp only [if_pos c]
  exact Ev.bind (contains_ev l7 _ h7) (j _ _ _)
 ·simp only [if_neg c]
  exact j _ _ _
theorem fits_ev {a b:Int} {v:Bool} (h:Ev (fun k=>recur_match.f k r0 r1 r2 r3 l7 l8 l9 a b) v):fits r0 r1 r2 r3 l7 l8 l9 a b=v:=by
 have hex:∃ b',Ev (fun k=>recur_match.f k r0 r1 r2 r3 l7 l8 l9 a b) b':=⟨v,h⟩
 unfold fits
 rw [dif_pos hex]
 exact ev_one hex.choose_spec h
/-- The program's times. -/
theorem expand_ev (s0 lo hi:Int) (hr:Ev (fun k=>recur_Right.f k r0 r1 r2 r3 l7 l8 l9) true) (h7:l7.length≤9223372036854775807) (h8:l8.length≤9223372036854775807) (h9:l9.length≤77)
  (hs:0≤s0∧s0≤253402300799) (hlo:0≤lo∧lo≤253402300799) (hhi:0≤hi∧hi≤253402300799) (hw:hi - s0≤631152000) :
  Ev (fun k=>recur_Expand.f k r0 r1 r2 r3 l7 l8 l9 s0 lo hi 1000) (Expand.exRun r2 r3 s0 lo hi 1000 0 [] (daysTo r0 r1 r2 r3 l7 l8 l9 s0 hi),0):=by
 have hi1:=rule_interval r0 r1 r2 r3 l7 l8 l9 hr
 unfold recur_Expand.f
 refine Ev.bind hr ?_
 have hc:true=true∧(0≤s0∧s0≤253402300799)∧(0≤lo∧lo≤253402300799)∧(0≤hi∧hi≤253402300799)∧hi - s0≤631152000∧((1:Int)≤1000∧(1000:Int)≤1000)∧(1≤r1∧r1≤1000):=⟨rfl,hs,hlo,hhi,hw,⟨by omega,by omega⟩,hi1⟩
 refine ev_pos hc ?_
 have hstep:1≤(if r0=1 then r1 else 1)∧(if r0=1 then r1 else 1)≤1000:=by split <;> omega
 have hB:∀ d,s0 / 86400≤d→d≤min (hi / 86400) 2932896→Ev (fun k=>recur_match.f k r0 r1 r2 r3 l7 l8 l9 (s0 / 86400) d) (fits r0 r1 r2 r3 l7 l8 l9 (s0 / 86400) d):=by
  intro d h1 h2
  obtain ⟨b,hb,-⟩:=match_fin r0 r1 r2 r3 l7 l8 l9 (s0 / 86400) d h7 h8 (by omega) hi1.1 ⟨by omega,by omega⟩ ⟨by omega,by omega⟩
  rw [fits_ev r0 r1 r2 r3 l7 l8 l9 hb]
  exact hb
 have hd:=days_ev (fun k d=>recur_match.f k r0 r1 r2 r3 l7 l8 l9 (s0 / 86400) d) (fits r0 r1 r2 r3 l7 l8 l9 (s0 / 86400)) (s0 / 86400) (min (hi / 86400) 2932896) (if r0=1 then r1 else 1) (by omega) (by omega) hstep hB 3000000 (s0 / 86400) (Int.le_refl _) (by omega)
 exact Ev.bind hd (Ev.now _)
theorem run_full (cnt until_ first from_ to_:Int) (c:Int) (out:List Int) (h:(out.length:Int)=1000):∀ ds,Expand.exRun cnt until_ first from_ to_ 1000 c out ds=out:=by
 intro ds
 cases ds with
 | nil=>rfl
 | cons d ds=>simp only [Expand.exRun];rw [if_pos (by simp [Expand.exStop,h])]
/-- The document's times: day by day. -/
theorem expand21 (s0 lo hi:Int) (hr:Ev (fun k=>pr21_Right.f k r0 r1 r2 r3 l7 l8 (l9.map cv)) true) (fine:Fine r0 r1 r2 r3 l9) (h7:l7.length≤9223372036854775807) (h8:l8.length≤9223372036854775807) (h9:l9.length≤77) (hok:∀ x,x∈l9→okDay x)
  (hs:0≤s0∧s0≤253402300799) (hlo:0≤lo∧lo≤253402300799) (hhi:0≤hi∧hi≤253402300799) (hw:hi - s0≤631152000) :
  Ev (fun k=>pr21_Expand.f k r0 r1 r2 r3 l7 l8 (l9.map cv) s0 lo hi 1000) (Expand.exRun r2 r3 s0 lo hi 1000 0 [] (daysTo r0 r1 r2 r3 l7 l8 l9 s0 hi),0):=by
 -- in steps,or day by day
 have hdays:daysTo r0 r1 r2 r3 l7 l8 l9 s0 hi=(span 1 (min (hi / 86400) 2932896) 3000000 (s0 / 86400)).filter fun x=>x == s0 / 86400 || fits r0 r1 r2 r3 l7 l8 l9 (s0 / 86400) x:=by
  unfold daysTo
  by_cases c1:r0=1
  ·rw [if_pos c1]
   have hmem:=fun x=>span_mem r1 (min (hi / 86400) 2932896) (by have:=fine.step;omega) 3000000 (s0 / 86400) x
   have hp:∀ x,s0 / 86400 < x→(x - s0 / 86400) % r1≠0→((fun x=>decide (x≤2932896) && (x == s0 / 86400 || fits r0 r1 r2 r3 l7 l8 l9 (s0 / 86400) x)) x)=false:=by
    intro x h1 h2
    by_cases hx:x≤2932896
    ·have:=fits_ev r0 r1 r2 r3 l7 l8 l9 (off_step r0 r1 r2 r3 l7 l8 l9 h7 fine (s0 / 86400) x (by omega) (by omega) hx c1 h2)
     simp only [this,Bool.or_false,beq_eq_false_iff_ne.mpr (show x≠s0 / 86400 by omega),Bool.and_false]
    ·simp only [decide_eq_false hx,Bool.false_and]
   have hst:=steps (min (hi / 86400) 2932896) r1 fine.step.1 (fun x=>decide (x≤2932896) && (x == s0 / 86400 || fits r0 r1 r2 r3 l7 l8 l9 (s0 / 86400) x)) (s0 / 86400) hp 3000000 3000000 (s0 / 86400) (by omega) (by omega) (Int.le_refl _) (by rw [Int.sub_self];simp)
   have drop:∀ step,1≤step→(span step (min (hi / 86400) 2932896) 3000000 (s0 / 86400)).filter (fun x=>decide (x≤2932896) && (x == s0 / 86400 || fits r0 r1 r2 r3 l7 l8 l9 (s0 / 86400) x))=(span step (min (hi / 86400) 2932896) 3000000 (s0 / 86400)).filter (fun x=>x == s0 / 86400 || fits r0 r1 r2 r3 l7 l8 l9 (s0 / 86400) x):=by
    intro step h1
    refine List.filter_congr (fun x hx=>?_)
    have:=span_mem step (min (hi / 86400) 2932896) (by omega) 3000000 (s0 / 86400) x hx
    rw [decide_eq_true (show x≤2932896 by omega),Bool.true_and]
   rw [drop 1 (by omega),drop r1 fine.step.1] at hst
   exact hst.symm
  ·rw [if_neg c1]
 have hM:∀ d,s0 / 86400≤d→d≤2932896→Ev (fun k=>pr21_Matches.f k r0 r1 r2 r3 l7 l8 (l9.map cv) (s0 / 86400) d) (fits r0 r1 r2 r3 l7 l8 l9 (s0 / 86400) d):=by
  intro d h1 h2
  obtain ⟨b,e1,e2⟩:=match_both r0 r1 r2 r3 l7 l8 l9 (s0 / 86400) d h7 h8 h9 hok fine.plain fine.step.1 (by omega) h1 h2
  rw [fits_ev r0 r1 r2 r3 l7 l8 l9 e1]
  exact e2
 have hcount:=fine.count
 have htill:=fine.till
 have j3f:∀ (out:List Int) (c t:Int),Ev (fun k=>pr21_Expand.j3 k s0 lo hi 1000 out c t false r0 r1 r2 r3 l7 l8 (l9.map cv)) (out,0):=fun out c t=>Ev.step (f:=fun _=>some (out,0)) (fun k=>by simp only [pr21_Expand.j3,Bool.false_eq_true,if_false]) (Ev.now _)
 have loop:∀ (n:Nat) (d c:Int) (out:List Int),s0 / 86400≤d→min (hi / 86400) 2932896 - d < n→(out.length:Int)≤1000 →
   Ev (fun k=>pr21_Expand.l0 k s0 lo hi 1000 out c (d * 86400 + s0 % 86400) r0 r1 r2 r3 l7 l8 (l9.map cv)) (Expand.exRun r2 r3 s0 lo hi 1000 c out ((span 1 (min (hi / 86400) 2932896) n d).filter fun x=>x == s0 / 86400 || fits r0 r1 r2 r3 l7 l8 l9 (s0 / 86400) x),0):=by
  intro n
  induction n with
  | zero =>
   intro d c out hd hn hl
   refine Ev.step (f:=fun k=>pr21_Expand.j3 k s0 lo hi 1000 out c (d * 86400 + s0 % 86400) false r0 r1 r2 r3 l7 l8 (l9.map cv)) (fun k=>?_) (j3f _ _ _)
   simp only [pr21_Expand.l0]
   rw [if_neg (by omega)]
  | succ n ih =>
   intro d c out hd hn hl
   by_cases ct:d * 86400 + s0 % 86400 < hi
   ·have hdl:d≤min (hi / 86400) 2932896:=by omega
    have hsp:span 1 (min (hi / 86400) 2932896) (n + 1) d=d :: span 1 (min (hi / 86400) 2932896) n (d + 1):=by rw [span,if_pos hdl]
    by_cases cl:(out.length:Int) < 1000
    ·have nxt:=fun c out h=>ih (d + 1) c out (by omega) (by omega) h
     have et:wrap64 (d * 86400 + s0 % 86400 + 86400)=(d + 1) * 86400 + s0 % 86400:=by unfold wrap64;omega
     have etime:Expand.exTime s0 d=d * 86400 + s0 % 86400:=time_eq (by omega) (by omega)
     rw [hsp]
     refine Ev.step (f:=fun k=>pr21_Expand.j3 k s0 lo hi 1000 out c (d * 86400 + s0 % 86400) true r0 r1 r2 r3 l7 l8 (l9.map cv)) (fun k=>?_) ?_
     ·simp only [pr21_Expand.l0]
      rw [if_pos ct,decide_eq_true cl]
     ·have j4t:∀ R,Ev (fun k=>pr21_Expand.l0 k s0 lo hi 1000 out c ((d + 1) * 86400 + s0 % 86400) r0 r1 r2 r3 l7 l8 (l9.map cv)) R→Ev (fun k=>pr21_Expand.j4 k s0 lo hi 1000 out c (d * 86400 + s0 % 86400) true r0 r1 r2 r3 l7 l8 (l9.map cv)) R:=fun R h=>Ev.step (fun k=>by simp only [pr21_Expand.j4,if_true,et]) h
      have j5t:∀ c',Ev (fun k=>pr21_Expand.j5 k s0 lo hi 1000 out c' (d * 86400 + s0 % 86400) true r0 r1 r2 r3 l7 l8 (l9.map cv)) (out,0):=fun c'=>Ev.step (f:=fun _=>some (out,0)) (fun k=>by simp only [pr21_Expand.j5,if_true]) (Ev.now _)
      have j5f:∀ ds,(∀ o,(o.length:Int)≤1000→Ev (fun k=>pr21_Expand.l0 k s0 lo hi 1000 o (wrap64 (c + 1)) ((d + 1) * 86400 + s0 % 86400) r0 r1 r2 r3 l7 l8 (l9.map cv)) (Expand.exRun r2 r3 s0 lo hi 1000 (wrap64 (c + 1)) o ds,0)) →
        Ev (fun k=>pr21_Expand.j5 k s0 lo hi 1000 out (wrap64 (c + 1)) (d * 86400 + s0 % 86400) false r0 r1 r2 r3 l7 l8 (l9.map cv)) (Expand.exRun r2 r3 s0 lo hi 1000 (wrap64 (c + 1)) (Expand.exPut s0 lo out d) ds,0):=by
       intro ds h
       unfold Expand.exPut
       rw [etime]
       by_cases cp:d * 86400 + s0 % 86400 ≥ lo
       ·rw [if_pos cp]
        refine Ev.step (fun k=>?_) (h (out ++ [d * 86400 + s0 % 86400]) (by simp;omega))
        simp only [pr21_Expand.j5,Bool.false_eq_true,if_false,et]
        rw [if_pos cp,if_pos (by omega)]
       ·rw [if_neg cp]
        refine Ev.step (fun k=>?_) (h out hl)
        simp only [pr21_Expand.j5,Bool.false_eq_true,if_false,et]
        rw [if_neg cp]
      have j4f:∀ ds,(∀ o,(o.length:Int)≤1000→Ev (fun k=>pr21_Expand.l0 k s0 lo hi 1000 o (wrap64 (c + 1)) ((d + 1) * 86400 + s0 % 86400) r0 r1 r2 r3 l7 l8 (l9.map cv)) (Expand.exRun r2 r3 s0 lo hi 1000 (wrap64 (c + 1)) o ds,0)) →
        Ev (fun k=>pr21_Expand.j4 k s0 lo hi 1000 out c (d * 86400 + s0 % 86400) false r0 r1 r2 r3 l7 l8 (l9.map cv)) (Expand.exRun r2 r3 s0 lo hi 1000 c out (d :: ds),0):=by
       intro ds h
       have hst:Expand.exStop r2 r3 s0 hi 1000 c (out.length:Int) d=((decide (r2 > 0) && decide (wrap64 (c + 1) > r2)) || (decide (r3 ≥ 0) && decide (d * 86400 + s0 % 86400 > r3))):=by
        unfold Expand.exStop
        rw [etime,decide_eq_false (show ¬(d * 86400 + s0 % 86400 ≥ hi) by omega),Bool.false_or,beq_eq_false_iff_ne.mpr (show (out.length:Int)≠1000 by omega),Bool.or_false]
        congr 2
        rw [Bool.eq_iff_iff]
        simp only [Bool.not_eq_true',beq_eq_false_iff_ne,decide_eq_true_eq,ne_eq]
        omega
       simp only [Expand.exRun,hst]
       have h5:=j5f ds h
       by_cases q1:r2 > 0∧wrap64 (c + 1) > r2
       ·rw [decide_eq_true q1.1,decide_eq_true q1.2,Bool.true_and,Bool.true_or,if_pos rfl]
        refine Ev.step (fun k=>?_) (j5t (wrap64 (c + 1)))
        simp only [pr21_Expand.j4,Bool.false_eq_true,if_false]
        rw [if_pos q1.1,if_pos q1.2]
       ·have e1:(decide (r2 > 0) && decide (wrap64 (c + 1) > r2))=false:=by
         rw [Bool.eq_false_iff];simp only [ne_eq,Bool.and_eq_true,decide_eq_true_eq];exact q1
        rw [e1,Bool.false_or]
        have st:∀ R z,(z=(decide (r3 ≥ 0) && decide (d * 86400 + s0 % 86400 > r3)))→Ev (fun k=>pr21_Expand.j5 k s0 lo hi 1000 out (wrap64 (c + 1)) (d * 86400 + s0 % 86400) z r0 r1 r2 r3 l7 l8 (l9.map cv)) R→Ev (fun k=>pr21_Expand.j4 k s0 lo hi 1000 out c (d * 86400 + s0 % 86400) false r0 r1 r2 r3 l7 l8 (l9.map cv)) R:=by
         intro R z hz hR
         refine Ev.step (fun k=>?_) hR
         simp only [pr21_Expand.j4,Bool.false_eq_true,if_false]
         have inner:(if r3 ≥ 0 then pr21_Expand.j5 k s0 lo hi 1000 out (wrap64 (c + 1)) (d * 86400 + s0 % 86400) (decide (d * 86400 + s0 % 86400 > r3)) r0 r1 r2 r3 l7 l8 (l9.map cv) else pr21_Expand.j5 k s0 lo hi 1000 out (wrap64 (c + 1)) (d * 86400 + s0 % 86400) false r0 r1 r2 r3 l7 l8 (l9.map cv))=pr21_Expand.j5 k s0 lo hi 1000 out (wrap64 (c + 1)) (d * 86400 + s0 % 86400) z r0 r1 r2 r3 l7 l8 (l9.map cv):=by
          by_cases q2:r3 ≥ 0
          ·rw [if_pos q2,hz,decide_eq_true q2,Bool.true_and]
          ·rw [if_neg q2,hz,decide_eq_false q2,Bool.false_and]
         by_cases q0:r2 > 0
         ·rw [if_pos q0,if_neg (fun h=>q1 ⟨q0,h⟩)]
          exact inner
         ·rw [if_neg q0]
          exact inner
        cases hz:(decide (r3 ≥ 0) && decide (d * 86400 + s0 % 86400 > r3)) with
        | true =>
         rw [if_pos rfl]
         exact st _ true hz.symm (j5t _)
        | false =>
         rw [if_neg (by decide)]
         exact st _ false hz.symm h5
      by_cases cf:d=s0 / 86400
      ·rw [List.filter_cons_of_pos (by simp [cf])]
       refine Ev.step (fun k=>?_) (j4f _ (fun o ho=>nxt (wrap64 (c + 1)) o ho))
       simp only [pr21_Expand.j3,if_true]
       rw [if_neg (by omega)]
      ·have eA:wrap64 (Int.tdiv s0 86400)=s0 / 86400:=by rw [tdivI hs.1];unfold wrap64;omega
       have eB:wrap64 (Int.tdiv (d * 86400 + s0 % 86400) 86400)=d:=by rw [tdivI (by omega)];unfold wrap64;omega
       refine Ev.step (fun k=>by simp only [pr21_Expand.j3,if_true,eA,eB];rw [if_pos (show d * 86400 + s0 % 86400 > s0 by omega)]) ?_
       refine Ev.bind (hM d hd (by omega)) ?_
       cases hf:fits r0 r1 r2 r3 l7 l8 l9 (s0 / 86400) d with
       | true =>
        rw [List.filter_cons_of_pos (by simp [hf])]
        exact j4f _ (fun o ho=>nxt (wrap64 (c + 1)) o ho)
       | false =>
        rw [List.filter_cons_of_neg (by simp [hf,cf])]
        exact j4t _ (nxt c out hl)
    ·rw [run_full r2 r3 s0 lo hi c out (by omega)]
     refine Ev.step (f:=fun k=>pr21_Expand.j3 k s0 lo hi 1000 out c (d * 86400 + s0 % 86400) false r0 r1 r2 r3 l7 l8 (l9.map cv)) (fun k=>?_) (j3f _ _ _)
     simp only [pr21_Expand.l0]
     rw [if_pos ct,decide_eq_false cl]
   ·have hend:Expand.exRun r2 r3 s0 lo hi 1000 c out ((span 1 (min (hi / 86400) 2932896) (n + 1) d).filter fun x=>x == s0 / 86400 || fits r0 r1 r2 r3 l7 l8 l9 (s0 / 86400) x)=out:=by
     by_cases hdl:d≤min (hi / 86400) 2932896
     ·have etime:Expand.exTime s0 d=d * 86400 + s0 % 86400:=time_eq (by omega) (by omega)
      have hsp:span 1 (min (hi / 86400) 2932896) (n + 1) d = [d]:=by
       rw [span,if_pos hdl]
       congr 1
       cases n with
       | zero=>rfl
       | succ n=>rw [span,if_neg (by omega)]
      rw [hsp,List.filter_cons]
      split
      ·simp only [Expand.exRun]
       rw [if_pos (by unfold Expand.exStop;rw [etime,decide_eq_true (by omega)];rfl)]
      ·rfl
     ·rw [span,if_neg hdl]
      rfl
    rw [hend]
    refine Ev.step (f:=fun k=>pr21_Expand.j3 k s0 lo hi 1000 out c (d * 86400 + s0 % 86400) false r0 r1 r2 r3 l7 l8 (l9.map cv)) (fun k=>?_) (j3f _ _ _)
    simp only [pr21_Expand.l0]
    rw [if_neg ct]
 unfold pr21_Expand.f
 refine Ev.bind hr ?_
 simp only [if_true,time12,Option.bind_some,decide_eq_true hs,decide_eq_true hlo,decide_eq_true hhi,Bool.not_true]
 refine Ev.step (f:=fun k=>pr21_Expand.j1 k s0 lo hi 1000 false r0 r1 r2 r3 l7 l8 (l9.map cv)) (fun k=>?_) ?_
 ·simp only [pr21_Expand.j0,Bool.false_eq_true,if_false]
  rw [if_neg (by omega),if_neg (by omega),decide_eq_false (show ¬(wrap64 (hi - s0) > 631152000) by unfold wrap64;omega)]
 ·refine Ev.step (f:=fun k=>pr21_Expand.l0 k s0 lo hi 1000 [] 0 s0 r0 r1 r2 r3 l7 l8 (l9.map cv)) (fun k=>by simp only [pr21_Expand.j1,Bool.false_eq_true,if_false]) ?_
  have h:=loop 3000000 (s0 / 86400) 0 [] (Int.le_refl _) (by omega) (by simp)
  rw [show s0 / 86400 * 86400 + s0 % 86400=s0 from by omega] at h
  rw [hdays]
  exact h
end
end Go.Proofs.YtkgkblmeafhkfaaGreat.Exp

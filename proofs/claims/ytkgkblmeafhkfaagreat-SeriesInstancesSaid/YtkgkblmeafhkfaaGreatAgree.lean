/- The program's calendar and matching, and the document's: they agree. -/
import Derived.Test.YtkgkblmeafhkfaaGreatMatch
import Derived.Test.YtkgkblmeafhkfaaGreatPHx23
set_option linter.unusedVariables false
namespace Go.Proofs.YtkgkblmeafhkfaaGreat.Agree
open Go.RowKit Go.Proofs.YtkgkblmeafhkfaaGreatW.PrintWords Go.Proofs.YtkgkblmeafhkfaaGreatW.PrintLast Go.Proofs.YtkgkblmeafhkfaaGreatW.PrintMore Go.Proofs.YtkgkblmeafhkfaaGreat.PH Go.Proofs.YtkgkblmeafhkfaaGreat.Cal Go.Proofs.YtkgkblmeafhkfaaGreat.Base Go.Proofs.YtkgkblmeafhkfaaGreat.Match
/-- Both come to one value. -/
def Both {α:Type} (g h:Nat→Option α):Prop:=∃ r,Ev g r∧Ev h r
theorem both_now {α:Type} (r:α):Both (fun _=>some r) (fun _=>some r):=⟨r,Ev.now _,Ev.now _⟩
theorem both_ev {α:Type} {g h:Nat→Option α} {r:α} (h1:Ev g r) (h2:Ev h r):Both g h:=⟨r,h1,h2⟩
theorem both_bind {α β:Type} {g h:Nat→Option α} {f f':Nat→α→Option β} (b:Both g h) (k:∀ a,Both (fun n=>f n a) (fun n=>f' n a)):Both (fun n=>(g n).bind (f n)) (fun n=>(h n).bind (f' n)):=by
 obtain ⟨r,h1,h2⟩:=b
 obtain ⟨s,h3,h4⟩:=k r
 exact ⟨s,Ev.bind h1 h3,Ev.bind h2 h4⟩
theorem both_l {α:Type} {g g' h:Nat→Option α} (e:∀ k,g (k + 1)=g' k) (b:Both g' h):Both g h:=by
 obtain ⟨r,h1,h2⟩:=b
 exact ⟨r,Ev.step e h1,h2⟩
theorem both_r {α:Type} {g h h':Nat→Option α} (e:∀ k,h (k + 1)=h' k) (b:Both g h'):Both g h:=by
 obtain ⟨r,h1,h2⟩:=b
 exact ⟨r,h1,Ev.step e h2⟩
theorem both_lb {α β:Type} {g:Nat→Option α} {f:Nat→α→Option β} {h:Nat→Option β} {a:α} (e:Ev g a) (b:Both (fun n=>f n a) h):Both (fun n=>(g n).bind (f n)) h:=by
 obtain ⟨r,h1,h2⟩:=b
 exact ⟨r,Ev.bind e h1,h2⟩
theorem both_rb {α β:Type} {g:Nat→Option α} {f:Nat→α→Option β} {h:Nat→Option β} {a:α} (e:Ev g a) (b:Both h (fun n=>f n a)):Both h (fun n=>(g n).bind (f n)):=by
 obtain ⟨r,h1,h2⟩:=b
 exact ⟨r,h1,Ev.bind e h2⟩
theorem both_ite {α:Type} {c c':Prop} [Decidable c] [Decidable c'] {f g f' g':Nat→Option α} (e:c ↔ c') (h1:c→Both f f') (h2:¬c→Both g g'):Both (fun n=>if c then f n else g n) (fun n=>if c' then f' n else g' n):=by
 by_cases h:c
 ·simp only [if_pos h,if_pos (e.1 h)]
  exact h1 h
 ·simp only [if_neg h,if_neg (fun x=>h (e.2 x))]
  exact h2 h
theorem ev_one {α:Type} {g:Nat→Option α} {a b:α} (h1:Ev g a) (h2:Ev g b):a=b:=by
 obtain ⟨K1,h1⟩:=h1
 obtain ⟨K2,h2⟩:=h2
 have e1:=h1 (max K1 K2) (Nat.le_max_left _ _)
 have e2:=h2 (max K1 K2) (Nat.le_max_right _ _)
 exact Option.some.inj (e1.symm.trans e2)
/-! ### the calendar -/
theorem year12 {y:Int} (h:0≤y):pr12_Year.f y=some (365 + leapZ y):=by
 unfold pr12_Year.f leapZ leapB
 simp only [tmodI h]
 by_cases c1:y % 400=0
 ·rw [if_pos c1,decide_eq_true (by omega)];rfl
 ·rw [if_neg c1]
  by_cases c2:y % 4=0
  ·rw [if_pos c2]
   by_cases c3:y % 100=0
   ·rw [if_pos c3,decide_eq_false (by omega)];rfl
   ·rw [if_neg c3,decide_eq_true (by omega)];rfl
  ·rw [if_neg c2,decide_eq_false (by omega)];rfl
theorem month12 {y m:Int} (hy:0≤y) (h1:1≤m) (h2:m≤12):Ev (fun k=>pr12_Month.f k y m) (monthZ y m):=by
 have hl:=leapZ_01 y
 have j0:∀ b:Bool,Ev (fun k=>pr12_Month.j0 k y m b) (if b=true then 30 else if m=2 then 28 + leapZ y else 31):=by
  intro b
  refine Ev.step (f:=fun _=>some (if b=true then 30 else if m=2 then 28 + leapZ y else 31)) (fun k=>?_) (Ev.now _)
  simp only [pr12_Month.j0,year12 hy,Option.bind_some]
  cases b with
  | true=>rfl
  | false =>
   simp only [Bool.false_eq_true,if_false]
   by_cases e:m=2
   ·rw [if_pos e,if_pos e,show wrap64 (365 + leapZ y - 337)=28 + leapZ y from by unfold wrap64;omega]
   ·rw [if_neg e,if_neg e]
 have val:∀ b:Bool,(b=true ↔ (m=4∨m=6∨m=9∨m=11))→(if b=true then (30:Int) else if m=2 then 28 + leapZ y else 31)=monthZ y m:=by
  intro b hb
  unfold monthZ when_month.tab
  by_cases c:b=true
  ·have:=hb.1 c
   rw [if_pos c,if_neg (by omega),if_neg (by omega),if_neg (by omega),if_pos (by omega)]
  ·have:¬(m=4∨m=6∨m=9∨m=11):=fun h=>c (hb.2 h)
   rw [if_neg c]
   by_cases e:m=2
   ·rw [if_pos e,if_pos e]
   ·rw [if_neg e,if_neg e,if_neg (by omega),if_neg (by omega),if_neg (by omega)]
 unfold pr12_Month.f
 by_cases c4:m=4
 ·simp only [if_pos c4]
  rw [← val (m == 4) (by simp [c4])];exact j0 _
 ·simp only [if_neg c4]
  by_cases c6:m=6
  ·simp only [if_pos c6]
   rw [← val (m == 6) (by simp [c6])];exact j0 _
  ·simp only [if_neg c6]
   by_cases c9:m=9
   ·simp only [if_pos c9]
    rw [← val (m == 9) (by simp [c9])];exact j0 _
   ·simp only [if_neg c9]
    rw [← val (m == 11) (by simp [c4,c6,c9])];exact j0 _
theorem cum_up (y:Int) {a b:Nat} (h:a≤b):cum y a≤cum y b:=by
 induction h with
 | refl=>exact Int.le_refl _
 | @step n _ ih=>have:=cum_mono y n;show cum y a≤cum y (n + 1);omega
theorem civil12 {d y:Int} {m:Nat} {dd:Int} (h:Is d y m dd) (h0:0≤d) (h1:d≤2932896):Ev (fun k=>pr12_Civil.f k d) (y,((m + 1:Nat):Int),dd,0):=by
 obtain ⟨hy0,hy1,hm,hd1,hd2,heq⟩:=h
 have hc12:=cum_12 y
 have hcm:cum y (m + 1)=cum y m + monthZ y ((m + 1:Nat):Int):=rfl
 have hup:=cum_up y (show m + 1≤12 by omega)
 have hcn:=cum_nonneg y m
 have hbb:=before_bound hy0 (show y≤10000 by omega)
 have hmb:=month_bound y ((m + 1:Nat):Int) (by omega)
 have ml:∀ n mm:Nat,mm + n=m→Ev (fun k=>pr12_Civil.l1 k (d - beforeZ y - cum y mm) y ((mm + 1:Nat):Int)) (y,((m + 1:Nat):Int),dd,0):=by
  intro n
  induction n with
  | zero =>
   intro mm e
   obtain rfl:mm=m:=by omega
   refine Ev.step (fun k=>by simp only [pr12_Civil.l1];rfl) ?_
   refine Ev.bind (month12 (by omega) (by omega) (by omega)) ?_
   have hw:wrap64 (d - beforeZ y - cum y mm + 1)=dd:=by unfold wrap64;omega
   simp only [if_neg (show ¬(d - beforeZ y - cum y mm ≥ monthZ y ((mm + 1:Nat):Int)) by omega),hw]
   exact Ev.now _
  | succ n ih =>
   intro mm e
   have h3:=cum_up y (show mm + 1≤m by omega)
   have h4:cum y (mm + 1)=cum y mm + monthZ y ((mm + 1:Nat):Int):=rfl
   have h5:=cum_nonneg y mm
   have h6:=month_bound y ((mm + 1:Nat):Int) (by omega)
   refine Ev.step (fun k=>by simp only [pr12_Civil.l1];rfl) ?_
   refine Ev.bind (month12 (by omega) (by omega) (by omega)) ?_
   simp only [if_pos (show d - beforeZ y - cum y mm ≥ monthZ y ((mm + 1:Nat):Int) by omega)]
   refine Ev.bind (month12 (by omega) (by omega) (by omega)) ?_
   have hw:wrap64 (d - beforeZ y - cum y mm - monthZ y ((mm + 1:Nat):Int))=d - beforeZ y - cum y (mm + 1):=by unfold wrap64;omega
   have hw2:wrap64 (((mm + 1:Nat):Int) + 1)=((mm + 1 + 1:Nat):Int):=by unfold wrap64;omega
   simp only [hw,hw2]
   exact ih (mm + 1) (by omega)
 have yl:∀ (n:Nat) (yy:Int),yy + n=y→1970≤yy→Ev (fun k=>pr12_Civil.l0 k (d - beforeZ yy) yy 1) (y,((m + 1:Nat):Int),dd,0):=by
  intro n
  induction n with
  | zero =>
   intro yy e hyy
   obtain rfl:yy=y:=by omega
   refine Ev.step (f:=fun k=>pr12_Civil.l1 k (d - beforeZ yy) yy 1) (fun k=>?_) ?_
   ·simp only [pr12_Civil.l0,year12 (show 0≤yy by omega),Option.bind_some]
    rw [if_neg (by omega)]
   ·have:=ml m 0 (by omega)
    simpa [cum] using this
  | succ n ih =>
   intro yy e hyy
   have hn:=before_next yy
   have h01:=leapZ_01 yy
   have hmono:beforeZ (yy + 1)≤beforeZ y:=by unfold beforeZ;omega
   have hb2:=before_bound hyy (show yy≤10000 by omega)
   refine Ev.step (f:=fun k=>pr12_Civil.l0 k (d - beforeZ (yy + 1)) (yy + 1) 1) (fun k=>?_) (ih (yy + 1) (by omega) (by omega))
   simp only [pr12_Civil.l0,year12 (show 0≤yy by omega),Option.bind_some]
   rw [if_pos (by omega),show wrap64 (d - beforeZ yy - (365 + leapZ yy))=d - beforeZ (yy + 1) from by unfold wrap64;omega,show wrap64 (yy + 1)=yy + 1 from by unfold wrap64;omega]
 have j0:Ev (fun k=>pr12_Civil.j0 k d false) (y,((m + 1:Nat):Int),dd,0):=by
  refine Ev.step (f:=fun k=>pr12_Civil.l0 k d 1970 1) (fun k=>by simp only [pr12_Civil.j0,Bool.false_eq_true,if_false]) ?_
  have:=yl (y - 1970).toNat 1970 (by omega) (Int.le_refl _)
  have hz:beforeZ 1970=0:=by decide
  rw [hz,Int.sub_zero] at this
  exact this
 unfold pr12_Civil.f
 simp only [if_neg (show ¬(d < 0) by omega),decide_eq_false (show ¬(d > 2932896) by omega)]
 exact j0
theorem weekday20 {d:Int} (h0:0≤d) (h1:d≤2932896):Ev (fun k=>pr20_Weekday.f k d) ((d + 3) % 7,0):=by
 unfold pr20_Weekday.f
 simp only [if_neg (show ¬(d < 0) by omega),decide_eq_false (show ¬(d > 2932896) by omega)]
 refine Ev.step (f:=fun _=>some ((d + 3) % 7,0)) (fun k=>?_) (Ev.now _)
 simp only [pr20_Weekday.j0,Bool.false_eq_true,if_false,tmodI h0]
 by_cases c:d % 7 < 4
 ·rw [if_pos c,show wrap64 (d % 7 + 3)=(d + 3) % 7 from by unfold wrap64;omega]
 ·rw [if_neg c,show wrap64 (d % 7 - 4)=(d + 3) % 7 from by unfold wrap64;omega]
/-! ### lists -/
theorem has21 (l:List Int) (x:Int) (hn:l.length≤9223372036854775807):Ev (fun k=>pr21_has.f k l x) (l.contains x):=by
 have go:∀ (suf:List Int) (i:Nat),l.drop i=suf→Ev (fun k=>pr21_has.l0 k l x (i:Int)) (suf.contains x):=by
  intro suf
  induction suf with
  | nil =>
   intro i hd
   have:=drop_nil hd
   refine Ev.step (f:=fun _=>some false) (fun k=>?_) (Ev.now _)
   simp only [pr21_has.l0]
   rw [if_neg (by omega)]
  | cons o suf ih =>
   intro i hd
   obtain ⟨hi,ho,hd'⟩:=get_drop (d:=(0:Int)) hd
   have hw:=wrapS hi hn
   have ho':rd l (i:Int)=o:=ho
   by_cases e:o=x
   ·refine Ev.step (f:=fun _=>some true) (fun k=>?_) (by simp [e];exact Ev.now _)
    simp only [pr21_has.l0]
    rw [if_pos (by omega),if_pos (by omega),ho',if_pos e]
   ·rw [show (o :: suf).contains x=suf.contains x from by rw [List.contains_cons,beq_eq_false_iff_ne.mpr (fun h=>e h.symm),Bool.false_or]]
    refine Ev.step (fun k=>?_) (ih (i + 1) hd')
    simp only [pr21_has.l0]
    rw [if_pos (by omega),if_pos (by omega),ho',if_neg e,hw]
 exact go l 0 rfl
theorem contains_ev (l:List Int) (x:Int) (hn:l.length≤9223372036854775807):Ev (fun k=>slices_Contains_int_int.f k l x) (l.contains x):=by
 have go:∀ (suf:List Int) (i:Nat),l.drop i=suf→Fin (fun k=>slices_Index_int_int.l0 k l x (l.length:Int) (i:Int)) (fun r=>decide (r ≥ 0)=suf.contains x):=by
  intro suf
  induction suf with
  | nil =>
   intro i hd
   have:=drop_nil hd
   refine fin_step (f:=fun _=>some (-1)) (fun k=>?_) (fin_now rfl)
   simp only [slices_Index_int_int.l0]
   rw [if_neg (by omega)]
  | cons o suf ih =>
   intro i hd
   obtain ⟨hi,ho,hd'⟩:=get_drop (d:=(0:Int)) hd
   have hw:=wrapS hi hn
   have ho':rd l (i:Int)=o:=ho
   refine fin_step (f:=fun k=>if x=o then some (i:Int) else slices_Index_int_int.l0 k l x (l.length:Int) ((i + 1:Nat):Int)) (fun k=>?_) (fin_ite (fun e=>fin_now ?_) (fun e=>fin_mono (ih (i + 1) hd') (fun r hr=>?_)))
   ·simp only [slices_Index_int_int.l0]
    rw [if_pos (by omega),if_pos (by omega),if_pos (by omega),ho',hw]
   ·rw [decide_eq_true (by omega)];simp [e]
   ·rw [hr,List.contains_cons,show (x == o)=false from by simp [e]];rfl
 obtain ⟨r,hr,hp⟩:=go l 0 rfl
 unfold slices_Contains_int_int.f slices_Index_int_int.f
 have:=Ev.bind (f:=fun _ t=>some (decide (t ≥ 0))) hr (Ev.now _)
 rw [hp] at this
 exact this
/-- A weekday as the document's. -/
def cv (x:S91):S92:=⟨x.f0,x.f1⟩
theorem on21 (r0 r1 r2 r3:Int) (l7 l8:List Int) (l9:List S92) (a:Int) (hn:l9.length≤9223372036854775807):Ev (fun k=>pr21_on.f k r0 r1 r2 r3 l7 l8 l9 a) (l9.any fun w=>w.f0 == a):=by
 have go:∀ (suf:List S92) (i:Nat),l9.drop i=suf→Ev (fun k=>pr21_on.l0 k a (i:Int) r0 r1 r2 r3 l7 l8 l9) (suf.any fun w=>w.f0 == a):=by
  intro suf
  induction suf with
  | nil =>
   intro i hd
   have:=drop_nil hd
   refine Ev.step (f:=fun _=>some false) (fun k=>?_) (Ev.now _)
   simp only [pr21_on.l0]
   rw [if_neg (by omega)]
  | cons o suf ih =>
   intro i hd
   obtain ⟨hi,ho,hd'⟩:=get_drop (d:=z92) hd
   have hw:=wrapS hi hn
   have ho':rd_T92 l9 (i:Int)=o:=ho
   rw [List.any_cons]
   by_cases e:o.f0=a
   ·rw [show (o.f0 == a)=true from by simp [e],Bool.true_or]
    refine Ev.step (f:=fun _=>some true) (fun k=>?_) (Ev.now _)
    simp only [pr21_on.l0]
    rw [if_pos (by omega),if_pos (by omega),ho',if_pos e]
   ·rw [show (o.f0 == a)=false from by simp [e],Bool.false_or]
    refine Ev.step (fun k=>?_) (ih (i + 1) hd')
    simp only [pr21_on.l0]
    rw [if_pos (by omega),if_pos (by omega),ho',if_neg e,hw]
 exact go l9 0 rfl
theorem on_ev (r0 r1 r2 r3:Int) (l7 l8:List Int) (l9:List S91) (a:Int) (hn:l9.length≤9223372036854775807):Ev (fun k=>recur_Rule_on.f k r0 r1 r2 r3 l7 l8 l9 a) (decide (l9.length=0) || l9.any fun w=>a == w.f0 && 0 == w.f1):=by
 have go:∀ (suf:List S91) (i:Nat),l9.drop i=suf→Fin (fun k=>recur_Weekday_123.l0 k l9 (l9.length:Int) (i:Int) a 0) (fun r=>decide (r ≥ 0)=suf.any fun w=>a == w.f0 && 0 == w.f1):=by
  intro suf
  induction suf with
  | nil =>
   intro i hd
   have:=drop_nil hd
   refine fin_step (f:=fun _=>some (-1)) (fun k=>?_) (fin_now rfl)
   simp only [recur_Weekday_123.l0]
   rw [if_neg (by omega)]
  | cons o suf ih =>
   intro i hd
   obtain ⟨hi,ho,hd'⟩:=get_drop (d:=z91) hd
   have hw:=wrapS hi hn
   have ho':rd_T91 l9 (i:Int)=o:=ho
   refine fin_step (f:=fun k=>if (a == o.f0 && 0 == o.f1)=true then some (i:Int) else recur_Weekday_123.l0 k l9 (l9.length:Int) ((i + 1:Nat):Int) a 0) (fun k=>?_) (fin_ite (fun e=>fin_now ?_) (fun e=>fin_mono (ih (i + 1) hd') (fun r hr=>?_)))
   ·simp only [recur_Weekday_123.l0]
    rw [if_pos (by omega),if_pos (by omega),if_pos (by omega),ho',hw]
   ·rw [decide_eq_true (by omega),List.any_cons,e,Bool.true_or]
   ·rw [hr,List.any_cons,Bool.eq_false_iff.mpr e,Bool.false_or]
 obtain ⟨r,hr,hp⟩:=go l9 0 rfl
 unfold recur_Rule_on.f recur_Weekday_117.f recur_Weekday_123.f
 by_cases c:(l9.length:Int)=0
 ·simp only [if_pos c,decide_eq_true (show l9.length=0 by omega),Bool.true_or]
  exact Ev.now _
 ·simp only [if_neg c,decide_eq_false (show ¬l9.length=0 by omega),Bool.false_or]
  rw [← hp]
  exact Ev.bind (Ev.bind (f:=fun _ t=>some (decide (t ≥ 0))) hr (Ev.now _)) (Ev.now _)
/-! ### which one of its month a weekday is -/
theorem nth_ev {d n o:Int} (hd:1≤d) (hdn:d≤n) (hn:n≤31) (ho : -5≤o∧o≤5):Ev (fun k=>pr21_nth.f k d n o) (o == 0 || o == (d + 6) / 7 || o == -((n - d) / 7 + 1)):=by
 have up:∀ (N:Nat) (c x:Int),x≤7 * (N:Int)→-6≤x→0≤c→c + (N:Int)≤100→Ev (fun k=>pr21_nth.l0 k o c x) (c + (x + 6) / 7 == o):=by
  intro N
  induction N with
  | zero =>
   intro c x h1 h2 h3 h4
   refine Ev.step (f:=fun _=>some (c + (x + 6) / 7 == o)) (fun k=>?_) (Ev.now _)
   simp only [pr21_nth.l0]
   rw [if_neg (by omega),show c + (x + 6) / 7=c from by omega]
  | succ N ih =>
   intro c x h1 h2 h3 h4
   by_cases e:x ≥ 1
   ·have h:=ih (c + 1) (x - 7) (by omega) (by omega) (by omega) (by omega)
    rw [show c + 1 + (x - 7 + 6) / 7=c + (x + 6) / 7 from by omega] at h
    refine Ev.step (fun k=>?_) h
    simp only [pr21_nth.l0]
    rw [if_pos e,show wrap64 (c + 1)=c + 1 from by unfold wrap64;omega,show wrap64 (x - 7)=x - 7 from by unfold wrap64;omega]
   ·refine Ev.step (f:=fun _=>some (c + (x + 6) / 7 == o)) (fun k=>?_) (Ev.now _)
    simp only [pr21_nth.l0]
    rw [if_neg e,show c + (x + 6) / 7=c from by omega]
 have dn:∀ (N:Nat) (c x:Int),n - x < 7 * (N:Int)→x≤n + 7→1≤x→0≤c→c + (N:Int)≤100→Ev (fun k=>pr21_nth.l1 k n o c x) (c + (n - x + 7) / 7 == -o):=by
  intro N
  induction N with
  | zero =>
   intro c x h1 h2 h0 h3 h4
   refine Ev.step (f:=fun _=>some (c + (n - x + 7) / 7 == -o)) (fun k=>?_) (Ev.now _)
   simp only [pr21_nth.l1]
   rw [if_neg (by omega),show c + (n - x + 7) / 7=c from by omega,show wrap64 (-o) = -o from by unfold wrap64;omega]
  | succ N ih =>
   intro c x h1 h2 h0 h3 h4
   by_cases e:x≤n
   ·have h:=ih (c + 1) (x + 7) (by omega) (by omega) (by omega) (by omega) (by omega)
    rw [show c + 1 + (n - (x + 7) + 7) / 7=c + (n - x + 7) / 7 from by omega] at h
    refine Ev.step (fun k=>?_) h
    simp only [pr21_nth.l1]
    rw [if_pos e,show wrap64 (c + 1)=c + 1 from by unfold wrap64;omega,show wrap64 (x + 7)=x + 7 from by unfold wrap64;omega]
   ·refine Ev.step (f:=fun _=>some (c + (n - x + 7) / 7 == -o)) (fun k=>?_) (Ev.now _)
    simp only [pr21_nth.l1]
    rw [if_neg e,show c + (n - x + 7) / 7=c from by omega,show wrap64 (-o) = -o from by unfold wrap64;omega]
 unfold pr21_nth.f
 by_cases c0:o=0
 ·simp only [if_pos c0]
  rw [show (o == 0)=true from by simp [c0],Bool.true_or,Bool.true_or]
  exact Ev.now _
 ·simp only [if_neg c0]
  by_cases c1:o > 0
  ·simp only [if_pos c1]
   have h:=up 5 0 d (by omega) (by omega) (Int.le_refl _) (by omega)
   rw [show (0 + (d + 6) / 7 == o)=(o == 0 || o == (d + 6) / 7 || o == -((n - d) / 7 + 1)) from by
    rw [Bool.eq_iff_iff];simp only [beq_iff_eq,Bool.or_eq_true];omega] at h
   exact h
  ·simp only [if_neg c1]
   have h:=dn 5 0 d (by omega) (by omega) hd (Int.le_refl _) (by omega)
   rw [show (0 + (n - d + 7) / 7 == -o)=(o == 0 || o == (d + 6) / 7 || o == -((n - d) / 7 + 1)) from by
    rw [Bool.eq_iff_iff];simp only [beq_iff_eq,Bool.or_eq_true];omega] at h
   exact h
theorem cv_drop {l:List S91} {i:Nat} {o:S91} {suf:List S91} (h:l.drop i=o :: suf) (hi:i < l.length):rd_T92 (l.map cv) (i:Int)=cv o:=by
 have e:l[i] = o:=by
  rw [List.drop_eq_getElem_cons hi] at h
  injection h
 simp [rd_T92,hi,e]
section
variable (r0 r1 r2 r3:Int) (l7 l8:List Int) (l9:List S91)
theorem month_loop21 {d wd n:Int} (hd:1≤d) (hdn:d≤n) (hn:n≤31) (h9:l9.length≤77) (hok:∀ x,x∈l9→okDay x):∀ (suf:List S91) (i:Nat),l9.drop i=suf →
  Ev (fun k=>pr21_month.l0 k d wd n (i:Int) r0 r1 r2 r3 l7 l8 (l9.map cv)) (suf.any (recur_Rule_may.fitsB wd ((d + 6) / 7) (-((n - d) / 7 + 1))) || decide (l9.length=0)):=by
 have hlen:((l9.map cv).length:Int)=(l9.length:Int):=by rw [List.length_map]
 intro suf
 induction suf with
 | nil =>
  intro i hdr
  have:=drop_nil hdr
  refine Ev.step (f:=fun _=>some (decide (l9.length=0))) (fun k=>?_) (Ev.now _)
  simp only [pr21_month.l0]
  rw [if_neg (by omega),hlen]
  congr 1
  rw [Bool.eq_iff_iff];simp only [beq_iff_eq,decide_eq_true_eq];omega
 | cons o suf ih =>
  intro i hdr
  obtain ⟨hi,ho,hd'⟩:=get_drop (d:=z91) hdr
  have hw:=wrapS hi (by omega)
  have ho':=cv_drop hdr hi
  have hm:o∈l9:=List.mem_of_mem_drop (hdr ▸ List.mem_cons_self)
  obtain ⟨-,-,o1,o2⟩:=hok o hm
  have nx:=ih (i + 1) hd'
  rw [List.any_cons]
  have e0:(cv o).f0=o.f0:=rfl
  have e1:(cv o).f1=o.f1:=rfl
  by_cases c:o.f0=wd
  ·have hN:=nth_ev hd hdn hn (o:=o.f1) ⟨o1,o2⟩
   have ef:recur_Rule_may.fitsB wd ((d + 6) / 7) (-((n - d) / 7 + 1)) o=(o.f1 == 0 || o.f1 == (d + 6) / 7 || o.f1 == -((n - d) / 7 + 1)):=by
    unfold recur_Rule_may.fitsB
    rw [show (o.f0 == wd)=true from by simp [c],Bool.true_and]
   rw [ef]
   refine Ev.step (fun k=>by simp only [pr21_month.l0,ho',e0,e1,if_pos c,hw];rw [if_pos (by omega),if_pos (by omega)]) ?_
   refine Ev.bind hN ?_
   cases hb:(o.f1 == 0 || o.f1 == (d + 6) / 7 || o.f1 == -((n - d) / 7 + 1)) with
   | true=>simp only [if_true,Bool.true_or];exact Ev.now _
   | false=>simp only [Bool.false_eq_true,if_false,Bool.false_or];exact nx
  ·have ef:recur_Rule_may.fitsB wd ((d + 6) / 7) (-((n - d) / 7 + 1)) o=false:=by
    unfold recur_Rule_may.fitsB
    rw [show (o.f0 == wd)=false from by simp [c],Bool.false_and]
   rw [ef,Bool.false_or]
   exact Ev.step (fun k=>by simp only [pr21_month.l0,ho',e0,e1,if_neg c,hw];rw [if_pos (by omega),if_pos (by omega)]) nx
theorem may_both (y m d wd first:Int) (h8:l8.length≤9223372036854775807) (h9:l9.length≤77) (hok:∀ x,x∈l9→okDay x) (hy0:1970≤y) (hy1:y≤9999) (hm0:1≤m) (hm1:m≤12) (hd:1≤d) (hdn:d≤monthZ y m) :
  Both (fun k=>recur_Rule_may.f k r0 r1 r2 r3 l7 l8 l9 y m d wd first) (fun k=>pr21_month.f k r0 r1 r2 r3 l7 l8 (l9.map cv) y m d wd first):=by
 have hmb:=month_bound y m hm0
 have hlen:((l9.map cv).length:Int)=(l9.length:Int):=by rw [List.length_map]
 unfold recur_Rule_may.f recur_Rule_may.g pr21_month.f
 refine both_lb (length_ev y m hy0 hy1 hm0 hm1) ?_
 refine both_rb (month12 (by omega) hm0 hm1) ?_
 have hfr:wrap64 ((wrap64 (d + 6)).tdiv 7)=(d + 6) / 7:=by
  rw [show wrap64 (d + 6)=d + 6 from by unfold wrap64;omega,tdivI (by omega)]
  unfold wrap64;omega
 have hbk:wrap64 (-wrap64 (wrap64 ((wrap64 (monthZ y m - d)).tdiv 7) + 1)) = -((monthZ y m - d) / 7 + 1):=by
  rw [show wrap64 (monthZ y m - d)=monthZ y m - d from by unfold wrap64;omega,tdivI (by omega)]
  unfold wrap64;omega
 have hdays:wrap64 (wrap64 (d - 1) - monthZ y m)=wrap64 (wrap64 (d - monthZ y m) - 1):=by unfold wrap64;omega
 have j1t:Ev (fun k=>pr21_month.j1 k d wd (monthZ y m) true r0 r1 r2 r3 l7 l8 (l9.map cv)) false:=Ev.step (f:=fun _=>some false) (fun k=>by simp only [pr21_month.j1,if_true]) (Ev.now _)
 have j1f:Both (fun _:Nat=>if l9.length=0 then some true else if l9.length < 4611686018427387904 then some (l9.any (recur_Rule_may.fitsB wd (wrap64 ((wrap64 (d + 6)).tdiv 7)) (wrap64 (-wrap64 (wrap64 ((wrap64 (monthZ y m - d)).tdiv 7) + 1))))) else none) (fun k=>pr21_month.j1 k d wd (monthZ y m) false r0 r1 r2 r3 l7 l8 (l9.map cv)):=by
  refine both_r (h':=fun k=>pr21_month.l0 k d wd (monthZ y m) 0 r0 r1 r2 r3 l7 l8 (l9.map cv)) (fun k=>by simp only [pr21_month.j1,Bool.false_eq_true,if_false]) ?_
  have h:=month_loop21 r0 r1 r2 r3 l7 l8 l9 (wd:=wd) hd hdn (by omega) h9 hok l9 0 rfl
  rw [hfr,hbk]
  by_cases c:l9.length=0
  ·simp only [if_pos c]
   rw [decide_eq_true c,Bool.or_true] at h
   exact both_ev (Ev.now _) h
  ·simp only [if_neg c,if_pos (show l9.length < 4611686018427387904 by omega)]
   rw [decide_eq_false c,Bool.or_false] at h
   exact both_ev (Ev.now _) h
 have j0f:¬(l8.length=0∧l9.length=0)→Both (fun k=>(if l8.length=0 then some true else (slices_Contains_int_int.f k l8 d).bind fun t=>if t=true then some true else slices_Contains_int_int.f k l8 (wrap64 (wrap64 (d - monthZ y m) - 1))).bind fun ok =>
   if ok=true then (if l9.length=0 then some true else if l9.length < 4611686018427387904 then some (l9.any (recur_Rule_may.fitsB wd (wrap64 ((wrap64 (d + 6)).tdiv 7)) (wrap64 (-wrap64 (wrap64 ((wrap64 (monthZ y m - d)).tdiv 7) + 1))))) else none) else some false) (fun k=>pr21_month.j0 k d wd first (monthZ y m) false r0 r1 r2 r3 l7 l8 (l9.map cv)):=by
  intro hc
  by_cases c8:l8.length=0
  ·simp only [if_pos c8,Option.bind_some,if_true]
   refine both_r (h':=fun k=>pr21_month.j1 k d wd (monthZ y m) false r0 r1 r2 r3 l7 l8 (l9.map cv)) (fun k=>?_) j1f
   simp only [pr21_month.j0,Bool.false_eq_true,if_false]
   rw [if_neg (by omega)]
  ·simp only [if_neg c8]
   refine both_r (fun k=>by simp only [pr21_month.j0,Bool.false_eq_true,if_false];rw [if_pos (show (l8.length:Int) > 0 by omega)]) ?_
   refine both_rb (has21 l8 d h8) ?_
   cases hb:l8.contains d with
   | true =>
    have e1:Ev (fun k=>(slices_Contains_int_int.f k l8 d).bind fun t=>if t=true then some true else slices_Contains_int_int.f k l8 (wrap64 (wrap64 (d - monthZ y m) - 1))) true:=by
     refine Ev.bind (contains_ev l8 d h8) ?_
     rw [hb]
     simp only [if_true]
     exact Ev.now _
    refine both_lb e1 ?_
    simp only [if_true]
    exact j1f
   | false =>
    have e1:Ev (fun k=>(slices_Contains_int_int.f k l8 d).bind fun t=>if t=true then some true else slices_Contains_int_int.f k l8 (wrap64 (wrap64 (d - monthZ y m) - 1))) (l8.contains (wrap64 (wrap64 (d - monthZ y m) - 1))):=by
     refine Ev.bind (contains_ev l8 d h8) ?_
     rw [hb]
     simp only [Bool.false_eq_true,if_false]
     exact contains_ev l8 _ h8
    refine both_lb e1 ?_
    simp only [Bool.false_eq_true,if_false]
    refine both_rb (has21 l8 _ h8) ?_
    rw [hdays]
    cases hu:l8.contains (wrap64 (wrap64 (d - monthZ y m) - 1)) with
    | true=>simp only [if_true,Bool.not_true];exact j1f
    | false=>simp only [Bool.false_eq_true,if_false,Bool.not_false];exact both_ev (Ev.now _) j1t
 by_cases c:l8.length=0∧l9.length=0
 ·simp only [if_pos c,if_pos (show (l8.length:Int)=0 by omega),hlen]
  refine both_r (h':=fun _=>some (d == first)) (fun k=>?_) (both_now _)
  simp only [pr21_month.j0]
  rw [if_pos (by simp [c.2])]
 ·simp only [if_neg c]
  by_cases c8:(l8.length:Int)=0
  ·simp only [if_pos c8,hlen,show ((l9.length:Int) == 0)=false from by simp;intro h;exact c ⟨by omega,by simp [h]⟩]
   exact j0f c
  ·simp only [if_neg c8]
   exact j0f c
/-! ### matching -/
set_option maxRecDepth 100000 in
theorem match_both (a b:Int) (h7:l7.length≤9223372036854775807) (h8:l8.length≤9223372036854775807) (h9:l9.length≤77) (hok:∀ x,x∈l9→okDay x) (hz:r0≤2→∀ x,x∈l9→x.f1=0) (hr:1≤r1)
  (ha:0≤a) (hab:a≤b) (hb:b≤2932896):Both (fun k=>recur_match.f k r0 r1 r2 r3 l7 l8 l9 a b) (fun k=>pr21_Matches.f k r0 r1 r2 r3 l7 l8 (l9.map cv) a b):=by
 obtain ⟨y0,m0,d0,hI0,hE0⟩:=civil_ev a ha (by omega)
 obtain ⟨y,m,d,hI,hE⟩:=civil_ev b (by omega) hb
 have hlen:((l9.map cv).length:Int)=(l9.length:Int):=by rw [List.length_map]
 have hmay:=fun first wd=>may_both r0 r1 r2 r3 l7 l8 l9 y ((m + 1:Nat):Int) d wd first h8 h9 hok hI.y0 hI.y1 (by omega) (by have:=hI.m1;omega) hI.d1 hI.d2
 have hmayb:∀ first wd,Both (fun k=>(recur_Rule_may.f k r0 r1 r2 r3 l7 l8 l9 y ((m + 1:Nat):Int) d wd first).bind fun t=>some t) (fun k=>(pr21_month.f k r0 r1 r2 r3 l7 l8 (l9.map cv) y ((m + 1:Nat):Int) d wd first).bind fun t=>some t):=fun first wd=>both_bind (hmay first wd) (fun _=>both_now _)
 have anyEq:r0≤2→∀ wd,(l9.any fun w=>wd == w.f0 && 0 == w.f1)=((l9.map cv).any fun w=>w.f0 == wd):=by
  intro h2 wd
  rw [List.any_map]
  have:∀ l:List S91,(∀ x,x∈l→x.f1=0)→(l.any fun w=>wd == w.f0 && 0 == w.f1)=(l.any ((fun w:S92=>w.f0 == wd) ∘ cv)):=by
   intro l
   induction l with
   | nil=>intro _;rfl
   | cons x l ih =>
    intro hx
    rw [List.any_cons,List.any_cons,ih (fun y hy=>hx y (List.mem_cons_of_mem _ hy)),hx x List.mem_cons_self]
    congr 1
    show (wd == x.f0 && (0:Int) == 0)=(x.f0 == wd)
    rw [show ((0:Int) == 0)=true from rfl,Bool.and_true,Bool.eq_iff_iff]
    simp only [beq_iff_eq]
    exact ⟨fun h=>h.symm,fun h=>h.symm⟩
  exact this l9 (hz h2)
 have j:∀ (z:Bool) (wd w0:Int),Both (fun k=>recur_match.j0 k a b y0 ((m0 + 1:Nat):Int) d0 y ((m + 1:Nat):Int) d wd w0 r1 z r0 r1 r2 r3 l7 l8 l9) (fun k=>pr21_Matches.j0 k a b y ((m + 1:Nat):Int) d y0 ((m0 + 1:Nat):Int) d0 wd w0 z r0 r1 r2 r3 l7 l8 (l9.map cv)):=by
  intro z wd w0
  have hr1:¬r1=0:=by omega
  have em:wrap64 (wrap64 (wrap64 (12 * wrap64 (y - y0)) + ((m + 1:Nat):Int)) - ((m0 + 1:Nat):Int))=wrap64 (wrap64 (wrap64 (wrap64 (12 * y) + ((m + 1:Nat):Int)) - wrap64 (12 * y0)) - ((m0 + 1:Nat):Int)):=by
   have:=hI.y0;have:=hI.y1;have:=hI0.y0;have:=hI0.y1;have:=hI.m1;have:=hI0.m1
   unfold wrap64;omega
  refine both_l (fun k=>recur_match.j0.eq_2 ..) ?_
  refine both_r (fun k=>pr21_Matches.j0.eq_2 ..) ?_
  simp only [if_neg hr1,hlen]
  refine both_ite Iff.rfl (fun _=>both_now _) (fun _=>?_)
  refine both_ite Iff.rfl (fun c1=>?_) (fun c1=>both_ite Iff.rfl (fun c2=>?_) (fun c2=>both_ite Iff.rfl (fun c3=>?_) (fun c3=>?_)))
  ·refine both_ite Iff.rfl (fun _=>?_) (fun _=>both_now _)
   by_cases c:(l9.length:Int)=0
   ·simp only [if_pos c]
    have:=on_ev r0 r1 r2 r3 l7 l8 l9 wd (by omega)
    rw [decide_eq_true (show l9.length=0 by omega),Bool.true_or] at this
    exact both_ev (Ev.bind this (Ev.now _)) (Ev.now _)
   ·simp only [if_neg c]
    have h1:=on_ev r0 r1 r2 r3 l7 l8 l9 wd (by omega)
    rw [decide_eq_false (show ¬l9.length=0 by omega),Bool.false_or,anyEq (by omega) wd] at h1
    exact both_ev (Ev.bind h1 (Ev.now _)) (Ev.bind (on21 r0 r1 r2 r3 l7 l8 (l9.map cv) wd (by rw [List.length_map];omega)) (Ev.now _))
  ·refine both_ite Iff.rfl (fun _=>?_) (fun _=>both_now _)
   have h2:=on21 r0 r1 r2 r3 l7 l8 (l9.map cv) wd (by rw [List.length_map];omega)
   by_cases c:(l9.length:Int) > 0
   ·simp only [if_pos c]
    have h1:=on_ev r0 r1 r2 r3 l7 l8 l9 wd (by omega)
    rw [decide_eq_false (show ¬l9.length=0 by omega),Bool.false_or,anyEq (by omega) wd] at h1
    exact both_bind (both_ev h1 h2) (fun t=>both_ite Iff.rfl (fun _=>both_now _) (fun _=>both_ite Iff.rfl (fun _=>both_now _) (fun _=>both_now _)))
   ·simp only [if_neg c,if_pos (show (l9.length:Int)=0 by omega)]
    have hl:l9 = []:=List.eq_nil_of_length_eq_zero (by omega)
    rw [hl] at h2
    refine both_ev (Ev.now _) ?_
    have h3:Ev (fun k=>pr21_on.f k r0 r1 r2 r3 l7 l8 (l9.map cv) wd) false:=by rw [hl];exact h2
    refine Ev.bind h3 ?_
    simp only [Bool.false_eq_true,if_false]
    exact Ev.now _
  ·rw [em]
   exact both_ite Iff.rfl (fun _=>hmayb _ _) (fun _=>both_now _)
  ·exact both_ite Iff.rfl (fun _=>both_ite Iff.rfl (fun _=>hmayb _ _) (fun _=>both_ite Iff.rfl (fun _=>hmayb _ _) (fun _=>both_now _))) (fun _=>both_now _)
 unfold recur_match.f pr21_Matches.f
 refine both_lb hE0 ?_
 refine both_lb hE ?_
 simp only [weekday_f ha (by omega),weekday_f (show 0≤b by omega) hb,Option.bind_some,if_neg (show ¬(b < a) by omega)]
 refine both_rb (civil12 hI (by omega) hb) ?_
 refine both_rb (civil12 hI0 ha (by omega)) ?_
 refine both_rb (weekday20 (by omega) hb) ?_
 refine both_rb (weekday20 ha (by omega)) ?_
 exact both_ite Iff.rfl (fun _=>both_bind (both_ev (contains_ev l7 _ h7) (has21 l7 _ h7)) (fun t=>j _ _ _)) (fun _=>j _ _ _)
end
end Go.Proofs.YtkgkblmeafhkfaaGreat.Agree

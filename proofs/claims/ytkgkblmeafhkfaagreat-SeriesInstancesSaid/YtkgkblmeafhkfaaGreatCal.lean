/- The calendar of the program, exactly: leap years, months, days ahead of a year, of a day the year, month and day, and back. -/
import Derived.Test.YtkgkblmeafhkfaaGreatPHx9
namespace Go.Proofs.YtkgkblmeafhkfaaGreat.Cal
open Go.RowKit Go.Proofs.YtkgkblmeafhkfaaGreatW.PrintWords Go.Proofs.YtkgkblmeafhkfaaGreatW.PrintLast Go.Proofs.YtkgkblmeafhkfaaGreatW.PrintMore Go.Proofs.YtkgkblmeafhkfaaGreat.PH
theorem wrapI {n:Int} (h1 : -9223372036854775808≤n) (h2:n≤9223372036854775807):wrap64 n=n:=by unfold wrap64;omega
theorem tmodI {a b:Int} (h:0≤a):Int.tmod a b=a % b:=Int.tmod_eq_emod_of_nonneg h
theorem tdivI {a b:Int} (h:0≤a):Int.tdiv a b=a / b:=Int.tdiv_eq_ediv_of_nonneg h
def leapB (y:Int):Bool:=decide (y % 4=0∧(y % 100≠0∨y % 400=0))
theorem leap_f {y:Int} (h:0≤y):when_leap.f y=some (leapB y):=by
 unfold when_leap.f leapB
 rw [tmodI h,tmodI h,tmodI h]
 by_cases a:y % 4=0
 ·rw [if_pos a]
  by_cases b:y % 100=0
  ·rw [if_pos b]
   congr 1
   by_cases c:y % 400=0
   ·rw [decide_eq_true (by omega),c];rfl
   ·rw [decide_eq_false (by omega)]
    exact beq_eq_false_iff_ne.mpr c
  ·rw [if_neg b,decide_eq_true (by omega)]
 ·rw [if_neg a]
  congr 1
  rw [decide_eq_false (by omega)]
  exact beq_eq_false_iff_ne.mpr (by omega)
def beforeZ (y:Int):Int:=365 * (y - 1970) + (y - 1) / 4 - (y - 1) / 100 + (y - 1) / 400 - 477
theorem before_f {y:Int} (h1:1≤y) (h2:y≤100000):when_before.f y=some (beforeZ y):=by
 unfold when_before.f beforeZ
 congr 1
 have e1:wrap64 (y - 1)=y - 1:=wrapI (by omega) (by omega)
 rw [e1,tdivI (by omega),tdivI (by omega),tdivI (by omega)]
 have e2:wrap64 (y - 1 - 1969)=y - 1 - 1969:=wrapI (by omega) (by omega)
 have e3:wrap64 (365 * (y - 1 - 1969))=365 * (y - 1 - 1969):=wrapI (by omega) (by omega)
 have e4:wrap64 ((y - 1) / 4)=(y - 1) / 4:=wrapI (by omega) (by omega)
 have e5:wrap64 ((y - 1) / 100)=(y - 1) / 100:=wrapI (by omega) (by omega)
 have e6:wrap64 ((y - 1) / 400)=(y - 1) / 400:=wrapI (by omega) (by omega)
 rw [e2,e3,e4,e5,e6]
 have f1:wrap64 (365 * (y - 1 - 1969) + (y - 1) / 4)=365 * (y - 1 - 1969) + (y - 1) / 4:=wrapI (by omega) (by omega)
 rw [f1]
 have f2:wrap64 (365 * (y - 1 - 1969) + (y - 1) / 4 - (y - 1) / 100)=365 * (y - 1 - 1969) + (y - 1) / 4 - (y - 1) / 100:=wrapI (by omega) (by omega)
 rw [f2]
 have f3:wrap64 (365 * (y - 1 - 1969) + (y - 1) / 4 - (y - 1) / 100 + (y - 1) / 400)=365 * (y - 1 - 1969) + (y - 1) / 4 - (y - 1) / 100 + (y - 1) / 400:=wrapI (by omega) (by omega)
 rw [f3,wrapI (by omega) (by omega)]
 omega
def leapZ (y:Int):Int:=if leapB y=true then 1 else 0
theorem before_next (y:Int):beforeZ (y + 1)=beforeZ y + 365 + leapZ y:=by
 unfold beforeZ leapZ leapB
 by_cases c:y % 4=0∧(y % 100≠0∨y % 400=0)
 ·rw [decide_eq_true c,if_pos rfl];omega
 ·rw [decide_eq_false c,if_neg (by decide)];omega
theorem leapZ_01 (y:Int):leapZ y=0∨leapZ y=1:=by
 unfold leapZ
 split
 ·exact .inr rfl
 ·exact .inl rfl
def monthZ (y m:Int):Int:=if m=2 then 28 + leapZ y else when_month.tab m
theorem month_f {y m:Int} (hy:0≤y) (h1:0≤m) (h2:m < 13):when_month.f y m=some (monthZ y m):=by
 unfold when_month.f monthZ
 rw [if_pos ⟨h1,h2⟩]
 by_cases c:m=2
 ·rw [if_pos c,if_pos c,leap_f hy]
  simp only [Option.bind_some]
  unfold leapZ
  cases leapB y <;> rfl
 ·rw [if_neg c,if_neg c]
theorem month_bound (y m:Int) (h1:1≤m):28≤monthZ y m∧monthZ y m≤31:=by
 unfold monthZ when_month.tab
 have:=leapZ_01 y
 split
 ·omega
 ·rename_i h2
  by_cases c0:m=0
  ·omega
  ·rw [if_neg c0]
   split <;> omega
/-- How many days of a year lie ahead of a month's end. -/
def cum (y:Int):Nat→Int
 | 0=>0
 | m + 1=>cum y m + monthZ y ((m + 1:Nat):Int)
theorem cum_12 (y:Int):cum y 12=365 + leapZ y:=by
 simp only [cum,monthZ,when_month.tab]
 simp
 omega
theorem cum_mono (y:Int) (m:Nat):cum y m + 28≤cum y (m + 1):=by
 have:=(month_bound y ((m + 1:Nat):Int) (by omega)).1
 show cum y m + 28≤cum y m + monthZ y ((m + 1:Nat):Int)
 omega
theorem cum_nonneg (y:Int):∀ m,0≤cum y m
 | 0=>Int.le_refl _
 | m + 1=>by have:=cum_nonneg y m;have:=cum_mono y m;omega
theorem cum_le (y:Int):∀ m,m≤12→cum y m≤31 * m
 | 0,_=>Int.le_refl _
 | m + 1,h=>by
  have:=cum_le y m (by omega)
  have:=(month_bound y ((m + 1:Nat):Int) (by omega)).2
  show cum y m + monthZ y ((m + 1:Nat):Int)≤_
  omega
/-- Each day that may be has a year, a month and a day of the month. -/
structure Is (d:Int) (y:Int) (m:Nat) (dd:Int):Prop where
 y0:1970≤y
 y1:y≤9999
 m1:m < 12
 d1:1≤dd
 d2:dd≤monthZ y ((m + 1:Nat):Int)
 eq:d=beforeZ y + cum y m + dd - 1
theorem before_bound {y:Int} (h1:1970≤y) (h2:y≤10000):0≤beforeZ y∧beforeZ y≤2932897:=by unfold beforeZ;omega
theorem month_loop (d y:Int) (hy0:1970≤y) (hy1:y≤9999) (hd:d < beforeZ (y + 1)):∀ (n m:Nat),m + n=12→cum y m≤d - beforeZ y →
  ∃ (m':Nat) (dd:Int),Is d y m' dd∧Ev (fun k=>when_Civil.l1 k y (d - beforeZ y - cum y m) ((m + 1:Nat):Int)) (y,((m' + 1:Nat):Int),dd,0):=by
 have hb:=before_bound hy0 (by omega:y≤10000)
 have hl:=leapZ_01 y
 intro n
 induction n with
 | zero =>
  intro m hm hc
  have:m=12:=by omega
  subst this
  rw [cum_12] at hc
  rw [before_next] at hd
  omega
 | succ n ih =>
  intro m hm hc
  have hbd:=month_bound y ((m + 1:Nat):Int) (by omega)
  have hmf:=month_f (y:=y) (m:=((m + 1:Nat):Int)) (by omega) (by omega) (by omega)
  have hcn:=cum_nonneg y m
  rw [before_next] at hd
  by_cases c:d - beforeZ y - cum y m ≥ monthZ y ((m + 1:Nat):Int)
  ·have e:cum y (m + 1)=cum y m + monthZ y ((m + 1:Nat):Int):=rfl
   obtain ⟨m',dd,h1,h2⟩:=ih (m + 1) (by omega) (by rw [e];omega)
   refine ⟨m',dd,h1,Ev.step (fun k=>?_) h2⟩
   simp only [when_Civil.l1,hmf,Option.bind_some]
   have e1:wrap64 (d - beforeZ y - cum y m - monthZ y ((m + 1:Nat):Int))=d - beforeZ y - cum y (m + 1):=by rw [wrapI (by omega) (by omega),e];omega
   have e2:wrap64 (((m + 1:Nat):Int) + 1)=((m + 1 + 1:Nat):Int):=by rw [wrapI (by omega) (by omega)];omega
   rw [if_pos c,e1,e2]
  ·refine ⟨m,d - beforeZ y - cum y m + 1,⟨hy0,hy1,by omega,by omega,by omega,by omega⟩,Ev.step (f:=fun _=>some (y,((m + 1:Nat):Int),d - beforeZ y - cum y m + 1,0)) (fun k=>?_) (Ev.now _)⟩
   simp only [when_Civil.l1,hmf,Option.bind_some]
   rw [if_neg c,wrapI (by omega) (by omega)]
theorem year_loop (d:Int) (hd0:0≤d) (hd1:d≤2932896):∀ (n:Nat) (y:Int),y + n=9999→1970≤y→beforeZ y≤d →
  ∃ (y':Int) (m':Nat) (dd:Int),Is d y' m' dd∧Ev (fun k=>when_Civil.l0 k d y) (y',((m' + 1:Nat):Int),dd,0):=by
 have out:∀ y,1970≤y→y≤9999→beforeZ y≤d→d < beforeZ (y + 1)→∃ (m':Nat) (dd:Int),Is d y m' dd∧Ev (fun k=>when_Civil.j2 k d y) (y,((m' + 1:Nat):Int),dd,0):=by
  intro y h1 h2 h3 h4
  obtain ⟨m',dd,h5,h6⟩:=month_loop d y h1 h2 h4 12 0 (by omega) (by show (0:Int)≤_;omega)
  refine ⟨m',dd,h5,Ev.step (fun k=>?_) h6⟩
  have hb:=before_bound h1 (by omega:y≤10000)
  simp only [when_Civil.j2,before_f (show 1≤y by omega) (show y≤100000 by omega),Option.bind_some]
  rw [wrapI (by omega) (by omega)]
  show when_Civil.l1 k y (d - beforeZ y) 1=when_Civil.l1 k y (d - beforeZ y - 0) 1
  rw [Int.sub_zero]
 intro n
 induction n with
 | zero =>
  intro y hn h1 h3
  have hy:y=9999:=by omega
  subst hy
  have hlast:d < beforeZ (9999 + 1):=by
   have:beforeZ (9999 + 1)=2932897:=by decide
   omega
  obtain ⟨m',dd,h5,h6⟩:=out 9999 h1 (Int.le_refl _) h3 hlast
  refine ⟨9999,m',dd,h5,Ev.step (fun k=>?_) h6⟩
  simp only [when_Civil.l0]
  rw [if_neg (by omega)]
 | succ n ih =>
  intro y hn h1 h3
  have e1:wrap64 (y + 1)=y + 1:=wrapI (by omega) (by omega)
  by_cases c:beforeZ (y + 1)≤d
  ·obtain ⟨y',m',dd,h5,h6⟩:=ih (y + 1) (by omega) (by omega) c
   refine ⟨y',m',dd,h5,Ev.step (fun k=>?_) h6⟩
   simp only [when_Civil.l0,e1,before_f (show 1≤y + 1 by omega) (show y + 1≤100000 by omega),Option.bind_some]
   rw [if_pos (by omega),if_pos c]
  ·obtain ⟨m',dd,h5,h6⟩:=out y h1 (by omega) h3 (by omega)
   refine ⟨y,m',dd,h5,Ev.step (fun k=>?_) h6⟩
   simp only [when_Civil.l0,e1,before_f (show 1≤y + 1 by omega) (show y + 1≤100000 by omega),Option.bind_some]
   rw [if_pos (by omega),if_neg c]
theorem civil_ev (d:Int) (h0:0≤d) (h1:d≤2932896):∃ (y:Int) (m:Nat) (dd:Int),Is d y m dd∧Ev (fun k=>when_Civil.f k d) (y,((m + 1:Nat):Int),dd,0):=by
 have e1:wrap64 (1970 + wrap64 (Int.tdiv d 366))=1970 + d / 366:=by rw [tdivI h0,wrapI (n:=d / 366) (by omega) (by omega),wrapI (by omega) (by omega)]
 obtain ⟨y,m,dd,h5,h6⟩:=year_loop d h0 h1 (9999 - (1970 + d / 366)).toNat (1970 + d / 366) (by omega) (by omega) (by unfold beforeZ;omega)
 refine ⟨y,m,dd,h5,?_⟩
 unfold when_Civil.f
 simp only [if_neg (show ¬d < 0 by omega)]
 refine Ev.step (fun k=>?_) h6
 simp only [when_Civil.j0,e1]
 rw [if_neg (by simp;omega)]
/-! ### back -/
theorem days_loop (y:Int) (hy0:1970≤y) (hy1:y≤9999) (m:Nat) (hm:m≤12) (x:Int) (hx:0≤x) (hx1:x≤10000000):∀ (n i:Nat),i + n=m→Ev (fun k=>when_Days.l0 k y (x + cum y (i - 1)) ((m:Nat):Int) (i:Int)) (x + cum y (m - 1),0):=by
 intro n
 induction n with
 | zero =>
  intro i hi
  have:i=m:=by omega
  subst this
  refine Ev.step (f:=fun _=>some (x + cum y (i - 1),0)) (fun k=>?_) (Ev.now _)
  simp only [when_Days.l0]
  rw [if_neg (by omega)]
 | succ n ih =>
  intro i hi
  have hw:wrap64 ((i:Int) + 1)=((i + 1:Nat):Int):=by rw [wrapI (by omega) (by omega)];omega
  have nxt:=ih (i + 1) (by omega)
  by_cases c:0 < i
  ·obtain ⟨j,rfl⟩:∃ j,i=j + 1:=⟨i - 1,by omega⟩
   have hmf:=month_f (y:=y) (m:=((j + 1:Nat):Int)) (by omega) (by omega) (by omega)
   have hcl:=cum_le y j (by omega)
   have hcn:=cum_nonneg y j
   have hbd:=month_bound y ((j + 1:Nat):Int) (by omega)
   refine Ev.step (fun k=>?_) nxt
   simp only [when_Days.l0,hmf,Option.bind_some,hw]
   rw [if_pos (by omega),if_pos (by omega)]
   have e:wrap64 (x + cum y (j + 1 - 1) + monthZ y ((j + 1:Nat):Int))=x + cum y (j + 1 + 1 - 1):=by
    show wrap64 (x + cum y j + monthZ y ((j + 1:Nat):Int))=x + (cum y j + monthZ y ((j + 1:Nat):Int))
    rw [wrapI (by omega) (by omega)]
    omega
   rw [e]
  ·have:i=0:=by omega
   subst this
   refine Ev.step (fun k=>?_) nxt
   simp only [when_Days.l0,hw]
   rw [if_pos (by omega),if_neg (by omega)]
/-- A day's number. -/
theorem days_ev (y m d:Int) (hy0:1970≤y) (hy1:y≤9999) (hm0:1≤m) (hm1:m≤12) (hd0:1≤d) (hd1:d≤monthZ y m):Ev (fun k=>when_Days.f k y m d) (beforeZ y + d - 1 + cum y (m.toNat - 1),0):=by
 have hb:=before_bound hy0 (by omega:y≤10000)
 have hbd:=month_bound y m hm0
 have hmf:=month_f (y:=y) (m:=m) (by omega) (by omega) (by omega)
 have h:=days_loop y hy0 hy1 m.toNat (by omega) (beforeZ y + d - 1) (by omega) (by omega) m.toNat 0 (by omega)
 rw [Int.toNat_of_nonneg (by omega)] at h
 unfold when_Days.f
 simp only [if_neg (show ¬y < 1970 by omega),if_neg (show ¬y > 9999 by omega),if_neg (show ¬m < 1 by omega),if_neg (show ¬m > 12 by omega),if_neg (show ¬d < 1 by omega),hmf,Option.bind_some]
 refine Ev.step (fun k=>?_) h
 simp only [when_Days.j0,before_f (show 1≤y by omega) (show y≤100000 by omega),Option.bind_some]
 rw [if_neg (by simp;omega),wrapI (n:=beforeZ y + d) (by omega) (by omega),wrapI (by omega) (by omega)]
 show when_Days.l0 k y (beforeZ y + d - 1) m 0=when_Days.l0 k y (beforeZ y + d - 1 + 0) m 0
 rw [Int.add_zero]
theorem days_none (y m d:Int) (hy0:1970≤y) (hy1:y≤9999) (hm0:1≤m) (hm1:m≤12) (hd0:1≤d) (hd1:monthZ y m < d):Ev (fun k=>when_Days.f k y m d) (0,110):=by
 have hmf:=month_f (y:=y) (m:=m) (by omega) (by omega) (by omega)
 unfold when_Days.f
 simp only [if_neg (show ¬y < 1970 by omega),if_neg (show ¬y > 9999 by omega),if_neg (show ¬m < 1 by omega),if_neg (show ¬m > 12 by omega),if_neg (show ¬d < 1 by omega),hmf,Option.bind_some]
 refine Ev.step (f:=fun _=>some (0,110)) (fun k=>?_) (Ev.now _)
 simp only [when_Days.j0]
 rw [if_pos (by simp;omega)]
/-! ### a month's length -/
theorem length_loop (y m:Int) (hy0:1970≤y) (hy1:y≤9999) (hm0:1≤m) (hm1:m≤12):∀ (n:Nat),n≤3→monthZ y m≤28 + n→Ev (fun k=>recur_length.l0 k y m (28 + (n:Int))) (monthZ y m):=by
 have hbd:=month_bound y m hm0
 intro n
 induction n with
 | zero =>
  intro _ h
  have e:monthZ y m=28:=by omega
  refine Ev.step (f:=fun _=>some (monthZ y m)) (fun k=>?_) (Ev.now _)
  simp only [recur_length.l0,e]
  rfl
 | succ n ih =>
  intro hn h
  have hw:wrap64 (28 + ((n + 1:Nat):Int) - 1)=28 + (n:Int):=by rw [wrapI (by omega) (by omega)];omega
  by_cases c:28 + ((n + 1:Nat):Int)≤monthZ y m
  ·have e:monthZ y m=28 + ((n + 1:Nat):Int):=by omega
   refine Ev.step (f:=fun k=>(when_Days.f k y m (28 + ((n + 1:Nat):Int))).bind fun bt151=>(if bt151.2=0 then (some (28 + ((n + 1:Nat):Int))) else (recur_length.l0 k y m (wrap64 (28 + ((n + 1:Nat):Int) - 1))))) (fun k=>?_) ?_
   ·simp only [recur_length.l0]
    rw [if_pos (by omega)]
   ·refine Ev.bind (days_ev y m _ hy0 hy1 hm0 hm1 (by omega) c) ?_
    simp only [if_true,e]
    exact Ev.now _
  ·refine Ev.step (f:=fun k=>(when_Days.f k y m (28 + ((n + 1:Nat):Int))).bind fun bt151=>(if bt151.2=0 then (some (28 + ((n + 1:Nat):Int))) else (recur_length.l0 k y m (wrap64 (28 + ((n + 1:Nat):Int) - 1))))) (fun k=>?_) ?_
   ·simp only [recur_length.l0]
    rw [if_pos (by omega)]
   ·refine Ev.bind (days_none y m _ hy0 hy1 hm0 hm1 (by omega) (by omega)) ?_
    simp only [if_neg (show ¬(110:Int)=0 by decide),hw]
    exact ih (by omega) (by omega)
theorem length_ev (y m:Int) (hy0:1970≤y) (hy1:y≤9999) (hm0:1≤m) (hm1:m≤12):Ev (fun k=>recur_length.f k y m) (monthZ y m):=by
 have hbd:=month_bound y m hm0
 exact length_loop y m hy0 hy1 hm0 hm1 3 (Nat.le_refl _) (by omega)
theorem weekday_f {d:Int} (h0:0≤d) (h1:d≤2932896):date_Weekday.f d=some ((d + 3) % 7,0):=by
 unfold date_Weekday.f
 rw [if_neg (by omega),if_neg (by omega),wrapI (by omega) (by omega),tmodI (by omega)]
end Go.Proofs.YtkgkblmeafhkfaaGreat.Cal

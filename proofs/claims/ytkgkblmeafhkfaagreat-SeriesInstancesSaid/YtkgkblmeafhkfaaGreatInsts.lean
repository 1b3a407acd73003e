/- The instances of a series in a window, in plain words. -/
import Derived.Test.YtkgkblmeafhkfaaGreatTimes
import Derived.Test.YtkgkblmeafhkfaaGreatPHx14
set_option linter.unusedVariables false
namespace Go.Proofs.YtkgkblmeafhkfaaGreat.Insts
open Go.RowKit Go.Proofs.YtkgkblmeafhkfaaGreatW.PrintWords Go.Proofs.YtkgkblmeafhkfaaGreatW.PrintLast Go.Proofs.YtkgkblmeafhkfaaGreatW.PrintMore Go.Proofs.YtkgkblmeafhkfaaGreat.PH Go.Proofs.YtkgkblmeafhkfaaGreat.Cal Go.Proofs.YtkgkblmeafhkfaaGreat.Base Go.Proofs.YtkgkblmeafhkfaaGreat.Match Go.Proofs.YtkgkblmeafhkfaaGreat.Times
theorem half {n:Int} (h0:0≤n) (h1:n≤100000):wrap64 ((IntKind.u64.wrap (wrap64 n)) / 2)=n / 2:=by
 rw [wrapI (n:=n) (by omega) (by omega)]
 have:IntKind.u64.wrap n=n:=by
  simp [IntKind.wrap,IntKind.bits,IntKind.signed]
  omega
 rw [this,wrapI (by omega) (by omega)]
/-! ### insertion -/
/-! ### one instance -/
theorem cmp_f (c:S64) (t:Int):series_Series_instance_1.f c.f0 c.f1 c.f2 c.f3 t=some (if c.f0 < t then -1 else if c.f0 > t then 1 else 0):=by
 unfold series_Series_instance_1.f
 split
 ·rfl
 ·split <;> rfl
theorem up_get {l:List S64} (h:(l.map (·.f0)).Pairwise (· < ·)) {i j:Nat} (hij:i < j) (hj:j < l.length):(rd_T64 l (i:Int)).f0 < (rd_T64 l (j:Int)).f0:=by
 have h':=List.pairwise_map.1 h
 have:=List.pairwise_iff_getElem.1 h' i j (by omega) hj hij
 have ei:rd_T64 l (i:Int)=l[i]:=by simp [rd_T64,show i < l.length by omega]
 have ej:rd_T64 l (j:Int)=l[j]:=by simp [rd_T64,hj]
 rw [ei,ej]
 exact this
theorem search_loop (l:List S64) (t:Int) (hn:l.length≤256) (hup:(l.map (·.f0)).Pairwise (· < ·)):∀ (n i j:Nat),j - i≤n→i≤j→j≤l.length→(∀ q,q < i→(rd_T64 l (q:Int)).f0 < t)→(∀ q,j≤q→q < l.length→t≤(rd_T64 l (q:Int)).f0) →
  Fin (fun k=>series_Change_int64.l0 k l t (l.length:Int) (i:Int) (j:Int)) (fun p=>(p.2=true→∃ q:Nat,p.1=(q:Int)∧q < l.length∧(rd_T64 l (q:Int)).f0=t)∧(p.2=false→∀ q:Nat,q < l.length→(rd_T64 l (q:Int)).f0≠t)):=by
 intro n
 induction n with
 | zero =>
  intro i j hij hle hj h1 h2
  obtain rfl:i=j:=by omega
  by_cases c:i < l.length
  ·refine fin_step (f:=fun _=>some ((i:Int),((if (rd_T64 l (i:Int)).f0 < t then -1 else if (rd_T64 l (i:Int)).f0 > t then 1 else 0:Int) == 0))) (fun k=>?_) (fin_now ⟨fun h=>?_,fun h=>?_⟩)
   ·simp only [series_Change_int64.l0]
    rw [if_neg (by omega),if_pos (by omega),if_pos (by omega),if_pos (by omega),cmp_f]
    rfl
   ·refine ⟨i,rfl,c,?_⟩
    have:=h2 i (Nat.le_refl _) c
    simp only [beq_iff_eq] at h
    split at h
    ·omega
    ·split at h
     ·omega
     ·omega
   ·intro q hq e
    rcases Nat.lt_trichotomy q i with hlt | rfl | hgt
    ·have:=h1 q hlt;omega
    ·simp [e] at h
    ·have:=up_get hup hgt hq
     have:=h2 i (Nat.le_refl _) c
     omega
  ·refine fin_step (f:=fun _=>some ((i:Int),false)) (fun k=>?_) (fin_now ⟨fun h=>(by cases h),fun _ q hq e=>?_⟩)
   ·simp only [series_Change_int64.l0]
    rw [if_neg (by omega),if_neg (by omega)]
   ·have:=h1 q (by omega)
    omega
 | succ n ih =>
  intro i j hij hle hj h1 h2
  by_cases c:i < j
  ·have hh:wrap64 ((IntKind.u64.wrap (wrap64 ((i:Int) + (j:Int)))) / 2)=(((i + j) / 2:Nat):Int):=by rw [half (by omega) (by omega)];omega
   have hm:i≤(i + j) / 2∧(i + j) / 2 < j:=by omega
   generalize hmid:(i + j) / 2=mid at hh hm
   refine fin_step (f:=fun k=>if (rd_T64 l (mid:Int)).f0 < t then series_Change_int64.l0 k l t (l.length:Int) ((mid + 1:Nat):Int) (j:Int) else series_Change_int64.l0 k l t (l.length:Int) (i:Int) (mid:Int)) (fun k=>?_) (fin_ite (fun e=>?_) (fun e=>?_))
   ·simp only [series_Change_int64.l0,hh]
    rw [if_pos (by omega),if_pos (by omega),if_pos (by omega),cmp_f,Option.bind_some,wrapS (i:=mid) (n:=300) (by omega) (by omega)]
    by_cases e:(rd_T64 l (mid:Int)).f0 < t
    ·rw [if_pos e,if_pos (by omega),if_pos e]
    ·rw [if_neg e,if_neg (by split <;> omega),if_neg e]
   ·refine ih (mid + 1) j (by omega) (by omega) hj (fun q hq=>?_) h2
    rcases Nat.lt_or_ge q mid with hlt | hge
    ·have:=up_get hup hlt (by omega);omega
    ·obtain rfl:q=mid:=by omega
     exact e
   ·refine ih i mid (by omega) (by omega) (by omega) h1 (fun q hq hql=>?_)
    rcases Nat.lt_or_ge mid q with hlt | hge
    ·have:=up_get hup hlt hql;omega
    ·obtain rfl:q=mid:=by omega
     omega
  ·exact (by
    obtain rfl:i=j:=by omega
    have:Fin (fun k=>series_Change_int64.l0 k l t (l.length:Int) (i:Int) (i:Int)) (fun p=>(p.2=true→∃ q:Nat,p.1=(q:Int)∧q < l.length∧(rd_T64 l (q:Int)).f0=t)∧(p.2=false→∀ q:Nat,q < l.length→(rd_T64 l (q:Int)).f0≠t)):=by
     by_cases c:i < l.length
     ·refine fin_step (f:=fun _=>some ((i:Int),((if (rd_T64 l (i:Int)).f0 < t then -1 else if (rd_T64 l (i:Int)).f0 > t then 1 else 0:Int) == 0))) (fun k=>?_) (fin_now ⟨fun h=>?_,fun h=>?_⟩)
      ·simp only [series_Change_int64.l0]
       rw [if_neg (by omega),if_pos (by omega),if_pos (by omega),if_pos (by omega),cmp_f]
       rfl
      ·refine ⟨i,rfl,c,?_⟩
       have:=h2 i (Nat.le_refl _) c
       simp only [beq_iff_eq] at h
       split at h
       ·omega
       ·split at h
        ·omega
        ·omega
      ·intro q hq e
       rcases Nat.lt_trichotomy q i with hlt | rfl | hgt
       ·have:=h1 q hlt;omega
       ·simp [e] at h
       ·have:=up_get hup hgt hq
        have:=h2 i (Nat.le_refl _) c
        omega
     ·refine fin_step (f:=fun _=>some ((i:Int),false)) (fun k=>?_) (fin_now ⟨fun h=>(by cases h),fun _ q hq e=>?_⟩)
      ·simp only [series_Change_int64.l0]
       rw [if_neg (by omega),if_neg (by omega)]
      ·have:=h1 q (by omega)
       omega
    exact this)
/-- The change of an original. -/
def changeOf (l12:List S64) (t:Int):Option S64:=l12.find? fun c=>c.f0 == t
/-- An original's instance: Original, Start, End, Changed, and whether it takes place. -/
def instOf (s1:Int) (l12:List S64) (t:Int):Int×Int×Int×Bool×Bool :=
 match changeOf l12 t with
 | some c=>(t,c.f1,wrap64 (c.f1 + c.f2),true,!c.f3)
 | none=>(t,t,wrap64 (t + s1),false,true)
theorem changeOf_some {l12:List S64} {t:Int} {c:S64} (h:changeOf l12 t=some c):c∈l12∧c.f0=t:=⟨List.mem_of_find?_eq_some h,by simpa using List.find?_some h⟩
theorem changeOf_mem {l12:List S64} (hup:(l12.map (·.f0)).Pairwise (· < ·)) {c:S64} (hc:c∈l12):changeOf l12 c.f0=some c:=by
 cases h:changeOf l12 c.f0 with
 | none =>
  have:=List.find?_eq_none.1 h c hc
  simp at this
 | some c' =>
  obtain ⟨h1,h2⟩:=changeOf_some h
  have hne:l12.Pairwise (fun x y=>x.f0≠y.f0):=(List.pairwise_map.1 hup).imp (fun h e=>by omega)
  rw [Sort.same_of_apart hne h1 hc h2]
theorem changeOf_none {l12:List S64} {t:Int}:changeOf l12 t=none ↔ ∀ c,c∈l12→c.f0≠t:=by
 unfold changeOf
 rw [List.find?_eq_none]
 simp
section
variable (s0 s1:Int) (s2:Bool) (r0 r1 r2 r3:Int) (l7 l8:List Int) (l9:List S91) (l10 l11:List Int) (l12:List S64)
theorem instance_ev (hn:l12.length≤256) (hup:(l12.map (·.f0)).Pairwise (· < ·)) (t:Int):Ev (fun k=>series_Series_instance.f k s0 s1 s2 r0 r1 r2 r3 l7 l8 l9 l10 l11 l12 t) (instOf s1 l12 t):=by
 obtain ⟨p,hp,h1,h2⟩:=search_loop l12 t hn hup l12.length 0 l12.length (by omega) (Nat.zero_le _) (Nat.le_refl _) (fun q hq=>by omega) (fun q hq hq2=>by omega)
 have hp':Ev (fun k=>series_Change_int64.f k l12 t) p:=hp
 unfold series_Series_instance.f
 obtain ⟨p1,p2⟩:=p
 cases p2 with
 | true =>
  obtain ⟨q,hq,hql,hqe⟩:=h1 rfl
  simp only at hq
  subst hq
  have hrd:rd_T64 l12 (q:Int)=l12[q]:=by simp [rd_T64,hql]
  rw [hrd] at hqe
  have hch:changeOf l12 t=some l12[q]:=by rw [← hqe];exact changeOf_mem hup (List.getElem_mem hql)
  refine Ev.bind hp' ?_
  simp only [if_true]
  simp only [if_pos (show (0:Int)≤(q:Int) by omega),if_pos (show (q:Int) < (l12.length:Int) by omega),hrd]
  unfold instOf
  rw [hch]
  exact Ev.now _
 | false =>
  have hch:changeOf l12 t=none:=changeOf_none.2 (fun c hc e=>by
   obtain ⟨q,hq,rfl⟩:=List.getElem_of_mem hc
   have:=h2 rfl q hq
   rw [show rd_T64 l12 (q:Int)=l12[q] from by simp [rd_T64,hq]] at this
   exact this e)
  refine Ev.bind hp' ?_
  simp only [Bool.false_eq_true,if_false]
  unfold instOf
  rw [hch]
  exact Ev.now _
/-! ### the instances of a window -/
/-- Is an instance in a window? -/
def inWin (lo hi:Int) (p:Int×Int×Int×Bool×Bool):Bool:=p.2.2.2.2 && (decide (p.2.1 < hi) && (decide (p.2.2.1 > lo) || (p.2.1 == p.2.2.1 && decide (p.2.1 ≥ lo))))
def keep (lo hi:Int) (t:Int):Option S55:=if inWin lo hi (instOf s1 l12 t)=true then some ⟨(instOf s1 l12 t).1,(instOf s1 l12 t).2.1,(instOf s1 l12 t).2.2.1,(instOf s1 l12 t).2.2.2.1⟩ else none
theorem instOf_1 (t:Int):(instOf s1 l12 t).1=t:=by
 unfold instOf
 split <;> rfl
theorem keep_sub (lo hi:Int):∀ os:List Int,((os.filterMap (keep s1 l12 lo hi)).map (·.f0)).Sublist os
 | []=>List.Sublist.refl _
 | t :: os=>by
  rw [List.filterMap_cons]
  cases h:keep s1 l12 lo hi t with
  | none=>exact (keep_sub lo hi os).cons t
  | some x =>
   have:x.f0=t:=by
    unfold keep at h
    split at h
    ·cases h;exact instOf_1 s1 l12 t
    ·cases h
   rw [List.map_cons,this]
   exact (keep_sub lo hi os).cons_cons t
theorem list_loop (lo hi:Int) (hn:l12.length≤256) (hup:(l12.map (·.f0)).Pairwise (· < ·)) (os:List Int) (hos:os.length≤4000) (hup2:os.Pairwise (· < ·)):∀ (suf:List Int) (i:Nat) (acc:List S55),os.drop i=suf→acc ++ suf.filterMap (keep s1 l12 lo hi)=os.filterMap (keep s1 l12 lo hi)→acc.length≤i →
  Ev (fun k=>series_Instances.l0 k lo hi acc os (os.length:Int) (i:Int) s0 s1 s2 r0 r1 r2 r3 l7 l8 l9 l10 l11 l12) (Sort.isort series_Instance_43.lt (os.filterMap (keep s1 l12 lo hi)),0):=by
 intro suf
 induction suf with
 | nil =>
  intro i acc hd ha hl
  have:=drop_nil hd
  rw [List.filterMap_nil,List.append_nil] at ha
  subst ha
  refine Ev.step (f:=fun _=>some (Sort.isort series_Instance_43.lt (os.filterMap (keep s1 l12 lo hi)),0)) (fun k=>?_) (Ev.now _)
  simp only [series_Instances.l0]
  rw [if_neg (by omega)]
  unfold series_Instance_43.f
  rw [if_pos ⟨by have:=List.length_filterMap_le (keep s1 l12 lo hi) os;omega,((hup2.sublist (keep_sub s1 l12 lo hi os)).imp (fun h e=>by omega))⟩]
  rfl
 | cons o suf ih =>
  intro i acc hd ha hl
  obtain ⟨hi',ho,hd'⟩:=get_drop (d:=(0:Int)) hd
  have hw:=wrapS hi' (by omega)
  have ho':rd os (i:Int)=o:=ho
  have hin:=instance_ev s0 s1 s2 r0 r1 r2 r3 l7 l8 l9 l10 l11 l12 hn hup o
  have hlen:acc.length < 4398046511104:=by omega
  refine Ev.step (fun k=>by simp only [series_Instances.l0];rw [if_pos (show (i:Int) < (os.length:Int) by omega),if_pos (show (0:Int)≤(i:Int) by omega),if_pos (show (i:Int) < (os.length:Int) by omega),ho',hw]) ?_
  refine Ev.bind hin ?_
  simp only [if_pos hlen]
  rw [List.filterMap_cons] at ha
  have hno:inWin lo hi (instOf s1 l12 o)=false→Ev (fun k=>series_Instances.l0 k lo hi acc os (os.length:Int) ((i + 1:Nat):Int) s0 s1 s2 r0 r1 r2 r3 l7 l8 l9 l10 l11 l12) (Sort.isort series_Instance_43.lt (os.filterMap (keep s1 l12 lo hi)),0):=by
   intro h
   have hk:keep s1 l12 lo hi o=none:=by unfold keep;rw [h];rfl
   rw [hk] at ha
   exact ih (i + 1) acc hd' ha (by omega)
  have hyes:inWin lo hi (instOf s1 l12 o)=true→Ev (fun k=>series_Instances.l0 k lo hi (acc ++ [(⟨(instOf s1 l12 o).1,(instOf s1 l12 o).2.1,(instOf s1 l12 o).2.2.1,(instOf s1 l12 o).2.2.2.1⟩:S55)]) os (os.length:Int) ((i + 1:Nat):Int) s0 s1 s2 r0 r1 r2 r3 l7 l8 l9 l10 l11 l12) (Sort.isort series_Instance_43.lt (os.filterMap (keep s1 l12 lo hi)),0):=by
   intro h
   have hk:keep s1 l12 lo hi o=some (⟨(instOf s1 l12 o).1,(instOf s1 l12 o).2.1,(instOf s1 l12 o).2.2.1,(instOf s1 l12 o).2.2.2.1⟩:S55):=by unfold keep;rw [h];rfl
   rw [hk] at ha
   exact ih (i + 1) _ hd' (by rw [← ha];simp) (by simp;omega)
  generalize instOf s1 l12 o=p at hno hyes ⊢
  unfold inWin at hno hyes
  by_cases c1:p.2.1=p.2.2.1
  ·simp only [if_pos c1]
   by_cases c2:p.2.2.2.2=true
   ·simp only [if_pos c2]
    by_cases c3:p.2.1 < hi
    ·simp only [if_pos c3]
     by_cases c4:p.2.2.1 > lo
     ·simp only [if_pos c4]
      exact hyes (by simp [c2,c3,c4])
     ·simp only [if_neg c4]
      by_cases c5:p.2.1 ≥ lo
      ·simp only [if_pos c5]
       exact hyes (by rw [c2,decide_eq_true c3,decide_eq_true c5,beq_iff_eq.mpr c1];simp)
      ·simp only [if_neg c5]
       exact hno (by simp [c4,c5])
    ·simp only [if_neg c3]
     exact hno (by simp [c3])
   ·simp only [if_neg c2]
    exact hno (by simp [c2])
  ·simp only [if_neg c1]
   by_cases c2:p.2.2.2.2=true
   ·simp only [if_pos c2]
    by_cases c3:p.2.1 < hi
    ·simp only [if_pos c3]
     by_cases c4:p.2.2.1 > lo
     ·simp only [if_pos c4]
      exact hyes (by simp [c2,c3,c4])
     ·simp only [if_neg c4]
      exact hno (by simp [c1,c4])
    ·simp only [if_neg c3]
     exact hno (by simp [c3])
   ·simp only [if_neg c2]
    exact hno (by simp [c2])
theorem lo_bd (f:Int) (h0:0≤f) (h1:f≤253402300799):0≤mx (wrap64 (f - 2592000)) 0∧mx (wrap64 (f - 2592000)) 0≤253402300799:=by
 have:wrap64 (f - 2592000)=f - 2592000:=wrapI (by omega) (by omega)
 rw [this]
 unfold mx
 split <;> omega
theorem hi_bd (t:Int) (h0:0≤t) (h1:t≤253402300799):0≤mn (wrap64 (t + 2592000)) 253402300799∧mn (wrap64 (t + 2592000)) 253402300799≤253402300799:=by
 have:wrap64 (t + 2592000)=t + 2592000:=wrapI (by omega) (by omega)
 rw [this]
 unfold mn
 split <;> omega
theorem toriginals_fin (hs:Short l7 l8 l9 l10 l11 l12) (ok:okSeries s0 s1 s2 r0 r1 r2 r3 l7 l8 l9 l10 l11 l12) (hr:Ev (fun k=>series_Right.f k s0 s1 s2 r0 r1 r2 r3 l7 l8 l9 l10 l11 l12) true) (lo hi:Int) (hlo:0≤lo∧lo≤253402300799) (hhi:0≤hi∧hi≤253402300799) :
  Fin (fun k=>series_Originals.f k s0 s1 s2 r0 r1 r2 r3 l7 l8 l9 l10 l11 l12 lo hi) (fun p=>(p.2≠0→p.1 = [])∧(p.2=0→hi - s0≤631152000∧p.1=origs s0 s2 r0 r1 r2 r3 l7 l8 l9 l10 l11 lo hi∧p.1.length≤2000)):=by
 unfold series_Originals.f
 refine fin_bind (fin_ev hr (p:=fun x=>x=true) rfl) (fun x hx=>?_)
 subst hx
 have d1:decide (0≤lo∧lo≤253402300799)=true:=decide_eq_true hlo
 have d2:decide (0≤hi∧hi≤253402300799)=true:=decide_eq_true hhi
 simp only [when_f,Option.bind_some,if_true,d1,d2,Bool.not_true]
 have ew:wrap64 (hi - s0)=hi - s0:=by have:=ok.start;unfold wrap64;omega
 refine fin_step (f:=fun k=>if hi - s0 > 631152000 then some ([],1) else (series_Series_originals.f k s0 s1 s2 r0 r1 r2 r3 l7 l8 l9 l10 l11 l12 lo hi).bind fun bt=>some (bt.1,bt.2)) (fun k=>?_) ?_
 ·simp only [series_Originals.j0,Bool.false_eq_true,if_false,ew]
 ·refine fin_ite (fun c=>fin_now ⟨fun _=>rfl,fun h=>absurd h (by decide)⟩) (fun c=>?_)
  exact fin_bind (originals_fin s0 s1 s2 r0 r1 r2 r3 l7 l8 l9 l10 l11 l12 hs ok lo hi hlo hhi (by omega)) (fun p hp=>fin_now ⟨hp.1,fun h=>⟨by omega,(hp.2 h).1,(hp.2 h).2⟩⟩)
/-- The instances of a window. -/
noncomputable def instsOf (fr till:Int):List S55:=Sort.isort series_Instance_43.lt ((origs s0 s2 r0 r1 r2 r3 l7 l8 l9 l10 l11 (mx (wrap64 (fr - 2592000)) 0) (mn (wrap64 (till + 2592000)) 253402300799)).filterMap (keep s1 l12 fr till))
/-- What Instances tells. -/
structure Told (fr till:Int) (p:List S55×Int):Prop where
 bad:p.2≠0→p.1 = []
 ok:p.2=0→okSeries s0 s1 s2 r0 r1 r2 r3 l7 l8 l9 l10 l11 l12
 win:p.2=0→(0≤fr∧fr≤253402300799)∧(0≤till∧till≤253402300799)
 eq:p.2=0→p.1=instsOf s0 s1 s2 r0 r1 r2 r3 l7 l8 l9 l10 l11 l12 fr till
 few:p.2=0→p.1.length≤2000
theorem instances_fin (hs:Short l7 l8 l9 l10 l11 l12) (fr till:Int):Fin (fun k=>series_Instances.f k s0 s1 s2 r0 r1 r2 r3 l7 l8 l9 l10 l11 l12 fr till) (Told s0 s1 s2 r0 r1 r2 r3 l7 l8 l9 l10 l11 l12 fr till):=by
 obtain ⟨b,hb,hok⟩:=sright_fin s0 s1 s2 r0 r1 r2 r3 l7 l8 l9 l10 l11 l12 hs
 have err:∀ e:Int,e≠0→Told s0 s1 s2 r0 r1 r2 r3 l7 l8 l9 l10 l11 l12 fr till (([]:List S55),e):=fun e he=>⟨fun _=>rfl,fun h=>absurd h he,fun h=>absurd h he,fun h=>absurd h he,fun h=>absurd h he⟩
 have jt:Fin (fun k=>series_Instances.j0 k fr till true s0 s1 s2 r0 r1 r2 r3 l7 l8 l9 l10 l11 l12) (Told s0 s1 s2 r0 r1 r2 r3 l7 l8 l9 l10 l11 l12 fr till):=by
  refine fin_step (f:=fun _=>some ([],110)) (fun k=>?_) (fin_now (err 110 (by decide)))
  simp only [series_Instances.j0]
  rfl
 unfold series_Instances.f
 refine fin_bind (fin_ev hb (p:=fun x=>x=b) rfl) (fun x hx=>?_)
 subst hx
 cases x with
 | false =>
  simp only [Bool.false_eq_true,if_false]
  refine fin_step (fun k=>by simp only [series_Instances.j0,Bool.false_eq_true,if_false];rfl) ?_
  refine fin_bind (fin_ev hb (p:=fun x=>x=false) rfl) (fun x hx=>?_)
  subst hx
  simp only [Bool.false_eq_true,if_false]
  exact fin_now (err 3 (by decide))
 | true =>
  have ok:=hok rfl
  simp only [if_true,when_f,Option.bind_some]
  refine fin_ite (fun c1=>?_) (fun _=>jt)
  have hf:=of_decide_eq_true c1
  by_cases c2:0≤till∧till≤253402300799
  ·rw [decide_eq_true c2]
   simp only [Bool.not_true]
   refine fin_step (fun k=>by simp only [series_Instances.j0,Bool.false_eq_true,if_false];rfl) ?_
   refine fin_bind (fin_ev hb (p:=fun x=>x=true) rfl) (fun x hx=>?_)
   subst hx
   simp only [if_true]
   refine fin_bind (toriginals_fin s0 s1 s2 r0 r1 r2 r3 l7 l8 l9 l10 l11 l12 hs ok hb _ _ (lo_bd fr hf.1 hf.2) (hi_bd till c2.1 c2.2)) (fun p hp=>fin_ite (fun e=>?_) (fun e=>fin_now (err p.2 e)))
   obtain ⟨-,h2,h3⟩:=hp.2 e
   have hos:=(origs_spec s0 s2 r0 r1 r2 r3 l7 l8 l9 l10 l11 (mx (wrap64 (fr - 2592000)) 0) (mn (wrap64 (till + 2592000)) 253402300799)).1
   rw [← h2] at hos
   refine fin_ev (list_loop s0 s1 s2 r0 r1 r2 r3 l7 l8 l9 l10 l11 l12 fr till (by have:=ok.origs.few;rwa [List.length_map] at this) ok.origs.up p.1 (by omega) hos p.1 0 [] rfl rfl (Nat.le_refl _)) ⟨fun h=>absurd rfl h,fun _=>ok,fun _=>⟨hf,c2⟩,fun _=>?_,fun _=>?_⟩
   ·rw [h2]
    rfl
   ·have e1:=(Sort.isort_perm series_Instance_43.lt (p.1.filterMap (keep s1 l12 fr till))).length_eq
    have e2:=List.length_filterMap_le (keep s1 l12 fr till) p.1
    show (Sort.isort series_Instance_43.lt (p.1.filterMap (keep s1 l12 fr till))).length≤2000
    omega
  ·rw [decide_eq_false c2]
   exact jt
end
end Go.Proofs.YtkgkblmeafhkfaaGreat.Insts

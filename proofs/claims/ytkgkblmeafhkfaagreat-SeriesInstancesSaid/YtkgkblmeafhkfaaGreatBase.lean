/- What a series is asked comes to an end; and what one that may be is made of. -/
import Derived.Test.YtkgkblmeafhkfaaGreatCal
import Derived.Test.YtkgkblmeafhkfaaGreatPHx7
set_option linter.unusedVariables false
namespace Go.Proofs.YtkgkblmeafhkfaaGreat.Base
open Go.RowKit Go.Proofs.YtkgkblmeafhkfaaGreatW.PrintWords Go.Proofs.YtkgkblmeafhkfaaGreatW.PrintLast Go.Proofs.YtkgkblmeafhkfaaGreatW.PrintMore Go.Proofs.YtkgkblmeafhkfaaGreat.PH Go.Proofs.YtkgkblmeafhkfaaGreat.Cal
/-- It comes to some value that is so. -/
def Fin {α:Type} (g:Nat→Option α) (p:α→Prop):Prop:=∃ r,Ev g r∧p r
theorem fin_now {α:Type} {p:α→Prop} {r:α} (h:p r):Fin (fun _=>some r) p:=⟨r,Ev.now r,h⟩
theorem fin_ev {α:Type} {g:Nat→Option α} {p:α→Prop} {r:α} (h:Ev g r) (hp:p r):Fin g p:=⟨r,h,hp⟩
theorem fin_bind {α β:Type} {g:Nat→Option α} {f:Nat→α→Option β} {p:α→Prop} {q:β→Prop} (h:Fin g p) (k:∀ a,p a→Fin (fun n=>f n a) q):Fin (fun n=>(g n).bind (f n)) q:=by
 obtain ⟨a,h1,h2⟩:=h
 obtain ⟨b,h3,h4⟩:=k a h2
 exact ⟨b,Ev.bind h1 h3,h4⟩
theorem fin_some {α β:Type} {a:α} {f:Nat→α→Option β} {q:β→Prop} (k:Fin (fun n=>f n a) q):Fin (fun n=>(some a).bind (f n)) q:=k
theorem fin_ite {α:Type} {c:Prop} [Decidable c] {f g:Nat→Option α} {q:α→Prop} (h1:c→Fin f q) (h2:¬c→Fin g q):Fin (fun n=>if c then f n else g n) q:=by
 by_cases c0:c
 ·simp only [if_pos c0]
  exact h1 c0
 ·simp only [if_neg c0]
  exact h2 c0
theorem fin_step {α:Type} {g f:Nat→Option α} {q:α→Prop} (h:∀ k,g (k + 1)=f k) (k:Fin f q):Fin g q:=by
 obtain ⟨r,h1,h2⟩:=k
 exact ⟨r,Ev.step h h1,h2⟩
theorem fin_mono {α:Type} {g:Nat→Option α} {p q:α→Prop} (h:Fin g p) (hq:∀ r,p r→q r):Fin g q:=by
 obtain ⟨r,h1,h2⟩:=h
 exact ⟨r,h1,hq r h2⟩
theorem get_drop {α:Type} {l:List α} {d s:α} {i:Nat} {suf:List α} (h:l.drop i=s :: suf):i < l.length∧l.getD ((i:Nat):Int).toNat d=s∧l.drop (i + 1)=suf:=by
 have hi:i < l.length:=by
  rcases Nat.lt_or_ge i l.length with h1 | h1
  ·exact h1
  ·rw [List.drop_eq_nil_of_le h1] at h;cases h
 rw [List.drop_eq_getElem_cons hi] at h
 injection h with h1 h2
 exact ⟨hi,by simp [hi,h1],h2⟩
theorem drop_nil {α:Type} {l:List α} {i:Nat} (h:l.drop i = []):l.length≤i:=List.drop_eq_nil_iff.mp h
theorem wrapS {i n:Nat} (h:i < n) (hn:n≤9223372036854775807):wrap64 ((i:Int) + 1)=((i + 1:Nat):Int):=by unfold wrap64;omega
theorem when_f (t:Int):when_Right.f t=some (decide (0≤t∧t≤253402300799)):=by
 unfold when_Right.f
 by_cases c:t ≥ 0
 ·rw [if_pos c]
  congr 1
  rw [decide_eq_decide]
  omega
 ·rw [if_neg c,decide_eq_false (by omega)]
/-! ### rises, Right of a rule -/
theorem rises_loop (l:List Int) (lo hi_:Int) (hn:l.length≤9223372036854775807):∀ (suf:List Int) (i:Nat),l.drop i=suf→Fin (fun k=>recur_rises.l0 k l lo hi_ l (l.length:Int) (i:Int)) (fun r=>r=true→∀ x,x∈suf→lo≤x∧x≤hi_):=by
 intro suf
 induction suf with
 | nil =>
  intro i hd
  have:=drop_nil hd
  refine fin_step (f:=fun _=>some true) (fun k=>?_) (fin_now (fun _ x hx=>by cases hx))
  simp only [recur_rises.l0]
  rw [if_neg (by omega)]
 | cons o suf ih =>
  intro i hd
  obtain ⟨hi,ho,hd'⟩:=get_drop (d:=(0:Int)) hd
  have hw:=wrapS hi hn
  have nxt:=ih (i + 1) hd'
  have ho':rd l (i:Int)=o:=ho
  refine fin_step (f:=fun k=>if o < lo then some false else if o > hi_ then some false else if o=0 then some false else if (i:Int) > 0 then (if rd l (wrap64 ((i:Int) - 1)) ≥ o then some false else recur_rises.l0 k l lo hi_ l (l.length:Int) ((i + 1:Nat):Int)) else recur_rises.l0 k l lo hi_ l (l.length:Int) ((i + 1:Nat):Int)) (fun k=>?_) ?_
  ·simp only [recur_rises.l0]
   rw [if_pos (by omega),if_pos (by omega),if_pos (by omega),ho',hw]
   by_cases c:(i:Int) > 0
   ·have e:wrap64 ((i:Int) - 1)=(i:Int) - 1:=by unfold wrap64;omega
    rw [if_pos c,if_pos c,e,if_pos (show 0≤(i:Int) - 1 by omega),if_pos (show (i:Int) - 1 < (l.length:Int) by omega)]
   ·rw [if_neg c,if_neg c]
  ·have no:Fin (fun _=>some false) (fun r=>r=true→∀ x,x∈o :: suf→lo≤x∧x≤hi_):=fin_now (fun h=>by cases h)
   refine fin_ite (fun _=>no) (fun c1=>fin_ite (fun _=>no) (fun c2=>fin_ite (fun _=>no) (fun _=>?_)))
   have go:Fin (fun k=>recur_rises.l0 k l lo hi_ l (l.length:Int) ((i + 1:Nat):Int)) (fun r=>r=true→∀ x,x∈o :: suf→lo≤x∧x≤hi_) :=
    fin_mono nxt (fun r h hr x hx=>by
     rcases List.mem_cons.mp hx with rfl | hx
     ·omega
     ·exact h hr x hx)
   exact fin_ite (fun _=>fin_ite (fun _=>no) (fun _=>go)) (fun _=>go)
theorem rises_fin (l:List Int) (lo hi_:Int) (hn:l.length≤9223372036854775807):Fin (fun k=>recur_rises.f k l lo hi_) (fun r=>r=true→∀ x,x∈l→lo≤x∧x≤hi_):=rises_loop l lo hi_ hn l 0 rfl
def okDay (x:S91):Prop:=0≤x.f0∧x.f0≤6∧-5≤x.f1∧x.f1≤5
def ordLt (a b:S91):Prop:=∃ t,recur_order.f a.f0 a.f1 b.f0 b.f1=some t∧¬t ≥ 0
def ups (l:List S91) (i:Nat):Prop:=∀ j:Nat,i≤j→0 < j→j < l.length→ordLt (rd_T91 l ((j - 1:Nat):Int)) (rd_T91 l (j:Int))
theorem week_few {l:List S91} (h1:∀ x,x∈l→okDay x) (h2:ups l 0):l.length≤77:=by
 have hin:∀ j:Nat,j < l.length→okDay (rd_T91 l (j:Int)):=fun j hj=>by
  rw [show rd_T91 l (j:Int)=l[j] from by simp [rd_T91,hj]]
  exact h1 _ (List.getElem_mem hj)
 have key:∀ j:Nat,j < l.length→(j:Int)≤11 * (rd_T91 l (j:Int)).f0 + (rd_T91 l (j:Int)).f1 + 5:=by
  intro j
  induction j with
  | zero=>intro hj;obtain ⟨q1,q2,q3,q4⟩:=hin 0 hj;omega
  | succ j ih =>
   intro hj
   have h:=ih (by omega)
   obtain ⟨p1,p2,p3,p4⟩:=hin j (by omega)
   obtain ⟨q1,q2,q3,q4⟩:=hin (j + 1) hj
   obtain ⟨t,ht,h0⟩:=h2 (j + 1) (Nat.zero_le _) (by omega) hj
   rw [show j + 1 - 1=j from rfl] at ht
   generalize rd_T91 l (j:Int)=a at *
   generalize rd_T91 l ((j + 1:Nat):Int)=b at *
   unfold recur_order.f at ht
   unfold wrap64 at ht
   split at ht
   all_goals
    have ht':=Option.some.inj ht
    omega
 rcases Nat.lt_or_ge 77 l.length with c | c
 ·have:=key 77 c
  obtain ⟨q1,q2,q3,q4⟩:=hin 77 c
  omega
 ·exact c
section
variable (x3:Bool) (r0 r1 r2 r3:Int) (r4 r5:List Int) (r6:List S91)
theorem week_loop (hn:r6.length≤9223372036854775807):∀ (suf:List S91) (i:Nat),r6.drop i=suf→Fin (fun k=>recur_Right.l0 k x3 r6 (r6.length:Int) (i:Int) r0 r1 r2 r3 r4 r5 r6) (fun r=>r=true→(∀ x,x∈suf→okDay x)∧ups r6 i):=by
 intro suf
 induction suf with
 | nil =>
  intro i hd
  have:=drop_nil hd
  refine fin_step (f:=fun _=>some true) (fun k=>?_) (fin_now (fun _=>⟨fun x hx=>(by cases hx),fun j h1 _ h2=>(by omega)⟩))
  simp only [recur_Right.l0]
  rw [if_neg (by omega)]
 | cons o suf ih =>
  intro i hd
  obtain ⟨hi,ho,hd'⟩:=get_drop (d:=z91) hd
  have hw:=wrapS hi hn
  have nxt:=ih (i + 1) hd'
  have ho':rd_T91 r6 (i:Int)=o:=ho
  have no:Fin (fun _=>some false) (fun r=>r=true→(∀ x,x∈o :: suf→okDay x)∧ups r6 i):=fin_now (fun h=>by cases h)
  have j4:∀ z:Bool,(z=false→okDay o)→Fin (fun k=>recur_Right.j4 k x3 (i:Int) r6 (r6.length:Int) (i:Int) z r0 r1 r2 r3 r4 r5 r6 o.f0 o.f1) (fun r=>r=true→(∀ x,x∈o :: suf→okDay x)∧ups r6 i):=by
   intro z hz
   cases z with
   | true =>
    refine fin_step (f:=fun _=>some false) (fun k=>?_) no
    simp only [recur_Right.j4]
    rfl
   | false =>
    have go:(0 < i→ordLt (rd_T91 r6 ((i - 1:Nat):Int)) (rd_T91 r6 (i:Int)))→Fin (fun k=>recur_Right.l0 k x3 r6 (r6.length:Int) ((i + 1:Nat):Int) r0 r1 r2 r3 r4 r5 r6) (fun r=>r=true→(∀ x,x∈o :: suf→okDay x)∧ups r6 i) :=
     fun hup=>fin_mono nxt (fun r h hr=>⟨fun x hx=>by
      rcases List.mem_cons.mp hx with rfl | hx
      ·exact hz rfl
      ·exact (h hr).1 x hx,fun j h1 h2 h3=>by
      rcases Nat.lt_or_ge i j with c | c
      ·exact (h hr).2 j c h2 h3
      ·obtain rfl:j=i:=by omega
       exact hup h2⟩)
    obtain ⟨t,ht⟩:∃ t,recur_order.f (rd_T91 r6 (wrap64 ((i:Int) - 1))).f0 (rd_T91 r6 (wrap64 ((i:Int) - 1))).f1 o.f0 o.f1=some t:=by
     unfold recur_order.f
     split <;> exact ⟨_,rfl⟩
    refine fin_step (f:=fun k=>if (i:Int) > 0 then (if t ≥ 0 then some false else recur_Right.l0 k x3 r6 (r6.length:Int) ((i + 1:Nat):Int) r0 r1 r2 r3 r4 r5 r6) else recur_Right.l0 k x3 r6 (r6.length:Int) ((i + 1:Nat):Int) r0 r1 r2 r3 r4 r5 r6) (fun k=>?_) (fin_ite (fun c=>fin_ite (fun _=>no) (fun c'=>go (fun _=>⟨t,by rw [ho',← ht,show wrap64 ((i:Int) - 1)=((i - 1:Nat):Int) from by unfold wrap64;omega],c'⟩))) (fun c=>go (fun h=>by omega)))
    simp only [recur_Right.j4,ht,Option.bind_some,hw,Bool.false_eq_true,if_false]
    by_cases c:(i:Int) > 0
    ·have e:wrap64 ((i:Int) - 1)=(i:Int) - 1:=by unfold wrap64;omega
     rw [if_pos c,if_pos c,e,if_pos (by omega),if_pos (by omega)]
    ·rw [if_neg c,if_neg c]
  refine fin_step (fun k=>by simp only [recur_Right.l0];rw [if_pos (show (i:Int) < (r6.length:Int) by omega),if_pos (show (0:Int)≤(i:Int) by omega),if_pos (show (i:Int) < (r6.length:Int) by omega),ho']) ?_
  refine fin_ite (fun _=>j4 true (fun h=>by cases h)) (fun c1=>fin_ite (fun _=>j4 true (fun h=>by cases h)) (fun c2=>fin_ite (fun _=>j4 true (fun h=>by cases h)) (fun c3=>fin_ite (fun _=>j4 true (fun h=>by cases h)) (fun c4=>?_))))
  have good:okDay o:=by unfold okDay;omega
  exact fin_ite (fun _=>j4 false (fun _=>good)) (fun _=>j4 _ (fun _=>good))
theorem right_j2 (hn:r6.length≤9223372036854775807) (z:Bool):Fin (fun k=>recur_Right.j2 k x3 z r0 r1 r2 r3 r4 r5 r6) (fun r=>r=true→z=false∧(∀ x,x∈r6→okDay x)∧r6.length≤77):=by
 cases z with
 | true =>
  refine fin_step (f:=fun _=>some false) (fun k=>?_) (fin_now (fun h=>by cases h))
  simp only [recur_Right.j2]
  rfl
 | false =>
  refine fin_step (fun k=>?_) (fin_mono (week_loop x3 r0 r1 r2 r3 r4 r5 r6 hn r6 0 rfl) (fun r h hr=>⟨rfl,(h hr).1,week_few (h hr).1 (h hr).2⟩))
  simp only [recur_Right.j2]
  rfl
def okRule:Prop:=(∀ x,x∈r4→1≤x∧x≤12)∧∀ x,x∈r6→okDay x
def okRule7:Prop:=okRule r4 r6∧r6.length≤77
theorem right_j1 (h4:r4.length≤9223372036854775807) (h5:r5.length≤9223372036854775807) (hn:r6.length≤9223372036854775807) (z:Bool):Fin (fun k=>recur_Right.j1 k x3 z r0 r1 r2 r3 r4 r5 r6) (fun r=>r=true→okRule7 r4 r6):=by
 have bad:Fin (fun k=>recur_Right.j2 k x3 true r0 r1 r2 r3 r4 r5 r6) (fun r=>r=true→okRule7 r4 r6):=fin_mono (right_j2 x3 r0 r1 r2 r3 r4 r5 r6 hn true) (fun r h hr=>by have:=(h hr).1;cases this)
 have good:∀ z',(∀ x,x∈r4→1≤x∧x≤12)→Fin (fun k=>recur_Right.j2 k x3 z' r0 r1 r2 r3 r4 r5 r6) (fun r=>r=true→okRule7 r4 r6):=fun z' h1=>fin_mono (right_j2 x3 r0 r1 r2 r3 r4 r5 r6 hn z') (fun r h hr=>⟨⟨h1,(h hr).2.1⟩,(h hr).2.2⟩)
 have rest:Fin (fun k=>(recur_rises.f k r4 1 12).bind fun t110=>(if t110=true then ((recur_rises.f k r5 (-31) 31).bind fun t111=>(if t111=true then (if x3=true then (recur_Right.j2 k x3 false r0 r1 r2 r3 r4 r5 r6) else (recur_Right.j2 k x3 (decide ((r5.length:Int) > 0)) r0 r1 r2 r3 r4 r5 r6)) else (recur_Right.j2 k x3 true r0 r1 r2 r3 r4 r5 r6))) else (recur_Right.j2 k x3 true r0 r1 r2 r3 r4 r5 r6))) (fun r=>r=true→okRule7 r4 r6) :=
  fin_bind (rises_fin r4 1 12 h4) (fun t ht=>fin_ite (fun e=>fin_bind (rises_fin r5 (-31) 31 h5) (fun u _=>fin_ite (fun _=>fin_ite (fun _=>good _ (ht e)) (fun _=>good _ (ht e))) (fun _=>bad))) (fun _=>bad))
 refine fin_step (fun k=>by simp only [recur_Right.j1];rfl) ?_
 refine fin_ite (fun _=>fin_now (fun h=>by cases h)) (fun _=>fin_ite (fun _=>rest) (fun _=>?_))
 have hw:∃ t,when_Right.f r3=some t:=by
  unfold when_Right.f
  split <;> exact ⟨_,rfl⟩
 obtain ⟨t,ht⟩:=hw
 simp only [ht,Option.bind_some]
 exact fin_ite (fun _=>fin_ite (fun _=>rest) (fun _=>bad)) (fun _=>bad)
theorem rule_fin7 (h4:r4.length≤9223372036854775807) (h5:r5.length≤9223372036854775807) (hn:r6.length≤9223372036854775807):Fin (fun k=>recur_Right.f k r0 r1 r2 r3 r4 r5 r6) (fun r=>r=true→okRule7 r4 r6):=by
 have j0:∀ y,Fin (fun k=>recur_Right.j0 k y r0 r1 r2 r3 r4 r5 r6) (fun r=>r=true→okRule7 r4 r6):=by
  intro y
  have j1:=fun z=>right_j1 y r0 r1 r2 r3 r4 r5 r6 h4 h5 hn z
  refine fin_step (fun k=>by simp only [recur_Right.j0];rfl) ?_
  exact fin_ite (fun _=>j1 _) (fun _=>fin_ite (fun _=>j1 _) (fun _=>fin_ite (fun _=>j1 _) (fun _=>fin_ite (fun _=>j1 _) (fun _=>fin_ite (fun _=>j1 _) (fun _=>j1 _)))))
 unfold recur_Right.f
 exact fin_ite (fun _=>j0 _) (fun _=>j0 _)
theorem rule_fin (h4:r4.length≤9223372036854775807) (h5:r5.length≤9223372036854775807) (hn:r6.length≤9223372036854775807):Fin (fun k=>recur_Right.f k r0 r1 r2 r3 r4 r5 r6) (fun r=>r=true→okRule r4 r6) :=
 fin_mono (rule_fin7 r0 r1 r2 r3 r4 r5 r6 h4 h5 hn) (fun _ h hr=>(h hr).1)
theorem rule_few (h4:r4.length≤9223372036854775807) (h5:r5.length≤9223372036854775807) (hn:r6.length≤9223372036854775807) (h:Ev (fun k=>recur_Right.f k r0 r1 r2 r3 r4 r5 r6) true):r6.length≤77:=by
 obtain ⟨r,⟨K,hr⟩,hp⟩:=rule_fin7 r0 r1 r2 r3 r4 r5 r6 h4 h5 hn
 obtain ⟨K',h⟩:=h
 have e1:=hr (max K K') (Nat.le_max_left _ _)
 have e2:=h (max K K') (Nat.le_max_right _ _)
 rw [e1] at e2
 exact (hp (Option.some.inj e2)).2
end
theorem rule_interval (r0 r1 r2 r3:Int) (r4 r5:List Int) (r6:List S91) (h:Ev (fun k=>recur_Right.f k r0 r1 r2 r3 r4 r5 r6) true):1≤r1∧r1≤1000:=by
 obtain ⟨K,hK⟩:=h
 have h1:=hK (K + 2) (by omega)
 have key:∀ y,recur_Right.j0 (K + 2) y r0 r1 r2 r3 r4 r5 r6=some true→1≤r1∧r1≤1000:=by
  intro y hy
  have bad:recur_Right.j1 (K + 1) y true r0 r1 r2 r3 r4 r5 r6=some false:=by simp only [recur_Right.j1];rfl
  simp only [recur_Right.j0,bad] at hy
  split at hy
  ·cases hy
  ·split at hy
   ·cases hy
   ·split at hy
    ·cases hy
    ·split at hy
     ·cases hy
     ·omega
 unfold recur_Right.f at h1
 split at h1
 ·exact key _ h1
 ·exact key _ h1
/-! ### what rises -/
/-- Times that rise strictly, 256 at most. -/
structure Rising (l:List Int):Prop where
 up:l.Pairwise (· < ·)
 bd:∀ x,x∈l→0≤x∧x≤253402300799
 few:l.length≤256
theorem pairwise_step:∀ (l:List Int),(∀ j (h:j + 1 < l.length),l[j] < l[j + 1])→l.Pairwise (· < ·)
 | [],_=>List.Pairwise.nil
 | [a],_=>by simp
 | a :: b :: l,h=>by
  have ih:=pairwise_step (b :: l) (fun j hj=>by have:=h (j + 1) (by simp at hj ⊢;omega);simpa using this)
  have hab:a < b:=h 0 (by simp)
  refine List.pairwise_cons.2 ⟨fun x hx=>?_,ih⟩
  rcases List.mem_cons.1 hx with rfl | hx
  ·exact hab
  ·exact Int.lt_trans hab ((List.pairwise_cons.1 ih).1 x hx)
theorem srises_loop (l:List Int) (hn:l.length≤9223372036854775807):∀ (suf:List Int) (i:Nat),l.drop i=suf→Fin (fun k=>series_rises.l0 k l l (l.length:Int) (i:Int)) (fun r=>r=true→l.length≤256∧∀ j (h:j < l.length),i≤j→(0≤l[j]∧l[j]≤253402300799)∧(0 < j→l[j - 1] < l[j])):=by
 intro suf
 induction suf with
 | nil =>
  intro i hd
  have:=drop_nil hd
  refine fin_step (f:=fun _=>some (decide ((l.length:Int)≤256))) (fun k=>?_) (fin_now (fun h=>⟨by have:=of_decide_eq_true h;omega,fun j hj hij=>by omega⟩))
  simp only [series_rises.l0]
  rw [if_neg (by omega)]
 | cons o suf ih =>
  intro i hd
  obtain ⟨hi,ho,hd'⟩:=get_drop (d:=(0:Int)) hd
  have hw:=wrapS hi hn
  have nxt:=ih (i + 1) hd'
  have ho':rd l (i:Int)=o:=ho
  have hoi:l[i] = o:=by
   have:=List.drop_eq_getElem_cons hi
   rw [this] at hd
   exact (List.cons.inj hd).1
  have no:Fin (fun _=>some false) (fun r=>r=true→l.length≤256∧∀ j (h:j < l.length),i≤j→(0≤l[j]∧l[j]≤253402300799)∧(0 < j→l[j - 1] < l[j])):=fin_now (fun h=>by cases h)
  have go:(0≤o∧o≤253402300799)→(∀ h:0 < i,l[i - 1] < o)→Fin (fun k=>series_rises.l0 k l l (l.length:Int) ((i + 1:Nat):Int)) (fun r=>r=true→l.length≤256∧∀ j (h:j < l.length),i≤j→(0≤l[j]∧l[j]≤253402300799)∧(0 < j→l[j - 1] < l[j])):=fun h1 h2 =>
   fin_mono nxt (fun r h hr=>⟨(h hr).1,fun j hj hij=>by
    rcases Nat.lt_or_ge i j with hlt | hge
    ·exact (h hr).2 j hj hlt
    ·obtain rfl:j=i:=by omega
     rw [hoi]
     exact ⟨h1,fun hp=>h2 hp⟩⟩)
  refine fin_step (f:=fun k=>if decide (0≤o∧o≤253402300799)=true then (if (i:Int) > 0 then (if rd l (wrap64 ((i:Int) - 1)) ≥ o then some false else series_rises.l0 k l l (l.length:Int) ((i + 1:Nat):Int)) else series_rises.l0 k l l (l.length:Int) ((i + 1:Nat):Int)) else some false) (fun k=>?_) ?_
  ·simp only [series_rises.l0]
   rw [if_pos (by omega),if_pos (by omega),if_pos (by omega),ho',hw,when_f,Option.bind_some]
   by_cases c:(i:Int) > 0
   ·have e:wrap64 ((i:Int) - 1)=(i:Int) - 1:=by unfold wrap64;omega
    rw [if_pos c,if_pos c,e,if_pos (show 0≤(i:Int) - 1 by omega),if_pos (show (i:Int) - 1 < (l.length:Int) by omega)]
   ·rw [if_neg c,if_neg c]
  ·refine fin_ite (fun c=>fin_ite (fun c1=>fin_ite (fun _=>no) (fun c2=>go (of_decide_eq_true c) (fun hp=>?_))) (fun c1=>go (of_decide_eq_true c) (fun hp=>by omega))) (fun _=>no)
   have e:wrap64 ((i:Int) - 1)=((i - 1:Nat):Int):=by unfold wrap64;omega
   rw [e] at c2
   have e2:rd l ((i - 1:Nat):Int)=l[i - 1]:=by simp [rd,show i - 1 < l.length by omega]
   rw [e2] at c2
   omega
theorem srises_fin (l:List Int) (hn:l.length≤9223372036854775807):Fin (fun k=>series_rises.f k l) (fun r=>r=true→Rising l):=by
 refine fin_mono (srises_loop l hn l 0 rfl) (fun r h hr=>⟨pairwise_step l (fun j hj=>?_),fun x hx=>?_,(h hr).1⟩)
 ·exact ((h hr).2 (j + 1) hj (Nat.zero_le _)).2 (by omega)
 ·obtain ⟨j,hj,rfl⟩:=List.getElem_of_mem hx
  exact ((h hr).2 j hj (Nat.zero_le _)).1
/-! ### a series -/
/-- A change that may be. -/
def okChange (c:S64):Prop:=(c.f3=true→c.f1=0∧c.f2=0)∧(c.f3=false→(0≤c.f1∧c.f1≤253402300799)∧0≤c.f2∧c.f2≤604800)
theorem long_f (t:Int):series_isLong.f t=some (decide (0≤t∧t≤604800)):=by
 unfold series_isLong.f
 by_cases c:t ≥ 0
 ·rw [if_pos c]
  congr 1
  rw [decide_eq_decide]
  omega
 ·rw [if_neg c,decide_eq_false (by omega)]
theorem change_some (c:S64):∃ b,series_Change_right.f c.f0 c.f1 c.f2 c.f3=some b∧(b=true→okChange c):=by
 unfold series_Change_right.f okChange
 simp only [when_f,long_f,Option.bind_some]
 by_cases h3:c.f3=true
 ·rw [if_pos h3]
  split
  ·exact ⟨_,rfl,fun h=>⟨fun _=>⟨by assumption,by simpa using h⟩,fun h'=>by rw [h3] at h';cases h'⟩⟩
  ·exact ⟨_,rfl,fun h=>by cases h⟩
 ·rw [if_neg h3]
  split
  ·rename_i h
   exact ⟨_,rfl,fun h'=>⟨fun h''=>absurd h'' h3,fun _=>⟨of_decide_eq_true h,of_decide_eq_true h'⟩⟩⟩
  ·exact ⟨_,rfl,fun h=>by cases h⟩
theorem zeroS_some (r0 r1 r2 r3:Int) (r4 r5:List Int) (r6:List S91):∃ t,series_zero.f r0 r1 r2 r3 r4 r5 r6=some t:=by
 unfold series_zero.f
 split
 ·split
  ·split
   ·split <;> exact ⟨_,rfl⟩
   ·exact ⟨_,rfl⟩
  ·exact ⟨_,rfl⟩
 ·exact ⟨_,rfl⟩
section
variable (s0 s1:Int) (s2:Bool) (r0 r1 r2 r3:Int) (l7 l8:List Int) (l9:List S91) (l10 l11:List Int) (l12:List S64)
/-- What a series that may be is made of. -/
structure okSeries:Prop where
 rule:s2=true→Ev (fun k=>recur_Right.f k r0 r1 r2 r3 l7 l8 l9) true
 start:0≤s0∧s0≤253402300799
 long:0≤s1∧s1≤604800
 left:Rising l10
 more:Rising l11
 origs:Rising (l12.map (·.f0))
 changes:∀ c,c∈l12→okChange c
/-- No list is beyond what a machine holds. -/
structure Short:Prop where
 a:l7.length≤9223372036854775807
 b:l8.length≤9223372036854775807
 c:l9.length≤9223372036854775807
 d:l10.length≤9223372036854775807
 e:l11.length≤9223372036854775807
 f:l12.length≤9223372036854775807
theorem sright_loop (hs:Short l7 l8 l9 l10 l11 l12) (hf:l12.length≤256) (hr:s2=true→Ev (fun k=>recur_Right.f k r0 r1 r2 r3 l7 l8 l9) true) :
  ∀ (suf:List S64) (i:Nat) (acc:List Int),l12.drop i=suf→acc.length=i→acc ++ suf.map (·.f0)=l12.map (·.f0)→Fin (fun k=>series_Right.l0 k acc l12 (l12.length:Int) (i:Int) s0 s1 s2 r0 r1 r2 r3 l7 l8 l9 l10 l11 l12) (fun r=>r=true→(∀ c,c∈suf→okChange c)∧(0≤s0∧s0≤253402300799)∧(0≤s1∧s1≤604800)∧Rising l10∧Rising l11∧Rising (l12.map (·.f0))):=by
 intro suf
 induction suf with
 | nil =>
  intro i acc hd hl ha
  have:=drop_nil hd
  refine fin_step (f:=fun k=>if decide (0≤s0∧s0≤253402300799)=true then (if decide (0≤s1∧s1≤604800)=true then ((series_rises.f k l10).bind fun t136=>(if t136=true then ((series_rises.f k l11).bind fun t137=>(if t137=true then ((series_rises.f k acc).bind fun t138=>(some t138)) else (some false))) else (some false))) else some false) else some false) (fun k=>?_) ?_
  ·simp only [series_Right.l0]
   rw [if_neg (by omega),when_f,Option.bind_some,long_f,Option.bind_some]
  ·have no:Fin (fun _=>some false) (fun r=>r=true→(∀ c,c∈([]:List S64)→okChange c)∧(0≤s0∧s0≤253402300799)∧(0≤s1∧s1≤604800)∧Rising l10∧Rising l11∧Rising (l12.map (·.f0))):=fin_now (fun h=>by cases h)
   rw [List.map_nil,List.append_nil] at ha
   refine fin_ite (fun c1=>fin_ite (fun c2=>fin_bind (srises_fin l10 (by have:=hs.d;omega)) (fun t ht=>fin_ite (fun e1=>fin_bind (srises_fin l11 (by have:=hs.e;omega)) (fun u hu=>fin_ite (fun e2=>fin_bind (srises_fin acc (by rw [ha,List.length_map];omega)) (fun v hv=>fin_now (fun h=>?_))) (fun _=>no))) (fun _=>no))) (fun _=>no)) (fun _=>no)
   refine ⟨fun c hc=>(by cases hc),of_decide_eq_true c1,of_decide_eq_true c2,ht e1,hu e2,?_⟩
   rw [← ha]
   exact hv h
 | cons o suf ih =>
  intro i acc hd hl ha
  obtain ⟨hi,ho,hd'⟩:=get_drop (d:=z64) hd
  have hw:=wrapS hi (by omega)
  have ho':rd_T64 l12 (i:Int)=o:=ho
  obtain ⟨b,hb,hok⟩:=change_some o
  have nxt:=ih (i + 1) (acc ++ [o.f0]) hd' (by simp;omega) (by rw [← ha];simp)
  refine fin_step (f:=fun k=>if b=true then (series_Right.l0 k (acc ++ [o.f0]) l12 (l12.length:Int) ((i + 1:Nat):Int) s0 s1 s2 r0 r1 r2 r3 l7 l8 l9 l10 l11 l12) else some false) (fun k=>?_) (fin_ite (fun e=>?_) (fun _=>fin_now (fun h=>by cases h)))
  ·simp only [series_Right.l0]
   rw [if_pos (by omega),if_pos (by omega),if_pos (by omega),ho',hb,Option.bind_some,hw,if_pos (show acc.length < 17592186044416 by omega)]
  ·exact fin_mono nxt (fun r h hr=>by
    obtain ⟨h1,h2⟩:=h hr
    refine ⟨fun c hc=>?_,h2⟩
    rcases List.mem_cons.1 hc with rfl | hc
    ·exact hok e
    ·exact h1 c hc)
theorem sright_fin (hs:Short l7 l8 l9 l10 l11 l12):Fin (fun k=>series_Right.f k s0 s1 s2 r0 r1 r2 r3 l7 l8 l9 l10 l11 l12) (fun r=>r=true→okSeries s0 s1 s2 r0 r1 r2 r3 l7 l8 l9 l10 l11 l12):=by
 have no:Fin (fun k=>series_Right.j0 k true s0 s1 s2 r0 r1 r2 r3 l7 l8 l9 l10 l11 l12) (fun r=>r=true→okSeries s0 s1 s2 r0 r1 r2 r3 l7 l8 l9 l10 l11 l12):=by
  refine fin_step (f:=fun _=>some false) (fun k=>?_) (fin_now (fun h=>by cases h))
  simp only [series_Right.j0]
  rfl
 have yes:l12.length≤256→(s2=true→Ev (fun k=>recur_Right.f k r0 r1 r2 r3 l7 l8 l9) true)→Fin (fun k=>series_Right.j0 k false s0 s1 s2 r0 r1 r2 r3 l7 l8 l9 l10 l11 l12) (fun r=>r=true→okSeries s0 s1 s2 r0 r1 r2 r3 l7 l8 l9 l10 l11 l12):=by
  intro hf hr
  refine fin_step (fun k=>?_) (fin_mono (sright_loop s0 s1 s2 r0 r1 r2 r3 l7 l8 l9 l10 l11 l12 hs hf hr l12 0 [] rfl rfl rfl) (fun r h hrt=>?_))
  ·simp only [series_Right.j0]
   rfl
  ·obtain ⟨h1,h2,h3,h4,h5,h6⟩:=h hrt
   exact ⟨hr,h2,h3,h4,h5,h6,h1⟩
 unfold series_Right.f
 refine fin_ite (fun _=>no) (fun c1=>fin_ite (fun c2=>?_) (fun c2=>?_))
 ·obtain ⟨t,ht,-⟩:=rule_fin r0 r1 r2 r3 l7 l8 l9 (by have:=hs.a;omega) (by have:=hs.b;omega) (by have:=hs.c;omega)
  cases t with
  | true=>exact fin_bind (fin_ev ht (p:=fun x=>x=true) rfl) (fun a ha=>by subst ha;exact yes (by omega) (fun _=>ht))
  | false=>exact fin_bind (fin_ev ht (p:=fun x=>x=false) rfl) (fun a ha=>by subst ha;exact no)
 ·obtain ⟨t,ht⟩:=zeroS_some r0 r1 r2 r3 l7 l8 l9
  simp only [ht,Option.bind_some]
  cases t with
  | true=>exact yes (by omega) (fun h=>absurd h c2)
  | false=>exact no
end
end Go.Proofs.YtkgkblmeafhkfaaGreat.Base

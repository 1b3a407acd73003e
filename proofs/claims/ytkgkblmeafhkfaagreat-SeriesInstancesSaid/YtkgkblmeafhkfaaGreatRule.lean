/- Which rules may be: the program and the document agree. -/
import Derived.Test.YtkgkblmeafhkfaaGreatAgree
import Derived.Test.YtkgkblmeafhkfaaGreatPHx18
set_option linter.unusedVariables false
namespace Go.Proofs.YtkgkblmeafhkfaaGreat.Rule
open Go.RowKit Go.Proofs.YtkgkblmeafhkfaaGreatW.PrintWords Go.Proofs.YtkgkblmeafhkfaaGreatW.PrintLast Go.Proofs.YtkgkblmeafhkfaaGreatW.PrintMore Go.Proofs.YtkgkblmeafhkfaaGreat.PH Go.Proofs.YtkgkblmeafhkfaaGreat.Cal Go.Proofs.YtkgkblmeafhkfaaGreat.Base Go.Proofs.YtkgkblmeafhkfaaGreat.Match Go.Proofs.YtkgkblmeafhkfaaGreat.Agree
theorem time12 (t:Int):pr12_Time.f t=some (decide (0≤t∧t≤253402300799)):=by
 unfold pr12_Time.f
 by_cases c:t ≥ 0
 ·rw [if_pos c]
  congr 1
  rw [decide_eq_decide]
  omega
 ·rw [if_neg c,decide_eq_false (by omega)]
theorem rises_both (l:List Int) (lo hi_:Int) (hn:l.length≤9223372036854775807):Both (fun k=>recur_rises.f k l lo hi_) (fun k=>pr21_list.f k l lo hi_):=by
 have go:∀ (suf:List Int) (i:Nat),l.drop i=suf→Both (fun k=>recur_rises.l0 k l lo hi_ l (l.length:Int) (i:Int)) (fun k=>pr21_list.l0 k l lo hi_ (i:Int)):=by
  intro suf
  induction suf with
  | nil =>
   intro i hd
   have:=drop_nil hd
   refine both_l (g':=fun _=>some true) (fun k=>?_) (both_r (h':=fun _=>some true) (fun k=>?_) (both_now _))
   ·simp only [recur_rises.l0]
    rw [if_neg (by omega)]
   ·simp only [pr21_list.l0]
    rw [if_neg (by omega)]
  | cons o suf ih =>
   intro i hd
   obtain ⟨hi,ho,hd'⟩:=get_drop (d:=(0:Int)) hd
   have hw:=wrapS hi hn
   have ho':rd l (i:Int)=o:=ho
   have nx:=ih (i + 1) hd'
   have j1t:Ev (fun k=>pr21_list.j1 k l lo hi_ (i:Int) true) false:=Ev.step (f:=fun _=>some false) (fun k=>by simp only [pr21_list.j1,if_true]) (Ev.now _)
   have bad:(o < lo∨o > hi_∨o=0)→Both (fun k=>recur_rises.l0 k l lo hi_ l (l.length:Int) (i:Int)) (fun k=>pr21_list.l0 k l lo hi_ (i:Int)):=by
    intro hb
    refine both_ev (r:=false) (Ev.step (f:=fun _=>some false) (fun k=>?_) (Ev.now _)) (Ev.step (f:=fun k=>pr21_list.j1 k l lo hi_ (i:Int) true) (fun k=>?_) j1t)
    ·simp only [recur_rises.l0,ho']
     rw [if_pos (by omega),if_pos (by omega),if_pos (by omega)]
     by_cases c1:o < lo
     ·rw [if_pos c1]
     ·rw [if_neg c1]
      by_cases c2:o > hi_
      ·rw [if_pos c2]
      ·rw [if_neg c2,if_pos (by omega)]
    ·simp only [pr21_list.l0,ho']
     rw [if_pos (by omega),if_pos (by omega)]
     by_cases c1:o=0
     ·rw [if_pos c1]
     ·rw [if_neg c1]
      by_cases c2:o < lo
      ·rw [if_pos c2]
      ·rw [if_neg c2,decide_eq_true (by omega)]
   by_cases c:o < lo∨o > hi_∨o=0
   ·exact bad c
   ·refine both_l (g':=fun k=>if (i:Int) > 0 then (if rd l ((i - 1:Nat):Int) ≥ o then some false else recur_rises.l0 k l lo hi_ l (l.length:Int) ((i + 1:Nat):Int)) else recur_rises.l0 k l lo hi_ l (l.length:Int) ((i + 1:Nat):Int)) (fun k=>?_) ?_
    ·simp only [recur_rises.l0,ho',hw]
     rw [if_pos (by omega),if_pos (by omega),if_pos (by omega),if_neg (by omega),if_neg (by omega),if_neg (by omega)]
     by_cases c1:(i:Int) > 0
     ·rw [if_pos c1,if_pos c1,show wrap64 ((i:Int) - 1)=((i - 1:Nat):Int) from by unfold wrap64;omega,if_pos (by omega),if_pos (by omega)]
     ·rw [if_neg c1,if_neg c1]
    ·refine both_r (h':=fun k=>pr21_list.j1 k l lo hi_ (i:Int) false) (fun k=>?_) ?_
     ·simp only [pr21_list.l0,ho']
      rw [if_pos (by omega),if_pos (by omega),if_neg (by omega),if_neg (by omega),decide_eq_false (by omega)]
     ·refine both_r (h':=fun k=>if (i:Int) > 0 then (if rd l ((i - 1:Nat):Int) ≥ o then some false else pr21_list.l0 k l lo hi_ ((i + 1:Nat):Int)) else pr21_list.l0 k l lo hi_ ((i + 1:Nat):Int)) (fun k=>?_) ?_
      ·simp only [pr21_list.j1,Bool.false_eq_true,if_false,ho',hw]
       by_cases c1:(i:Int) > 0
       ·rw [if_pos c1,if_pos c1,if_pos (by omega),if_pos (by omega),show wrap64 ((i:Int) - 1)=((i - 1:Nat):Int) from by unfold wrap64;omega,if_pos (by omega),if_pos (by omega)]
       ·rw [if_neg c1,if_neg c1]
      ·exact both_ite Iff.rfl (fun _=>both_ite Iff.rfl (fun _=>both_now _) (fun _=>nx)) (fun _=>nx)
 exact go l 0 rfl
section
variable (r0 r1 r2 r3:Int) (l7 l8:List Int) (l9:List S91)
theorem rd_cv {l:List S91} {j:Nat} (h:j < l.length):rd_T92 (l.map cv) (j:Int)=cv (rd_T91 l (j:Int)):=by simp [rd_T92,rd_T91,h]
theorem week_both (x:Bool) (hn:l9.length≤9223372036854775807):∀ (suf:List S91) (i:Nat),l9.drop i=suf→(0 < i→okDay (rd_T91 l9 ((i - 1:Nat):Int))) →
  ∃ b,Ev (fun k=>recur_Right.l0 k x l9 (l9.length:Int) (i:Int) r0 r1 r2 r3 l7 l8 l9) b∧Ev (fun k=>pr21_week.l0 k (l9.map cv) x (i:Int)) b∧(b=true→x=false→∀ y,y∈suf→y.f1=0):=by
 have hlen:((l9.map cv).length:Int)=(l9.length:Int):=by rw [List.length_map]
 intro suf
 induction suf with
 | nil =>
  intro i hd _
  have:=drop_nil hd
  refine ⟨true,Ev.step (f:=fun _=>some true) (fun k=>?_) (Ev.now _),Ev.step (f:=fun _=>some true) (fun k=>?_) (Ev.now _),fun _ _ y hy=>by cases hy⟩
  ·simp only [recur_Right.l0]
   rw [if_neg (by omega)]
  ·simp only [pr21_week.l0]
   rw [if_neg (by omega)]
 | cons o suf ih =>
  intro i hd hp
  obtain ⟨hi,ho,hd'⟩:=get_drop (d:=z91) hd
  have hw:=wrapS hi hn
  have ho':rd_T91 l9 (i:Int)=o:=ho
  have hc':rd_T92 (l9.map cv) (i:Int)=cv o:=by rw [rd_cv hi,ho']
  have e0:(cv o).f0=o.f0:=rfl
  have e1:(cv o).f1=o.f1:=rfl
  have j4t:Ev (fun k=>recur_Right.j4 k x (i:Int) l9 (l9.length:Int) (i:Int) true r0 r1 r2 r3 l7 l8 l9 o.f0 o.f1) false:=Ev.step (f:=fun _=>some false) (fun k=>by simp only [recur_Right.j4,if_true]) (Ev.now _)
  have j1t:Ev (fun k=>pr21_week.j1 k (l9.map cv) x (i:Int) true o.f0 o.f1) false:=Ev.step (f:=fun _=>some false) (fun k=>by simp only [pr21_week.j1,if_true]) (Ev.now _)
  have s4:∀ z:Bool,(z=true ↔ (¬okDay o∨(x=false∧o.f1≠0)))→∀ r,Ev (fun k=>recur_Right.j4 k x (i:Int) l9 (l9.length:Int) (i:Int) z r0 r1 r2 r3 l7 l8 l9 o.f0 o.f1) r→Ev (fun k=>recur_Right.l0 k x l9 (l9.length:Int) (i:Int) r0 r1 r2 r3 l7 l8 l9) r:=by
   intro z hz r hr
   refine Ev.step (fun k=>?_) hr
   simp only [recur_Right.l0,ho']
   rw [if_pos (by omega),if_pos (by omega),if_pos (by omega)]
   unfold okDay at hz
   by_cases c1:o.f0 < 0
   ·rw [if_pos c1,hz.2 (.inl (by omega))]
   ·rw [if_neg c1]
    by_cases c2:o.f0 > 6
    ·rw [if_pos c2,hz.2 (.inl (by omega))]
    ·rw [if_neg c2]
     by_cases c3:o.f1 < -5
     ·rw [if_pos c3,hz.2 (.inl (by omega))]
     ·rw [if_neg c3]
      by_cases c4:o.f1 > 5
      ·rw [if_pos c4,hz.2 (.inl (by omega))]
      ·rw [if_neg c4]
       cases x with
       | true =>
        have:z=false:=Bool.eq_false_iff.mpr (fun h=>by rcases hz.1 h with h | h;exact h (by omega);cases h.1)
        rw [if_pos rfl,this]
       | false =>
        rw [if_neg (by decide)]
        have:z=(o.f1 != 0):=by
         rw [Bool.eq_iff_iff,hz]
         simp only [bne_iff_ne,ne_eq,true_and]
         constructor
         ·rintro (h | h)
          ·exact absurd (by omega) h
          ·exact h
         ·exact .inr
        rw [this]
  have s1:∀ z:Bool,(z=true ↔ (¬okDay o∨(x=false∧o.f1≠0)))→∀ r,Ev (fun k=>pr21_week.j1 k (l9.map cv) x (i:Int) z o.f0 o.f1) r→Ev (fun k=>pr21_week.l0 k (l9.map cv) x (i:Int)) r:=by
   intro z hz r hr
   refine Ev.step (fun k=>?_) hr
   simp only [pr21_week.l0,hc',e0,e1]
   rw [if_pos (by omega),if_pos (by omega)]
   unfold okDay at hz
   by_cases c1:o.f0 < 0
   ·rw [if_pos c1,hz.2 (.inl (by omega))]
   ·rw [if_neg c1]
    by_cases c2:o.f0 > 6
    ·rw [if_pos c2,hz.2 (.inl (by omega))]
    ·rw [if_neg c2]
     by_cases c3:o.f1 < -5
     ·rw [if_pos c3,hz.2 (.inl (by omega))]
     ·rw [if_neg c3]
      by_cases c4:o.f1 > 5
      ·rw [if_pos c4,hz.2 (.inl (by omega))]
      ·rw [if_neg c4]
       by_cases c5:o.f1=0
       ·have:z=false:=Bool.eq_false_iff.mpr (fun h=>by rcases hz.1 h with h | h;exact h (by omega);exact h.2 c5)
        rw [if_pos c5,this]
       ·rw [if_neg c5]
        have:z = !x:=by
         rw [Bool.eq_iff_iff,hz]
         cases x
         ·simp;exact .inr c5
         ·simp;omega
        rw [this]
  by_cases hb:¬okDay o∨(x=false∧o.f1≠0)
  ·exact ⟨false,s4 true ⟨fun _=>hb,fun _=>rfl⟩ false j4t,s1 true ⟨fun _=>hb,fun _=>rfl⟩ false j1t,fun h=>by cases h⟩
  ·have hz:(false=true ↔ (¬okDay o∨(x=false∧o.f1≠0))):=⟨fun h=>(by cases h),fun h=>absurd h hb⟩
   have hok:okDay o:=Classical.not_not.1 (fun h=>hb (.inl h))
   have hx0:x=false→o.f1=0:=fun hx=>Classical.not_not.1 (fun h=>hb (.inr ⟨hx,h⟩))
   obtain ⟨b,g1,g2,g3⟩:=ih (i + 1) hd' (fun _=>by rw [show i + 1 - 1=i from rfl,ho'];exact hok)
   have g3':b=true→x=false→∀ y,y∈o :: suf→y.f1=0:=fun h1 h2 y hy=>by
    rcases List.mem_cons.1 hy with rfl | hy
    ·exact hx0 h2
    ·exact g3 h1 h2 y hy
   by_cases c:(i:Int) > 0
   ·have ew:wrap64 ((i:Int) - 1)=((i - 1:Nat):Int):=by unfold wrap64;omega
    have hpr:=hp (by omega)
    have hrp:rd_T92 (l9.map cv) ((i - 1:Nat):Int)=cv (rd_T91 l9 ((i - 1:Nat):Int)):=rd_cv (by omega)
    generalize hpe:rd_T91 l9 ((i - 1:Nat):Int)=pr at hpr hrp
    have p0:(cv pr).f0=pr.f0:=rfl
    have p1:(cv pr).f1=pr.f1:=rfl
    unfold okDay at hpr hok
    by_cases hge:pr.f0 > o.f0∨(pr.f0=o.f0∧pr.f1 ≥ o.f1)
    ·refine ⟨false,s4 false hz false (Ev.step (f:=fun _=>some false) (fun k=>?_) (Ev.now _)),s1 false hz false (Ev.step (f:=fun _=>some false) (fun k=>?_) (Ev.now _)),fun h=>by cases h⟩
     ·simp only [recur_Right.j4,Bool.false_eq_true,if_false,ew,hpe]
      rw [if_pos c,if_pos (by omega),if_pos (by omega)]
      unfold recur_order.f
      by_cases c0:pr.f0=o.f0
      ·rw [if_pos c0,Option.bind_some,if_pos (by unfold wrap64;omega)]
      ·rw [if_neg c0,Option.bind_some,if_pos (by unfold wrap64;omega)]
     ·simp only [pr21_week.j1,Bool.false_eq_true,if_false,ew,hrp,p0,p1]
      rw [if_pos c,if_pos (by omega),if_pos (by omega)]
      by_cases c0:pr.f0 > o.f0
      ·rw [if_pos c0]
      ·rw [if_neg c0,if_pos (by omega),if_pos (by omega)]
    ·refine ⟨b,s4 false hz b (Ev.step (fun k=>?_) g1),s1 false hz b (Ev.step (fun k=>?_) g2),g3'⟩
     ·simp only [recur_Right.j4,Bool.false_eq_true,if_false,ew,hpe,hw]
      rw [if_pos c,if_pos (by omega),if_pos (by omega)]
      unfold recur_order.f
      by_cases c0:pr.f0=o.f0
      ·rw [if_pos c0,Option.bind_some,if_neg (by unfold wrap64;omega)]
      ·rw [if_neg c0,Option.bind_some,if_neg (by unfold wrap64;omega)]
     ·simp only [pr21_week.j1,Bool.false_eq_true,if_false,ew,hrp,p0,p1,hw]
      rw [if_pos c,if_pos (by omega),if_pos (by omega),if_neg (by omega)]
      by_cases c0:pr.f0=o.f0
      ·rw [if_pos c0,if_neg (by omega)]
      ·rw [if_neg c0]
   ·refine ⟨b,s4 false hz b (Ev.step (fun k=>?_) g1),s1 false hz b (Ev.step (fun k=>?_) g2),g3'⟩
    ·simp only [recur_Right.j4,Bool.false_eq_true,if_false,hw]
     rw [if_neg c]
    ·simp only [pr21_week.j1,Bool.false_eq_true,if_false,hw]
     rw [if_neg c]
/-- What is known of a rule that may be. -/
structure Fine:Prop where
 freq:1≤r0∧r0≤4
 step:1≤r1∧r1≤1000
 count:0≤r2∧r2≤10000
 till:r3 = -1∨(0≤r3∧r3≤253402300799)
 plain:r0≤2→∀ x,x∈l9→x.f1=0
theorem right_both (h7:l7.length≤9223372036854775807) (h8:l8.length≤9223372036854775807) (h9:l9.length≤9223372036854775807) :
  ∃ b,Ev (fun k=>recur_Right.f k r0 r1 r2 r3 l7 l8 l9) b∧Ev (fun k=>pr21_Right.f k r0 r1 r2 r3 l7 l8 (l9.map cv)) b∧(b=true→Fine r0 r1 r2 r3 l9):=by
 obtain ⟨a,a1,a2⟩:=rises_both l7 1 12 h7
 obtain ⟨b,b1,b2⟩:=rises_both l8 (-31) 31 h8
 obtain ⟨w,w1,w2,w3⟩:=week_both r0 r1 r2 r3 l7 l8 l9 (decide (r0 ≥ 3)) h9 l9 0 rfl (fun h=>absurd h (by omega))
 have w2':Ev (fun k=>pr21_week.f k (l9.map cv) (decide (r0 ≥ 3))) w:=w2
 -- the program's tail,the document's
 have j2t:∀ x:Bool,Ev (fun k=>recur_Right.j2 k x true r0 r1 r2 r3 l7 l8 l9) false:=fun x=>Ev.step (f:=fun _=>some false) (fun k=>by simp only [recur_Right.j2,if_true]) (Ev.now _)
 have j2f:Ev (fun k=>recur_Right.j2 k (decide (r0 ≥ 3)) false r0 r1 r2 r3 l7 l8 l9) w:=Ev.step (fun k=>by simp only [recur_Right.j2,Bool.false_eq_true,if_false];rfl) w1
 have d2t:Ev (fun k=>pr21_Right.j2 k true r0 r1 r2 r3 l7 l8 (l9.map cv)) false:=Ev.step (f:=fun _=>some false) (fun k=>by simp only [pr21_Right.j2,if_true]) (Ev.now _)
 have d2f:Ev (fun k=>pr21_Right.j2 k false r0 r1 r2 r3 l7 l8 (l9.map cv)) (a && (b && w)):=by
  refine Ev.step (fun k=>by simp only [pr21_Right.j2,Bool.false_eq_true,if_false];rfl) ?_
  refine Ev.bind a2 ?_
  cases a with
  | false=>exact Ev.now _
  | true =>
   refine Ev.bind b2 ?_
   cases b with
   | false=>exact Ev.now _
   | true=>exact Ev.bind w2' (Ev.now _)
 have pA:Ev (fun k=>(recur_rises.f k l7 1 12).bind fun t109=>(if t109=true then ((recur_rises.f k l8 (-31) 31).bind fun t110=>(if t110=true then (if decide (r0 ≥ 3)=true then (recur_Right.j2 k (decide (r0 ≥ 3)) false r0 r1 r2 r3 l7 l8 l9) else (recur_Right.j2 k (decide (r0 ≥ 3)) (decide ((l8.length:Int) > 0)) r0 r1 r2 r3 l7 l8 l9)) else (recur_Right.j2 k (decide (r0 ≥ 3)) true r0 r1 r2 r3 l7 l8 l9))) else (recur_Right.j2 k (decide (r0 ≥ 3)) true r0 r1 r2 r3 l7 l8 l9))) ((decide (r0 ≥ 3) || decide (l8.length=0)) && (a && (b && w))):=by
  refine Ev.bind a1 ?_
  cases a with
  | false=>rw [Bool.false_and,Bool.and_false];exact j2t _
  | true =>
   refine Ev.bind b1 ?_
   cases b with
   | false=>rw [Bool.false_and,Bool.and_false,Bool.and_false];exact j2t _
   | true =>
    rw [Bool.true_and,Bool.true_and]
    by_cases c:r0 ≥ 3
    ·rw [decide_eq_true c] at j2f ⊢
     exact j2f
    ·rw [decide_eq_false c] at j2f ⊢
     rw [Bool.false_or]
     by_cases c8:l8.length=0
     ·simp only [Bool.false_eq_true,if_false,if_true]
      rw [decide_eq_true c8,decide_eq_false (by omega)]
      exact j2f
     ·simp only [Bool.false_eq_true,if_false,if_true]
      rw [decide_eq_false c8,decide_eq_true (by omega)]
      exact j2t _
 have dA:Ev (fun k=>pr21_Right.j1 k false r0 r1 r2 r3 l7 l8 (l9.map cv)) ((decide (r0 ≥ 3) || decide (l8.length=0)) && (a && (b && w))):=by
  refine Ev.step (fun k=>by simp only [pr21_Right.j1,Bool.false_eq_true,if_false];rfl) ?_
  by_cases c:r0 ≥ 3
  ·simp only [if_neg (show ¬r0≤2 by omega)]
   rw [decide_eq_true c,Bool.true_or,Bool.true_and]
   exact d2f
  ·simp only [if_pos (show r0≤2 by omega)]
   rw [decide_eq_false c,Bool.false_or]
   by_cases c8:l8.length=0
   ·rw [decide_eq_true c8,decide_eq_false (by omega),Bool.true_and]
    exact d2f
   ·rw [decide_eq_false c8,decide_eq_true (by omega),Bool.false_and]
    exact d2t
 by_cases R:(1≤r0∧r0≤4)∧(1≤r1∧r1≤1000)∧(0≤r2∧r2≤10000)
 ·have hx:(if r0=3 then true else (r0 == 4))=decide (r0 ≥ 3):=by
   by_cases c3:r0=3
   ·rw [if_pos c3,decide_eq_true (by omega)]
   ·rw [if_neg c3,Bool.eq_iff_iff];simp only [beq_iff_eq,decide_eq_true_eq];omega
  have pf:∀ r,Ev (fun k=>recur_Right.j1 k (decide (r0 ≥ 3)) false r0 r1 r2 r3 l7 l8 l9) r→Ev (fun k=>recur_Right.f k r0 r1 r2 r3 l7 l8 l9) r:=by
   intro r hr
   have hj:Ev (fun k=>recur_Right.j0 k (decide (r0 ≥ 3)) r0 r1 r2 r3 l7 l8 l9) r:=by
    refine Ev.step (fun k=>?_) hr
    simp only [recur_Right.j0]
    rw [if_neg (by omega),if_neg (by omega),if_neg (by omega),if_neg (by omega),if_neg (by omega),decide_eq_false (show ¬r2 > 10000 by omega)]
   rw [← hx] at hj
   unfold recur_Right.f
   by_cases c3:r0=3
   ·simp only [if_pos c3] at hj ⊢
    exact hj
   ·simp only [if_neg c3] at hj ⊢
    exact hj
  have df:∀ r,Ev (fun k=>pr21_Right.j0 k false r0 r1 r2 r3 l7 l8 (l9.map cv)) r→Ev (fun k=>pr21_Right.f k r0 r1 r2 r3 l7 l8 (l9.map cv)) r:=by
   intro r hr
   unfold pr21_Right.f
   simp only [if_neg (show ¬r0 < 1 by omega),if_neg (show ¬r0 > 4 by omega),if_neg (show ¬r1 < 1 by omega),if_neg (show ¬r1 > 1000 by omega),if_neg (show ¬r2 < 0 by omega),decide_eq_false (show ¬r2 > 10000 by omega)]
   exact hr
  have fine:((decide (r0 ≥ 3) || decide (l8.length=0)) && (a && (b && w)))=true→(r3 = -1∨(0≤r3∧r3≤253402300799))→Fine r0 r1 r2 r3 l9:=fun h ht=>by
   simp only [Bool.and_eq_true] at h
   exact ⟨R.1,R.2.1,R.2.2,ht,fun h2=>w3 h.2.2.2 (decide_eq_false (by omega))⟩
  have no:∀ g:Prop,false=true→g:=fun _ h=>by cases h
  by_cases c3:r3 = -1
  ·refine ⟨_,pf _ (Ev.step (fun k=>?_) pA),df _ (Ev.step (fun k=>?_) dA),fun h=>fine h (.inl c3)⟩
   ·simp only [recur_Right.j1,Bool.false_eq_true,if_false]
    rw [if_pos c3]
   ·simp only [pr21_Right.j0,Bool.false_eq_true,if_false]
    rw [if_pos c3]
  ·by_cases ct:0≤r3∧r3≤253402300799
   ·by_cases c2:r2=0
    ·refine ⟨_,pf _ (Ev.step (fun k=>?_) pA),df _ (Ev.step (fun k=>?_) dA),fun h=>fine h (.inr ct)⟩
     ·simp only [recur_Right.j1,Bool.false_eq_true,if_false,when_f,Option.bind_some,decide_eq_true ct,if_true]
      rw [if_neg c3,if_pos c2]
     ·simp only [pr21_Right.j0,Bool.false_eq_true,if_false,time12,Option.bind_some,decide_eq_true ct,if_true]
      rw [if_neg c3,decide_eq_false (by omega)]
    ·refine ⟨false,pf _ (Ev.step (fun k=>?_) (j2t (decide (r0 ≥ 3)))),df _ (Ev.step (f:=fun k=>pr21_Right.j1 k true r0 r1 r2 r3 l7 l8 (l9.map cv)) (fun k=>?_) (Ev.step (f:=fun _=>some false) (fun k=>by simp only [pr21_Right.j1,if_true]) (Ev.now _))),no _⟩
     ·simp only [recur_Right.j1,Bool.false_eq_true,if_false,when_f,Option.bind_some,decide_eq_true ct,if_true]
      rw [if_neg c3,if_neg c2]
     ·simp only [pr21_Right.j0,Bool.false_eq_true,if_false,time12,Option.bind_some,decide_eq_true ct,if_true]
      rw [if_neg c3,decide_eq_true (by omega)]
   ·refine ⟨false,pf _ (Ev.step (fun k=>?_) (j2t (decide (r0 ≥ 3)))),df _ (Ev.step (f:=fun k=>pr21_Right.j1 k true r0 r1 r2 r3 l7 l8 (l9.map cv)) (fun k=>?_) (Ev.step (f:=fun _=>some false) (fun k=>by simp only [pr21_Right.j1,if_true]) (Ev.now _))),no _⟩
    ·simp only [recur_Right.j1,Bool.false_eq_true,if_false,when_f,Option.bind_some,decide_eq_false ct]
     rw [if_neg c3]
    ·simp only [pr21_Right.j0,Bool.false_eq_true,if_false,time12,Option.bind_some,decide_eq_false ct]
     rw [if_neg c3]
 ·refine ⟨false,?_,?_,fun h=>by cases h⟩
  ·have j1t:∀ x:Bool,Ev (fun k=>recur_Right.j1 k x true r0 r1 r2 r3 l7 l8 l9) false:=fun x=>Ev.step (f:=fun _=>some false) (fun k=>by simp only [recur_Right.j1,if_true]) (Ev.now _)
   have j0:∀ x:Bool,Ev (fun k=>recur_Right.j0 k x r0 r1 r2 r3 l7 l8 l9) false:=fun x=>by
    refine Ev.step (fun k=>?_) (j1t x)
    simp only [recur_Right.j0]
    by_cases c1:r0 < 1
    ·rw [if_pos c1]
    ·rw [if_neg c1]
     by_cases c2:r0 > 4
     ·rw [if_pos c2]
     ·rw [if_neg c2]
      by_cases c3:r1 < 1
      ·rw [if_pos c3]
      ·rw [if_neg c3]
       by_cases c4:r1 > 1000
       ·rw [if_pos c4]
       ·rw [if_neg c4]
        by_cases c5:r2 < 0
        ·rw [if_pos c5]
        ·rw [if_neg c5,decide_eq_true (by omega)]
   unfold recur_Right.f
   by_cases c3:r0=3
   ·simp only [if_pos c3];exact j0 _
   ·simp only [if_neg c3];exact j0 _
  ·have j0:Ev (fun k=>pr21_Right.j0 k true r0 r1 r2 r3 l7 l8 (l9.map cv)) false:=Ev.step (f:=fun _=>some false) (fun k=>by simp only [pr21_Right.j0,if_true]) (Ev.now _)
   unfold pr21_Right.f
   by_cases c1:r0 < 1
   ·simp only [if_pos c1];exact j0
   ·simp only [if_neg c1]
    by_cases c2:r0 > 4
    ·simp only [if_pos c2];exact j0
    ·simp only [if_neg c2]
     by_cases c3:r1 < 1
     ·simp only [if_pos c3];exact j0
     ·simp only [if_neg c3]
      by_cases c4:r1 > 1000
      ·simp only [if_pos c4];exact j0
      ·simp only [if_neg c4]
       by_cases c5:r2 < 0
       ·simp only [if_pos c5];exact j0
       ·simp only [if_neg c5]
        rw [decide_eq_true (show r2 > 10000 by omega)];exact j0
end
end Go.Proofs.YtkgkblmeafhkfaaGreat.Rule

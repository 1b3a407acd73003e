/- Which series may be: the program and the document agree. -/
import Derived.Test.YtkgkblmeafhkfaaGreatRule
import Derived.Test.YtkgkblmeafhkfaaGreatPHx20
set_option linter.unusedVariables false
namespace Go.Proofs.YtkgkblmeafhkfaaGreat.Ser
open Go.RowKit Go.Proofs.YtkgkblmeafhkfaaGreatW.PrintWords Go.Proofs.YtkgkblmeafhkfaaGreatW.PrintLast Go.Proofs.YtkgkblmeafhkfaaGreatW.PrintMore Go.Proofs.YtkgkblmeafhkfaaGreat.PH Go.Proofs.YtkgkblmeafhkfaaGreat.Cal Go.Proofs.YtkgkblmeafhkfaaGreat.Base Go.Proofs.YtkgkblmeafhkfaaGreat.Match Go.Proofs.YtkgkblmeafhkfaaGreat.Agree Go.Proofs.YtkgkblmeafhkfaaGreat.Rule
theorem long23 (t:Int):pr23_long.f t=some (decide (0≤t∧t≤604800)):=by
 unfold pr23_long.f
 by_cases c:t ≥ 0
 ·rw [if_pos c]
  congr 1
  rw [decide_eq_decide]
  omega
 ·rw [if_neg c,decide_eq_false (by omega)]
theorem rising_both (l:List Int) (hn:l.length≤9223372036854775807):∃ b,Ev (fun k=>series_rises.f k l) b∧Ev (fun k=>pr23_rising.f k l) b∧(b=true→l.length≤256):=by
 have go:∀ (suf:List Int) (i:Nat),l.drop i=suf→Both (fun k=>series_rises.l0 k l l (l.length:Int) (i:Int)) (fun k=>pr23_rising.l0 k l (i:Int)):=by
  intro suf
  induction suf with
  | nil =>
   intro i hd
   have:=drop_nil hd
   refine both_l (g':=fun _=>some (decide ((l.length:Int)≤256))) (fun k=>?_) (both_r (h':=fun _=>some (decide ((l.length:Int)≤256))) (fun k=>?_) (both_now _))
   ·simp only [series_rises.l0]
    rw [if_neg (by omega)]
   ·simp only [pr23_rising.l0]
    rw [if_neg (by omega)]
  | cons o suf ih =>
   intro i hd
   obtain ⟨hi,ho,hd'⟩:=get_drop (d:=(0:Int)) hd
   have hw:=wrapS hi hn
   have ho':rd l (i:Int)=o:=ho
   have nx:=ih (i + 1) hd'
   refine both_l (g':=fun k=>if decide (0≤o∧o≤253402300799)=true then (if (i:Int) > 0 then (if rd l ((i - 1:Nat):Int) ≥ o then some false else series_rises.l0 k l l (l.length:Int) ((i + 1:Nat):Int)) else series_rises.l0 k l l (l.length:Int) ((i + 1:Nat):Int)) else some false) (fun k=>?_) ?_
   ·simp only [series_rises.l0,ho',hw,when_f,Option.bind_some]
    rw [if_pos (by omega),if_pos (by omega),if_pos (by omega)]
    by_cases c1:(i:Int) > 0
    ·rw [if_pos c1,if_pos c1,show wrap64 ((i:Int) - 1)=((i - 1:Nat):Int) from by unfold wrap64;omega,if_pos (show (0:Int)≤((i - 1:Nat):Int) by omega),if_pos (show ((i - 1:Nat):Int) < (l.length:Int) by omega)]
    ·rw [if_neg c1,if_neg c1]
   ·refine both_r (h':=fun k=>if decide (0≤o∧o≤253402300799)=true then (if (i:Int) > 0 then (if rd l ((i - 1:Nat):Int) ≥ o then some false else pr23_rising.l0 k l ((i + 1:Nat):Int)) else pr23_rising.l0 k l ((i + 1:Nat):Int)) else some false) (fun k=>?_) ?_
    ·simp only [pr23_rising.l0,ho',hw,time12,Option.bind_some]
     rw [if_pos (by omega),if_pos (by omega)]
     by_cases c1:(i:Int) > 0
     ·rw [if_pos c1,if_pos c1,show wrap64 ((i:Int) - 1)=((i - 1:Nat):Int) from by unfold wrap64;omega,if_pos (show (0:Int)≤((i - 1:Nat):Int) by omega),if_pos (show ((i - 1:Nat):Int) < (l.length:Int) by omega)]
     ·rw [if_neg c1,if_neg c1]
    ·exact both_ite Iff.rfl (fun _=>both_ite Iff.rfl (fun _=>both_ite Iff.rfl (fun _=>both_now _) (fun _=>nx)) (fun _=>nx)) (fun _=>both_now _)
 obtain ⟨b,h1,h2⟩:=go l 0 rfl
 refine ⟨b,h1,h2,fun hb=>?_⟩
 subst hb
 obtain ⟨r,hr,hp⟩:=srises_fin l hn
 have h1':Ev (fun k=>series_rises.f k l) true:=h1
 obtain rfl:=ev_one hr h1'
 exact (hp rfl).few
/-- A change as the document's. -/
def cc (x:S64):S69:=⟨x.f0,x.f1,x.f2,x.f3⟩
theorem cc_drop {l:List S64} {i:Nat} {o:S64} {suf:List S64} (h:l.drop i=o :: suf) (hi:i < l.length):rd_T69 (l.map cc) (i:Int)=cc o:=by
 have e:l[i] = o:=by
  rw [List.drop_eq_getElem_cons hi] at h
  injection h
 simp [rd_T69,hi,e]
/-- May a change be? -/
def okC (o:S64):Bool:=if o.f3=true then decide (o.f1=0∧o.f2=0) else decide (0≤o.f1∧o.f1≤253402300799) && decide (0≤o.f2∧o.f2≤604800)
theorem change_f (o:S64):series_Change_right.f o.f0 o.f1 o.f2 o.f3=some (okC o):=by
 unfold series_Change_right.f okC
 by_cases c:o.f3=true
 ·rw [if_pos c,if_pos c]
  by_cases c1:o.f1=0
  ·rw [if_pos c1]
   congr 1
   rw [Bool.eq_iff_iff];simp [c1]
  ·rw [if_neg c1,decide_eq_false (by omega)]
 ·rw [if_neg c,if_neg c,when_f,Option.bind_some]
  by_cases c1:0≤o.f1∧o.f1≤253402300799
  ·rw [decide_eq_true c1,if_pos rfl,long_f,Option.bind_some,Bool.true_and]
  ·rw [decide_eq_false c1,if_neg (by decide),Bool.false_and]
section
variable (s0 s1:Int) (s2:Bool) (r0 r1 r2 r3:Int) (l7 l8:List Int) (l9:List S91) (l10 l11:List Int) (l12:List S64)
/-- The changes, one by one, and what follows. -/
theorem changes_both (h10:l10.length≤300) (h11:l11.length≤300) (h12:l12.length≤300):∀ (suf:List S64) (i:Nat) (acc:List Int),l12.drop i=suf→acc.length=i→acc ++ suf.map (·.f0)=l12.map (·.f0) →
  ∃ b,Ev (fun k=>series_Right.l0 k acc l12 (l12.length:Int) (i:Int) s0 s1 s2 r0 r1 r2 r3 l7 l8 l9 l10 l11 l12) b∧Ev (fun k=>pr23_Right.l0 k acc (i:Int) s0 s1 s2 r0 r1 r2 r3 l7 l8 (l9.map cv) l10 l11 (l12.map cc)) b∧(b=true→l12.length≤256):=by
 have hlen:((l12.map cc).length:Int)=(l12.length:Int):=by rw [List.length_map]
 intro suf
 induction suf with
 | nil =>
  intro i acc hd hl ha
  have:=drop_nil hd
  rw [List.map_nil,List.append_nil] at ha
  obtain ⟨a,a1,a2,-⟩:=rising_both l10 (by omega)
  obtain ⟨b,b1,b2,-⟩:=rising_both l11 (by omega)
  obtain ⟨c,c1,c2,c3⟩:=rising_both acc (by rw [ha,List.length_map];omega)
  rw [ha,List.length_map] at c3
  refine ⟨decide (0≤s0∧s0≤253402300799) && (decide (0≤s1∧s1≤604800) && (a && (b && c))),?_,?_,fun h=>?_⟩
  ·refine Ev.step (fun k=>by simp only [series_Right.l0];rw [if_neg (by omega),when_f,Option.bind_some,long_f,Option.bind_some]) ?_
   cases decide (0≤s0∧s0≤253402300799) with
   | false=>exact Ev.now _
   | true =>
    cases decide (0≤s1∧s1≤604800) with
    | false=>exact Ev.now _
    | true =>
     refine Ev.bind a1 ?_
     cases a with
     | false=>exact Ev.now _
     | true =>
      refine Ev.bind b1 ?_
      cases b with
      | false=>exact Ev.now _
      | true=>exact Ev.bind c1 (Ev.now _)
  ·refine Ev.step (fun k=>by simp only [pr23_Right.l0,hlen];rw [if_neg (by omega),time12,Option.bind_some,long23,Option.bind_some]) ?_
   cases decide (0≤s0∧s0≤253402300799) with
   | false=>exact Ev.now _
   | true =>
    cases decide (0≤s1∧s1≤604800) with
    | false=>exact Ev.now _
    | true =>
     refine Ev.bind a2 ?_
     cases a with
     | false=>exact Ev.now _
     | true =>
      refine Ev.bind b2 ?_
      cases b with
      | false=>exact Ev.now _
      | true=>exact Ev.bind c2 (Ev.now _)
  ·simp only [Bool.and_eq_true] at h
   exact c3 h.2.2.2.2
 | cons o suf ih =>
  intro i acc hd hl ha
  obtain ⟨hi,ho,hd'⟩:=get_drop (d:=z64) hd
  have hw:=wrapS hi (by omega)
  have ho':rd_T64 l12 (i:Int)=o:=ho
  have hc':=cc_drop hd hi
  have e0:(cc o).f0=o.f0:=rfl
  have e1:(cc o).f1=o.f1:=rfl
  have e2:(cc o).f2=o.f2:=rfl
  have e3:(cc o).f3=o.f3:=rfl
  obtain ⟨b,g1,g2,g3⟩:=ih (i + 1) (acc ++ [o.f0]) hd' (by simp;omega) (by rw [← ha];simp)
  have j3t:Ev (fun k=>pr23_Right.j3 k (acc ++ [o.f0]) (i:Int) true s0 s1 s2 r0 r1 r2 r3 l7 l8 (l9.map cv) l10 l11 (l12.map cc) o.f0 o.f1 o.f2 o.f3) false:=Ev.step (f:=fun _=>some false) (fun k=>by simp only [pr23_Right.j3,if_true]) (Ev.now _)
  refine ⟨okC o && b,?_,?_,fun h=>?_⟩
  ·refine Ev.step (f:=fun k=>if okC o=true then (series_Right.l0 k (acc ++ [o.f0]) l12 (l12.length:Int) ((i + 1:Nat):Int) s0 s1 s2 r0 r1 r2 r3 l7 l8 l9 l10 l11 l12) else some false) (fun k=>?_) ?_
   ·simp only [series_Right.l0]
    rw [if_pos (by omega),if_pos (by omega),if_pos (by omega),ho',change_f,Option.bind_some,hw,if_pos (show acc.length < 17592186044416 by omega)]
   ·cases okC o with
    | true=>exact g1
    | false=>exact Ev.now _
  ·have hst:∀ r,(o.f3=true→Ev (fun k=>pr23_Right.j3 k (acc ++ [o.f0]) (i:Int) (if o.f1=0 then (o.f2 != 0) else true) s0 s1 s2 r0 r1 r2 r3 l7 l8 (l9.map cv) l10 l11 (l12.map cc) o.f0 o.f1 o.f2 o.f3) r)→(¬o.f3=true→Ev (fun k=>pr23_Right.j3 k (acc ++ [o.f0]) (i:Int) false s0 s1 s2 r0 r1 r2 r3 l7 l8 (l9.map cv) l10 l11 (l12.map cc) o.f0 o.f1 o.f2 o.f3) r) →
     Ev (fun k=>pr23_Right.l0 k acc (i:Int) s0 s1 s2 r0 r1 r2 r3 l7 l8 (l9.map cv) l10 l11 (l12.map cc)) r:=by
    intro r ht hf
    by_cases c:o.f3=true
    ·refine Ev.step (fun k=>?_) (ht c)
     simp only [pr23_Right.l0,hlen,hc',e0,e1,e2,e3,Option.bind_some]
     rw [if_pos (by omega),if_pos (by omega),if_pos (show acc.length < 17592186044416 by omega),if_pos c]
     by_cases c1:o.f1=0
     ·rw [if_pos c1,if_pos c1]
     ·rw [if_neg c1,if_neg c1]
    ·refine Ev.step (fun k=>?_) (hf c)
     simp only [pr23_Right.l0,hlen,hc',e0,e1,e2,e3,Option.bind_some]
     rw [if_pos (by omega),if_pos (by omega),if_pos (show acc.length < 17592186044416 by omega),if_neg c]
   refine hst _ (fun c=>?_) (fun c=>?_)
   ·by_cases c1:o.f1=0∧o.f2=0
    ·rw [if_pos c1.1,show (o.f2 != 0)=false from by simp [c1.2],show okC o=true from by unfold okC;rw [if_pos c,decide_eq_true c1],Bool.true_and]
     refine Ev.step (fun k=>?_) g2
     simp only [pr23_Right.j3,Bool.false_eq_true,if_false,hw]
     rw [if_pos c]
    ·have hz:(if o.f1=0 then (o.f2 != 0) else true)=true:=by
      by_cases c2:o.f1=0
      ·rw [if_pos c2];simp;exact fun h=>c1 ⟨c2,h⟩
      ·rw [if_neg c2]
     rw [hz,show okC o=false from by unfold okC;rw [if_pos c,decide_eq_false c1],Bool.false_and]
     exact j3t
   ·unfold okC
    rw [if_neg c]
    refine Ev.step (fun k=>by simp only [pr23_Right.j3,Bool.false_eq_true,if_false,time12,Option.bind_some,long23,hw];rw [if_neg c]) ?_
    cases decide (0≤o.f1∧o.f1≤253402300799) with
    | false=>exact Ev.now _
    | true =>
     cases decide (0≤o.f2∧o.f2≤604800) with
     | false=>exact Ev.now _
     | true=>exact g2
  ·simp only [Bool.and_eq_true] at h
   exact g3 h.2
set_option maxHeartbeats 4000000 in
theorem sright_both (h7:l7.length≤100) (h8:l8.length≤100) (h9:l9.length≤100) (h10:l10.length≤300) (h11:l11.length≤300) (h12:l12.length≤300) :
  Both (fun k=>series_Right.f k s0 s1 s2 r0 r1 r2 r3 l7 l8 l9 l10 l11 l12) (fun k=>pr23_Right.f k s0 s1 s2 r0 r1 r2 r3 l7 l8 (l9.map cv) l10 l11 (l12.map cc)):=by
 have hlen:((l9.map cv).length:Int)=(l9.length:Int):=by rw [List.length_map]
 obtain ⟨b,g1,g2,g3⟩:=changes_both s0 s1 s2 r0 r1 r2 r3 l7 l8 l9 l10 l11 l12 h10 h11 h12 l12 0 [] rfl rfl rfl
 obtain ⟨q,q1,q2,-⟩:=right_both r0 r1 r2 r3 l7 l8 l9 (by omega) (by omega) (by omega)
 have pj:∀ z:Bool,Ev (fun k=>series_Right.j0 k z s0 s1 s2 r0 r1 r2 r3 l7 l8 l9 l10 l11 l12) (!z && b):=by
  intro z
  cases z with
  | true=>exact Ev.step (f:=fun _=>some false) (fun k=>by simp only [series_Right.j0,if_true]) (Ev.now _)
  | false=>exact Ev.step (fun k=>by simp only [series_Right.j0,Bool.false_eq_true,if_false];rfl) g1
 have dj:∀ z:Bool,Ev (fun k=>pr23_Right.j1 k z s0 s1 s2 r0 r1 r2 r3 l7 l8 (l9.map cv) l10 l11 (l12.map cc)) (!z && b):=by
  intro z
  cases z with
  | true=>exact Ev.step (f:=fun _=>some false) (fun k=>by simp only [pr23_Right.j1,if_true]) (Ev.now _)
  | false=>exact Ev.step (fun k=>by simp only [pr23_Right.j1,Bool.false_eq_true,if_false];rfl) g2
 have hz:series_zero.f r0 r1 r2 r3 l7 l8 l9=some (decide (r0=0∧r1=0∧r2=0∧r3=0∧l7.length=0∧l8.length=0∧l9.length=0)):=by
  unfold series_zero.f
  by_cases c0:r0=0
  ·rw [if_pos c0]
   by_cases c1:r1=0
   ·rw [if_pos c1]
    by_cases c2:r2=0
    ·rw [if_pos c2]
     by_cases c3:r3=0
     ·rw [if_pos c3]
      congr 1
      rw [Bool.eq_iff_iff]
      simp only [beq_iff_eq,decide_eq_true_eq]
      rw [wrapI (n:=(l7.length:Int) + (l8.length:Int)) (by omega) (by omega),wrapI (n:=(l7.length:Int) + (l8.length:Int) + (l9.length:Int)) (by omega) (by omega)]
      omega
     ·rw [if_neg c3,decide_eq_false (by omega)]
    ·rw [if_neg c2,decide_eq_false (by omega)]
   ·rw [if_neg c1,decide_eq_false (by omega)]
  ·rw [if_neg c0,decide_eq_false (by omega)]
 -- the document's first question
 have dq:∀ z:Bool,Ev (fun k=>pr23_Right.j0 k z s0 s1 s2 r0 r1 r2 r3 l7 l8 (l9.map cv) l10 l11 (l12.map cc)) (!z && ((s2 || decide (r0=0∧r1=0∧r2=0∧r3=0∧l7.length=0∧l8.length=0∧l9.length=0)) && b)):=by
  intro z
  cases z with
  | true=>exact Ev.step (f:=fun _=>some false) (fun k=>by simp only [pr23_Right.j0,if_true]) (Ev.now _)
  | false =>
   rw [Bool.not_false,Bool.true_and]
   by_cases c:s2=true
   ·rw [c,Bool.true_or,Bool.true_and]
    have h:=dj false
    rw [Bool.not_false,Bool.true_and] at h
    rw [c] at h
    refine Ev.step (fun k=>?_) h
    simp only [pr23_Right.j0,Bool.false_eq_true,if_false,if_true]
   ·rw [Bool.eq_false_iff.mpr c,Bool.false_or]
    have h:=dj (!decide (r0=0∧r1=0∧r2=0∧r3=0∧l7.length=0∧l8.length=0∧l9.length=0))
    rw [Bool.not_not,Bool.eq_false_iff.mpr c] at h
    refine Ev.step (fun k=>?_) h
    simp only [pr23_Right.j0,Bool.false_eq_true,if_false,hlen]
    by_cases c0:r0=0
    ·rw [if_pos c0]
     by_cases c1:r1=0
     ·rw [if_pos c1]
      by_cases c2:r2=0
      ·rw [if_pos c2]
       by_cases c3:r3=0
       ·rw [if_pos c3]
        by_cases c4:(l7.length:Int)=0
        ·rw [if_pos c4]
         by_cases c5:(l8.length:Int)=0
         ·rw [if_pos c5]
          congr 1
          rw [Bool.eq_iff_iff]
          simp only [bne_iff_ne,ne_eq,Bool.not_eq_true',decide_eq_false_iff_not]
          omega
         ·rw [if_neg c5,decide_eq_false (by omega)];rfl
        ·rw [if_neg c4,decide_eq_false (by omega)];rfl
       ·rw [if_neg c3,decide_eq_false (by omega)];rfl
      ·rw [if_neg c2,decide_eq_false (by omega)];rfl
     ·rw [if_neg c1,decide_eq_false (by omega)];rfl
    ·rw [if_neg c0,decide_eq_false (by omega)];rfl
 have hbig:l12.length > 256→b=false:=fun h=>Bool.eq_false_iff.mpr (fun hb=>by have:=g3 hb;omega)
 unfold series_Right.f pr23_Right.f
 by_cases cs:s2=true
 ·simp only [if_pos cs]
  have hd:Ev (fun k=>(pr21_Right.f k r0 r1 r2 r3 l7 l8 (l9.map cv)).bind fun t350=>pr23_Right.j0 k (!t350) s0 s1 s2 r0 r1 r2 r3 l7 l8 (l9.map cv) l10 l11 (l12.map cc)) (q && b):=by
   refine Ev.bind q2 ?_
   have:=dq (!q)
   rw [Bool.not_not,cs,Bool.true_or,Bool.true_and] at this
   rw [cs]
   exact this
  by_cases c:(l12.length:Int) > 256
  ·simp only [if_pos c]
   have:=pj true
   rw [hbig (by omega),Bool.and_false] at hd
   exact both_ev this hd
  ·simp only [if_neg c]
   refine both_ev (Ev.bind q1 ?_) hd
   cases q with
   | true=>exact pj false
   | false=>exact pj true
 ·simp only [if_neg cs]
  have hd:=dq false
  rw [Bool.not_false,Bool.true_and,Bool.eq_false_iff.mpr cs,Bool.false_or] at hd
  by_cases c:(l12.length:Int) > 256
  ·simp only [if_pos c]
   have:=pj true
   rw [hbig (by omega),Bool.and_false] at hd
   rw [Bool.eq_false_iff.mpr cs] at this ⊢
   exact both_ev this hd
  ·simp only [if_neg c,hz,Option.bind_some]
   have:=pj (!decide (r0=0∧r1=0∧r2=0∧r3=0∧l7.length=0∧l8.length=0∧l9.length=0))
   rw [Bool.not_not] at this
   rw [Bool.eq_false_iff.mpr cs] at this ⊢
   exact both_ev this hd
end
end Go.Proofs.YtkgkblmeafhkfaaGreat.Ser

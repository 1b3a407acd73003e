/- Whether a day matches a rule comes to an end; so do a rule's days and times. -/
import Derived.Test.YtkgkblmeafhkfaaGreatBase
import Derived.Test.YtkgkblmeafhkfaaGreatPHx10
set_option linter.unusedVariables false
namespace Go.Proofs.YtkgkblmeafhkfaaGreat.Match
open Go.RowKit Go.Proofs.YtkgkblmeafhkfaaGreatW.PrintWords Go.Proofs.YtkgkblmeafhkfaaGreatW.PrintLast Go.Proofs.YtkgkblmeafhkfaaGreatW.PrintMore Go.Proofs.YtkgkblmeafhkfaaGreat.PH Go.Proofs.YtkgkblmeafhkfaaGreat.Cal Go.Proofs.YtkgkblmeafhkfaaGreat.Base
theorem index_loop (l:List Int) (x:Int) (hn:l.length≤9223372036854775807):∀ (suf:List Int) (i:Nat),l.drop i=suf→Fin (fun k=>slices_Index_int_int.l0 k l x (l.length:Int) (i:Int)) (fun _=>True):=by
 intro suf
 induction suf with
 | nil =>
  intro i hd
  have:=drop_nil hd
  refine fin_step (f:=fun _=>some (-1)) (fun k=>?_) (fin_now trivial)
  simp only [slices_Index_int_int.l0]
  rw [if_neg (by omega)]
 | cons o suf ih =>
  intro i hd
  obtain ⟨hi,ho,hd'⟩:=get_drop (d:=(0:Int)) hd
  have hw:=wrapS hi hn
  have ho':rd l (i:Int)=o:=ho
  refine fin_step (f:=fun k=>if x=o then some (i:Int) else slices_Index_int_int.l0 k l x (l.length:Int) ((i + 1:Nat):Int)) (fun k=>?_) (fin_ite (fun _=>fin_now trivial) (fun _=>ih (i + 1) hd'))
  simp only [slices_Index_int_int.l0]
  rw [if_pos (by omega),if_pos (by omega),if_pos (by omega),ho',hw]
theorem contains_fin (l:List Int) (x:Int) (hn:l.length≤9223372036854775807):Fin (fun k=>slices_Contains_int_int.f k l x) (fun _=>True) :=
 fin_bind (index_loop l x hn l 0 rfl) (fun _ _=>fin_now trivial)
theorem wd_loop (l:List S91) (a b:Int) (hn:l.length≤9223372036854775807):∀ (suf:List S91) (i:Nat),l.drop i=suf→Fin (fun k=>recur_Weekday_123.l0 k l (l.length:Int) (i:Int) a b) (fun _=>True):=by
 intro suf
 induction suf with
 | nil =>
  intro i hd
  have:=drop_nil hd
  refine fin_step (f:=fun _=>some (-1)) (fun k=>?_) (fin_now trivial)
  simp only [recur_Weekday_123.l0]
  rw [if_neg (by omega)]
 | cons o suf ih =>
  intro i hd
  obtain ⟨hi,ho,hd'⟩:=get_drop (d:=z91) hd
  have hw:=wrapS hi hn
  have ho':rd_T91 l (i:Int)=o:=ho
  refine fin_step (f:=fun k=>if (a == o.f0 && b == o.f1)=true then some (i:Int) else recur_Weekday_123.l0 k l (l.length:Int) ((i + 1:Nat):Int) a b) (fun k=>?_) (fin_ite (fun _=>fin_now trivial) (fun _=>ih (i + 1) hd'))
  simp only [recur_Weekday_123.l0]
  rw [if_pos (by omega),if_pos (by omega),if_pos (by omega),ho',hw]
theorem on_fin (r0 r1 r2 r3:Int) (l7 l8:List Int) (l9:List S91) (a:Int) (hn:l9.length≤9223372036854775807):Fin (fun k=>recur_Rule_on.f k r0 r1 r2 r3 l7 l8 l9 a) (fun _=>True):=by
 unfold recur_Rule_on.f recur_Weekday_117.f recur_Weekday_123.f
 exact fin_ite (fun _=>fin_now trivial) (fun _=>fin_bind (fin_bind (wd_loop l9 a 0 hn l9 0 rfl) (fun _ _=>fin_now (p:=fun _=>True) trivial)) (fun _ _=>fin_now trivial))
theorem may_fin (r0 r1 r2 r3:Int) (l7 l8:List Int) (l9:List S91) (y m d wd first:Int) (h8:l8.length≤9223372036854775807) (h9:l9.length < 4611686018427387904) (hy0:1970≤y) (hy1:y≤9999) (hm0:1≤m) (hm1:m≤12) :
  Fin (fun k=>recur_Rule_may.f k r0 r1 r2 r3 l7 l8 l9 y m d wd first) (fun _=>True):=by
 unfold recur_Rule_may.f recur_Rule_may.g
 refine fin_bind (fin_ev (length_ev y m hy0 hy1 hm0 hm1) (p:=fun _=>True) trivial) (fun n _=>fin_ite (fun _=>fin_now trivial) (fun _=>fin_bind (p:=fun _=>True) ?_ (fun ok _=>fin_ite (fun _=>fin_ite (fun _=>fin_now trivial) (fun _=>?_)) (fun _=>fin_now trivial))))
 ·exact fin_ite (fun _=>fin_now trivial) (fun _=>fin_bind (contains_fin l8 d h8) (fun t _=>fin_ite (fun _=>fin_now trivial) (fun _=>contains_fin l8 _ h8)))
 ·rw [show (fun n':Nat=>if l9.length < 4611686018427387904 then some (l9.any (recur_Rule_may.fitsB wd (wrap64 ((wrap64 (d + 6)).tdiv 7)) (wrap64 (-wrap64 (wrap64 ((wrap64 (n - d)).tdiv 7) + 1))))) else none)=fun _=>some (l9.any (recur_Rule_may.fitsB wd (wrap64 ((wrap64 (d + 6)).tdiv 7)) (wrap64 (-wrap64 (wrap64 ((wrap64 (n - d)).tdiv 7) + 1))))) from by funext _;rw [if_pos h9]]
  exact fin_now trivial
theorem match_fin (r0 r1 r2 r3:Int) (l7 l8:List Int) (l9:List S91) (a b:Int) (h7:l7.length≤9223372036854775807) (h8:l8.length≤9223372036854775807) (h9:l9.length < 4611686018427387904) (hr:1≤r1)
  (ha:0≤a∧a≤2932896) (hb:0≤b∧b≤2932896):Fin (fun k=>recur_match.f k r0 r1 r2 r3 l7 l8 l9 a b) (fun _=>True):=by
 obtain ⟨y0,m0,d0,hI0,hE0⟩:=civil_ev a ha.1 ha.2
 obtain ⟨y,m,d,hI,hE⟩:=civil_ev b hb.1 hb.2
 have hmy:=fun first wd=>may_fin r0 r1 r2 r3 l7 l8 l9 y ((m + 1:Nat):Int) d wd first h8 h9 hI.y0 hI.y1 (by omega) (by have:=hI.m1;omega)
 have hon:=fun wd=>on_fin r0 r1 r2 r3 l7 l8 l9 wd (by omega)
 have j:∀ (z:Bool) (wd w0:Int),Fin (fun k=>recur_match.j0 k a b y0 ((m0 + 1:Nat):Int) d0 y ((m + 1:Nat):Int) d wd w0 r1 z r0 r1 r2 r3 l7 l8 l9) (fun _=>True):=by
  intro z wd w0
  refine fin_step (fun k=>by simp only [recur_match.j0,if_neg (show ¬r1=0 by omega)];rfl) ?_
  refine fin_ite (fun _=>fin_now trivial) (fun _=>?_)
  refine fin_ite (fun _=>fin_ite (fun _=>fin_bind (hon _) (fun _ _=>fin_now trivial)) (fun _=>fin_now trivial)) (fun _=>?_)
  refine fin_ite (fun _=>fin_ite (fun _=>fin_ite (fun _=>fin_bind (hon _) (fun _ _=>fin_ite (fun _=>fin_now trivial) (fun _=>fin_ite (fun _=>fin_now trivial) (fun _=>fin_now trivial)))) (fun _=>fin_ite (fun _=>fin_now trivial) (fun _=>fin_now trivial))) (fun _=>fin_now trivial)) (fun _=>?_)
  refine fin_ite (fun _=>fin_ite (fun _=>fin_bind (hmy _ _) (fun _ _=>fin_now trivial)) (fun _=>fin_now trivial)) (fun _=>?_)
  exact fin_ite (fun _=>fin_ite (fun _=>fin_bind (hmy _ _) (fun _ _=>fin_now trivial)) (fun _=>fin_ite (fun _=>fin_bind (hmy _ _) (fun _ _=>fin_now trivial)) (fun _=>fin_now trivial))) (fun _=>fin_now trivial)
 unfold recur_match.f
 refine fin_bind (fin_ev hE0 (p:=fun x=>x=(y0,((m0 + 1:Nat):Int),d0,0)) rfl) (fun x hx=>?_)
 subst hx
 refine fin_bind (fin_ev hE (p:=fun x=>x=(y,((m + 1:Nat):Int),d,0)) rfl) (fun x hx=>?_)
 subst hx
 simp only [weekday_f ha.1 ha.2,weekday_f hb.1 hb.2,Option.bind_some]
 exact fin_ite (fun _=>j _ _ _) (fun _=>fin_ite (fun _=>fin_bind (contains_fin l7 _ h7) (fun _ _=>j _ _ _)) (fun _=>j _ _ _))
end Go.Proofs.YtkgkblmeafhkfaaGreat.Match

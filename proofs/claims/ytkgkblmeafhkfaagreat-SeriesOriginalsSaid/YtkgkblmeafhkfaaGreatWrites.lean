/- The document's writing of a rule comes to its end. -/
import Derived.Test.YtkgkblmeafhkfaaGreatRule
import Derived.Test.YtkgkblmeafhkfaaGreatPGx29
set_option linter.unusedVariables false
namespace Go.Proofs.YtkgkblmeafhkfaaGreat.Writes
open Go.RowKit Go.Proofs.YtkgkblmeafhkfaaGreatW.PrintWords Go.Proofs.YtkgkblmeafhkfaaGreatW.PrintLast Go.Proofs.YtkgkblmeafhkfaaGreatW.PrintMore Go.Proofs.YtkgkblmeafhkfaaGreat.PG Go.Proofs.YtkgkblmeafhkfaaGreat.Cal Go.Proofs.YtkgkblmeafhkfaaGreat.Base Go.Proofs.YtkgkblmeafhkfaaGreat.Match Go.Proofs.YtkgkblmeafhkfaaGreat.Agree Go.Proofs.YtkgkblmeafhkfaaGreat.Rule
theorem app (a b:ByteArray):(a ++ b).size=a.size + b.size:=ByteArray.size_append ..
theorem lit (a:Array UInt8):(⟨a⟩:ByteArray).size=a.size:=rfl
theorem apl (s:ByteArray) (a:Array UInt8):(s ++ (⟨a⟩:ByteArray)).size=s.size + a.size:=ByteArray.size_append ..
theorem e0:(⟨#[]⟩:ByteArray).size=0:=rfl
theorem fin_if {α:Type} {c:Prop} [Decidable c] {f g:Nat→Option α} {q:α→Prop} (h:c) (k:Fin f q):Fin (fun n=>if c then f n else g n) q:=fin_ite (fun _=>k) (fun n=>absurd h n)
theorem d12_loop (w:Int) (hw:w≤100):∀ (n:Nat) (x0 x6:Int) (x5:ByteArray),w - x6=n→0≤x6→x5.size + n≤1000→Fin (fun k=>pr12_Digits.l0 k x0 w x5 x6) (fun r=>r.size≤x5.size + n):=by
 intro n
 induction n with
 | zero =>
  intro x0 x6 x5 h h0 hs
  refine fin_step (f:=fun _=>some x5) (fun k=>?_) (fin_now (by omega))
  simp only [pr12_Digits.l0]
  rw [if_neg (by omega)]
 | succ n ih =>
  intro x0 x6 x5 h h0 hs
  refine fin_step (fun k=>by simp only [pr12_Digits.l0];rw [if_pos (show x6 < w by omega)]) ?_
  refine fin_some ?_
  have e1:(strOfNums [wrap64 (48 + Int.tmod x0 10) % 256]).size=1:=rfl
  have e2:(strOfNums [wrap64 (48 + Int.tmod x0 10) % 256] ++ x5).size=1 + x5.size:=by rw [app,e1]
  refine fin_if (by rw [e1];omega) ?_
  have e3:wrap64 (x6 + 1)=x6 + 1:=by unfold wrap64;omega
  rw [e3]
  exact fin_mono (ih (wrap64 (Int.tdiv x0 10)) (x6 + 1) _ (by omega) (by omega) (by rw [e2];omega)) (fun r h=>by rw [e2] at h;omega)
theorem d12 (x w:Int) (h0:0≤w) (h:w≤100):Fin (fun k=>pr12_Digits.f k x w) (fun r=>r.size≤100):=by
 unfold pr12_Digits.f
 exact fin_mono (d12_loop w h w.toNat x 0 _ (by omega) (by omega) (by rw [e0];omega)) (fun r h=>by rw [e0] at h;omega)
theorem dig_pos:∀ (m:Nat) (a:Int),0≤a→a < 10 ^ (m + 1)→a≤9223372036854775807→m≤30→Fin (fun k=>pr21_Digits.f k a) (fun r=>r.size≤100 * (m + 1)):=by
 intro m
 induction m with
 | zero =>
  intro a h0 h hm hk
  refine fin_step (fun k=>by simp only [pr21_Digits.f];rw [if_neg (show ¬a < 0 by omega),if_pos (show a < 10 by simpa using h)]) ?_
  exact fin_bind (d12 a 1 (by omega) (by omega)) (fun r hr=>fin_now (by omega))
 | succ m ih =>
  intro a h0 h hm hk
  by_cases c:a < 10
  ·refine fin_step (fun k=>by simp only [pr21_Digits.f];rw [if_neg (show ¬a < 0 by omega),if_pos c]) ?_
   exact fin_bind (d12 a 1 (by omega) (by omega)) (fun r hr=>fin_now (by omega))
  ·refine fin_step (fun k=>by simp only [pr21_Digits.f];rw [if_neg (show ¬a < 0 by omega),if_neg c]) ?_
   have e:Int.tdiv a 10=a / 10:=Int.tdiv_eq_ediv_of_nonneg h0
   have hp:(10:Int) ^ (m + 1 + 1)=10 ^ (m + 1) * 10:=by rw [Int.pow_succ]
   have e2:wrap64 (Int.tdiv a 10)=a / 10:=by rw [e];unfold wrap64;omega
   rw [e2]
   refine fin_bind (ih (a / 10) (by omega) (by rw [hp] at h;omega) (by omega) (by omega)) (fun r hr=>?_)
   refine fin_bind (d12 (Int.tmod a 10) 1 (by omega) (by omega)) (fun s hs=>?_)
   exact fin_if (by omega) (fin_now (by rw [app];omega))
theorem dig (a:Int) (h0 : -9223372036854775807≤a) (h1:a≤9223372036854775807):Fin (fun k=>pr21_Digits.f k a) (fun r=>r.size≤2100):=by
 have pos:∀ b:Int,0≤b→b≤9223372036854775807→Fin (fun k=>pr21_Digits.f k b) (fun r=>r.size≤2000):=fun b hb hb'=>dig_pos 19 b hb (by omega) hb' (by omega)
 by_cases c:a < 0
 ·refine fin_step (fun k=>by simp only [pr21_Digits.f];rw [if_pos c]) ?_
  have e:wrap64 (-a) = -a:=by unfold wrap64;omega
  rw [e]
  refine fin_bind (pos (-a) (by omega) (by omega)) (fun r hr=>?_)
  exact fin_if (by omega) (fin_now (by rw [app,lit];simp;omega))
 ·exact fin_mono (pos a (by omega) h1) (fun r h=>by omega)
theorem join_loop (l:List Int) (hn:l.length≤100) (hl:∀ x,x∈l→-100≤x∧x≤100):∀ (suf:List Int) (i:Nat) (s:ByteArray),l.drop i=suf→i≤l.length→s.size≤3000 * i→Fin (fun k=>pr21_join.l0 k l s (i:Int)) (fun r=>r.size≤300000):=by
 intro suf
 induction suf with
 | nil =>
  intro i s hd hle hs
  have hi:=drop_nil hd
  refine fin_step (f:=fun _=>some s) (fun k=>?_) (fin_now (by omega))
  simp only [pr21_join.l0]
  rw [if_neg (by omega)]
 | cons o suf ih =>
  intro i s hd hle hs
  obtain ⟨hi,hg,hd'⟩:=get_drop (d:=0) hd
  have ho:o∈l:=by
   have:o∈l.drop i:=by rw [hd];exact List.mem_cons_self ..
   exact List.mem_of_mem_drop this
  have hr:rd l (i:Int)=o:=hg
  have hb:=hl o ho
  have w1:=wrapS hi (by omega)
  by_cases c:(i:Int) > 0
  ·refine fin_step (fun k=>by simp only [pr21_join.l0];rw [if_pos (show (i:Int) < (l.length:Int) by omega),if_pos c,if_pos (show s.size + 1≤9223372036854775807 by omega),if_pos (show (0:Int)≤(i:Int) by omega),hr,w1]) ?_
   refine fin_bind (dig o (by omega) (by omega)) (fun r hr=>?_)
   have e:(s ++ (⟨#[44]⟩:ByteArray)).size=s.size + 1:=by rw [app,lit];rfl
   exact fin_if (by rw [e];omega) (ih (i + 1) _ hd' (by omega) (by rw [app,e];omega))
  ·refine fin_step (fun k=>by simp only [pr21_join.l0];rw [if_pos (show (i:Int) < (l.length:Int) by omega),if_neg c,if_pos (show (0:Int)≤(i:Int) by omega),hr,w1]) ?_
   refine fin_bind (dig o (by omega) (by omega)) (fun r hr=>?_)
   exact fin_if (by omega) (ih (i + 1) _ hd' (by omega) (by rw [app];omega))
theorem join (l:List Int) (hn:l.length≤100) (hl:∀ x,x∈l→-100≤x∧x≤100):Fin (fun k=>pr21_join.f k l) (fun r=>r.size≤300000):=by
 unfold pr21_join.f
 exact join_loop l hn hl l 0 _ rfl (by omega) (by rw [e0];omega)
theorem print12 (t:Int):Fin (fun k=>pr12_Print.f k t) (fun r=>r.1.size≤1000):=by
 unfold pr12_Print.f
 simp only [time12,Option.bind_some]
 by_cases c:0≤t∧t≤253402300799
 ·simp only [decide_eq_true c,if_true]
  have e:wrap64 (Int.tdiv t 86400)=t / 86400:=by rw [Int.tdiv_eq_ediv_of_nonneg c.1];unfold wrap64;omega
  simp only [e]
  obtain ⟨y,m,dd,hi,_⟩:=civil_ev (t / 86400) (by omega) (by omega)
  refine fin_bind (fin_ev (civil12 hi (by omega) (by omega)) (p:=fun r=>True) trivial) (fun r _=>?_)
  refine fin_bind (d12 _ 4 (by omega) (by omega)) (fun a ha=>fin_bind (d12 _ 2 (by omega) (by omega)) (fun b hb=>fin_if (by omega) ?_))
  refine fin_bind (d12 _ 2 (by omega) (by omega)) (fun d hd=>fin_if (by rw [app];omega) (fin_if (by rw [app,app];omega) ?_))
  have e1:∀ s:ByteArray,(s ++ (⟨#[84]⟩:ByteArray)).size=s.size + 1:=fun s=>by rw [app,lit];rfl
  have e2:∀ s:ByteArray,(s ++ (⟨#[90]⟩:ByteArray)).size=s.size + 1:=fun s=>by rw [app,lit];rfl
  refine fin_bind (d12 _ 2 (by omega) (by omega)) (fun f hf=>fin_if (by rw [e1,app,app];omega) ?_)
  refine fin_bind (d12 _ 2 (by omega) (by omega)) (fun g hg=>fin_if (by rw [app,e1,app,app];omega) ?_)
  refine fin_bind (d12 _ 2 (by omega) (by omega)) (fun h hh=>fin_if (by rw [app,app,e1,app,app];omega) (fin_if (by rw [app,app,app,e1,app,app];omega) (fin_now ?_)))
  show ByteArray.size _≤1000
  rw [e2,app,app,app,e1,app,app]
  omega
 ·simp only [decide_eq_false c,Bool.false_eq_true,if_false]
  exact fin_now (by rw [e0];omega)
theorem sign21 (d:Int) (h0:0≤d) (h1:d≤6):∃ s,pr21_Sign.f d=some s∧s.size≤14:=by
 unfold pr21_Sign.f
 have e:wrap64 (2 * d)=2 * d:=by unfold wrap64;omega
 have e2:wrap64 (2 * d + 2)=2 * d + 2:=by unfold wrap64;omega
 rw [e,e2,if_pos (by omega),if_pos (by omega),if_pos (by omega)]
 exact ⟨_,rfl,by rw [ByteArray.size_extract,lit];simp;omega⟩
theorem freq21 (f:Int):∃ s,pr21_Freq.f f=some s∧s.size≤10:=by
 unfold pr21_Freq.f
 split
 ·exact ⟨_,rfl,by rw [lit];simp⟩
 split
 ·exact ⟨_,rfl,by rw [lit];simp⟩
 split <;> exact ⟨_,rfl,by rw [lit];simp⟩
section
variable (r0 r1 r2 r3:Int) (l7 l8:List Int) (l9:List S91)
theorem days_of (h7:l7.length≤9223372036854775807) (h8:l8.length≤9223372036854775807) (h:Ev (fun k=>recur_Right.f k r0 r1 r2 r3 l7 l8 l9) true):∀ x,x∈l8→-31≤x∧x≤31:=by
 obtain ⟨a,a1,a2⟩:=rises_fin l7 1 12 h7
 obtain ⟨b,b1,b2⟩:=rises_fin l8 (-31) 31 h8
 cases b with
 | true=>exact b2 rfl
 | false =>
  exfalso
  obtain ⟨K0,hK⟩:=h
  obtain ⟨K1,h1⟩:=a1
  obtain ⟨K2,h2⟩:=b1
  have h1:=h1 (K0 + K1 + K2 + 1) (by omega)
  have h2:=h2 (K0 + K1 + K2 + 1) (by omega)
  have hK:=hK (K0 + K1 + K2 + 3) (by omega)
  generalize K0 + K1 + K2=K at h1 h2 hK
  have j2:∀ x,recur_Right.j2 (K + 1) x true r0 r1 r2 r3 l7 l8 l9=some false:=fun x=>by simp only [recur_Right.j2];rfl
  have j1:∀ x y,recur_Right.j1 (K + 2) x y r0 r1 r2 r3 l7 l8 l9=some false:=by
   intro x y
   simp only [recur_Right.j1,h1,h2,j2,when_f,Option.bind_some,Bool.false_eq_true,if_false,ite_self]
  have j0:∀ x,recur_Right.j0 (K + 3) x r0 r1 r2 r3 l7 l8 l9=some false:=by
   intro x
   simp only [recur_Right.j0,j1,ite_self]
  unfold recur_Right.f at hK
  simp only [j0,ite_self] at hK
  cases hK
theorem wk_loop (m:List S92) (hn:m.length≤100) (hm:∀ x,x∈m→0≤x.f0∧x.f0≤6∧-5≤x.f1∧x.f1≤5):∀ (suf:List S92) (i:Nat) (s:ByteArray),m.drop i=suf→i≤m.length→s.size≤900000 + 3000 * i→Fin (fun k=>pr21_Write.l0 k s (i:Int) r0 r1 r2 r3 l7 l8 m) (fun r=>True):=by
 intro suf
 induction suf with
 | nil =>
  intro i s hd hle hs
  have hi:=drop_nil hd
  refine fin_step (f:=fun _=>some (s,0)) (fun k=>?_) (fin_now trivial)
  simp only [pr21_Write.l0]
  rw [if_neg (by omega)]
 | cons o suf ih =>
  intro i s hd hle hs
  obtain ⟨hi,hg,hd'⟩:=get_drop (d:=(⟨0,0⟩:S92)) hd
  have ho:o∈m:=by
   have:o∈m.drop i:=by rw [hd];exact List.mem_cons_self ..
   exact List.mem_of_mem_drop this
  have hr:rd_T92 m (i:Int)=o:=hg
  obtain ⟨b1,b2,b3,b4⟩:=hm o ho
  have w1:=wrapS hi (by omega)
  obtain ⟨g,hg1,hg2⟩:=sign21 o.f0 b1 b2
  have j6:∀ s:ByteArray,s.size≤900000 + 3000 * i + 7→Fin (fun k=>pr21_Write.j6 k s (i:Int) r0 r1 r2 r3 l7 l8 m) (fun r=>True):=by
   intro s hs
   refine fin_step (fun k=>by simp only [pr21_Write.j6];rw [if_pos (show (0:Int)≤(i:Int) by omega),if_pos (show (i:Int) < (m.length:Int) by omega),hr,w1]) ?_
   refine fin_ite (fun _=>?_) (fun _=>?_)
   ·simp only [hg1,Option.bind_some]
    exact fin_if (by omega) (ih (i + 1) _ hd' (by omega) (by rw [app];omega))
   ·refine fin_bind (dig o.f1 (by omega) (by omega)) (fun d hd=>fin_if (by omega) ?_)
    simp only [hg1,Option.bind_some]
    exact fin_if (by rw [app];omega) (ih (i + 1) _ hd' (by omega) (by rw [app,app];omega))
  refine fin_step (fun k=>by simp only [pr21_Write.l0];rw [if_pos (show (i:Int) < (m.length:Int) by omega)]) ?_
  refine fin_ite (fun _=>fin_if (by omega) (j6 _ (by rw [apl];simp;omega))) (fun _=>fin_if (by omega) (j6 _ (by rw [apl];simp;omega)))
theorem writes (h7:l7.length≤100) (h8:l8.length≤100) (h9:l9.length≤100):Fin (fun k=>pr21_Write.f k r0 r1 r2 r3 l7 l8 (l9.map cv)) (fun _=>True):=by
 obtain ⟨b,b1,b2,hf⟩:=right_both r0 r1 r2 r3 l7 l8 l9 (by omega) (by omega) (by omega)
 unfold pr21_Write.f
 refine fin_bind (fin_ev b2 (p:=fun x=>x=b) rfl) (fun x hx=>?_)
 subst hx
 cases x with
 | false =>
  simp only [Bool.false_eq_true,if_false]
  exact fin_now trivial
 | true =>
  have fine:=hf rfl
  have hdays:=days_of r0 r1 r2 r3 l7 l8 l9 (by omega) (by omega) b1
  obtain ⟨x,x1,x2⟩:=rule_fin r0 r1 r2 r3 l7 l8 l9 (by omega) (by omega) (by omega)
  obtain rfl:=ev_one x1 b1
  obtain ⟨hmon,hday⟩:=x2 rfl
  have hs:=fine.step
  have hc:=fine.count
  simp only [if_true]
  have j4:∀ s:ByteArray,s.size≤800000→Fin (fun k=>pr21_Write.j4 k s r0 r1 r2 r3 l7 l8 (l9.map cv)) (fun _=>True):=fun s h =>
   fin_step (fun k=>by simp only [pr21_Write.j4];rfl) (wk_loop r0 r1 r2 r3 l7 l8 (l9.map cv) (by simpa using h9) (fun x hx=>by
    obtain ⟨y,hy,rfl⟩:=List.mem_map.mp hx
    exact hday y hy) _ 0 s rfl (by omega) (by omega))
  have l:=apl
  have j3:∀ s:ByteArray,s.size≤400000→Fin (fun k=>pr21_Write.j3 k s r0 r1 r2 r3 l7 l8 (l9.map cv)) (fun _=>True):=by
   intro s h
   refine fin_step (fun k=>by simp only [pr21_Write.j3];rfl) ?_
   refine fin_ite (fun _=>fin_if (by omega) (fin_bind (join l8 h8 (fun x hx=>by have:=hdays x hx;omega)) (fun t ht=>?_))) (fun _=>j4 _ (by omega))
   exact fin_if (by rw [l];simp;omega) (j4 _ (by rw [app,l];simp;omega))
  have j2:∀ s:ByteArray,s.size≤20000→Fin (fun k=>pr21_Write.j2 k s r0 r1 r2 r3 l7 l8 (l9.map cv)) (fun _=>True):=by
   intro s h
   refine fin_step (fun k=>by simp only [pr21_Write.j2];rfl) ?_
   refine fin_ite (fun _=>fin_if (by omega) (fin_bind (join l7 h7 (fun x hx=>by have:=hmon x hx;omega)) (fun t ht=>?_))) (fun _=>j3 _ (by omega))
   exact fin_if (by rw [l];simp;omega) (j3 _ (by rw [app,l];simp;omega))
  have j1:∀ s:ByteArray,s.size≤10000→Fin (fun k=>pr21_Write.j1 k s r0 r1 r2 r3 l7 l8 (l9.map cv)) (fun _=>True):=by
   intro s h
   refine fin_step (fun k=>by simp only [pr21_Write.j1];rfl) ?_
   refine fin_ite (fun _=>fin_bind (print12 r3) (fun t ht=>fin_if (by omega) ?_)) (fun _=>j2 _ (by omega))
   exact fin_if (by rw [l];simp;omega) (j2 _ (by rw [app,l];simp;omega))
  have j0:∀ s:ByteArray,s.size≤5000→Fin (fun k=>pr21_Write.j0 k s r0 r1 r2 r3 l7 l8 (l9.map cv)) (fun _=>True):=by
   intro s h
   refine fin_step (fun k=>by simp only [pr21_Write.j0];rfl) ?_
   refine fin_ite (fun _=>fin_if (by omega) (fin_bind (dig r2 (by omega) (by omega)) (fun t ht=>?_))) (fun _=>j1 _ (by omega))
   exact fin_if (by rw [l];simp;omega) (j1 _ (by rw [app,l];simp;omega))
  obtain ⟨f,hf1,hf2⟩:=freq21 r0
  simp only [hf1,Option.bind_some]
  have e0:((⟨#[70,82,69,81,61]⟩:ByteArray) ++ f).size=5 + f.size:=by rw [app,lit];rfl
  refine fin_if (by omega) (fin_ite (fun _=>fin_if (by rw [e0];omega) (fin_bind (dig r1 (by omega) (by omega)) (fun t ht=>?_))) (fun _=>j0 _ (by rw [e0];omega)))
  exact fin_if (by rw [l,e0];simp;omega) (j0 _ (by rw [app,l,e0];simp;omega))
end
end Go.Proofs.YtkgkblmeafhkfaaGreat.Writes

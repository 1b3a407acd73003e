-- Written by a program of the session (wip/tools).
import Derived.Test.YtkgkblmeafhkfaaGreatPGx0
import Derived.Test.YtkgkblmeafhkfaaGreatPGx17
import Derived.Test.YtkgkblmeafhkfaaGreatPGx22
namespace Go.Proofs.YtkgkblmeafhkfaaGreat.PG
open Go.RowKit Go.Proofs.YtkgkblmeafhkfaaGreatW.PrintWords Go.Proofs.YtkgkblmeafhkfaaGreatW.PrintLast Go.Proofs.YtkgkblmeafhkfaaGreatW.PrintMore
attribute [local go_sem] max2_int min2_int max_two min_two max_three min_three max_four min_four   -- for this text's walks alone
set_option linter.unusedVariables false
set_option linter.unusedSimpArgs false

def pr21_SameTimes.l0:Nat→List Int→List Int→Int→Option (Bool)
 | 0,_,_,_=>none
 | k + 1,x0,x1,x5=>if x5 < (x0.length:Int) then (if 0≤x5 then (if x5 < (x1.length:Int) then (if (rd x0 x5)=(rd x1 x5) then (pr21_SameTimes.l0 k x0 x1 (wrap64 (x5 + 1))) else (some false)) else (none)) else (none)) else (some true)
def pr21_SameTimes.f (k:Nat) (l0 l1:List Int):Option (Bool):=if (l0.length:Int)=(l1.length:Int) then (pr21_SameTimes.l0 k l0 l1 0) else (some false)
set_option maxHeartbeats 8000000 in
set_option maxRecDepth 100000 in
theorem pr21_SameTimes.calls (k:Nat) (A0:Option Addr) (c0:Nat) (l0:List Int) (A1:Option Addr) (c1:Nat) (l1:List Int) (r:Bool) (w:World) (hr0:Kd.C (Kd.int .i64) w A0 l0.length l0) (hc0:l0.length≤c0) (hr1:Kd.C (Kd.int .i64) w A1 l1.length l1) (hc1:l1.length≤c1) (h:pr21_SameTimes.f k l0 l1=some r) :
  Calls Tryz.prog 13 #[.slice A0 l0.length c0,.slice A1 l1.length c1] w fun e w'=>e = .returned (.bool r)∧Drawn0 w w':=by
 have HR0:=Aside0.mk hr0;have HC0:=Aside0.mk hc0;clear hr0 hc0;have HR1:=Aside0.mk hr1;have HC1:=Aside0.mk hc1;clear hr1 hc1;have H:(if (l0.length:Int)=(l1.length:Int) then (pr21_SameTimes.l0 k l0 l1 0) else (some false))=some r:=h;clear h
 replace H:=de_ H;rcases H with ⟨H,c3,c3b0,c3b1⟩|⟨H,c3,c3b0,c3b1⟩
 ·have c3b2:(l0.length == l1.length)=true:=by first | simpa using c3 | (simp at c3 ⊢;omega)
  clear c3;have H':=ad_ H;clear H
  go_enter Tryz.func13,Tryz.ntmps13
  go_wp2
  repeat (go_quiet (fail);try go_wp2)
  go_loopg [5] k (fun kq v5 w'=>∃ (x5_1:Int),v5 = .int .i64 x5_1∧Aside0 (pr21_SameTimes.l0 kq l0 l1 x5_1=some r)∧Aside0 (kq≤k)∧Drawn0 w w')
  case atStart=>exact ⟨(0),val_,H',⟨Nat.le_refl _⟩,by repeat (first | exact Drawn0.refl _ | apply Drawn0.step)⟩
  case round =>
   clear H';clear c3b0 c3b1;(try clear c1);(try clear c3b2);obtain ⟨x5_1,rfl,HA,HK1,⟨m1,rfl⟩⟩:=hrel
   cases gk with
   | zero=>exact absurd HA.out (by simp [pr21_SameTimes.l0])
   | succ k1 =>
    have H:=HA.out;clear HA
    simp only [pr21_SameTimes.l0] at H
    replace H:=dc_ H;rcases H with ⟨H,c4b0⟩|⟨H,c4b0⟩
    ·replace H:=ind_ H;obtain ⟨c5b0,H⟩:=H
     replace H:=ind_ H;obtain ⟨c6b0,H⟩:=H
     replace H:=de_ H;rcases H with ⟨H,-,c7b0,c7b1⟩|⟨H,c7,c7b0,c7b1⟩
     ·have H':=ad_ H;clear H;have p474:0≤(x5_1:Int):=dec_;have q474:x5_1 < (l0.length:Int):=dec_;obtain ⟨ad474,e474,hx474_0⟩:=Kd.at_int HR0.out x5_1 p474 q474
      cases e474
      replace p474:=eq_true p474;replace q474:=eq_true q474;have p475:0≤(x5_1:Int):=dec_;have q475:x5_1 < (l1.length:Int):=dec_;obtain ⟨ad475,e475,hx475_0⟩:=Kd.at_int HR1.out x5_1 p475 q475
      cases e475
      replace p475:=eq_true p475;replace q475:=eq_true q475
      go_wp2
      repeat (go_quiet (fail);try go_wp2)
      go_roundg k1
      case measure=>have:=HK1.out;omega
      case rel=>exact ⟨(wrap64 (x5_1 + 1)),val_,H',⟨by have:=HK1.out;omega⟩,by repeat (first | exact Drawn0.refl _ | apply Drawn0.step)⟩
     ·obtain rfl:=Option.some.inj H;have p474:0≤(x5_1:Int):=dec_;have q474:x5_1 < (l0.length:Int):=dec_;obtain ⟨ad474,e474,hx474_0⟩:=Kd.at_int HR0.out x5_1 p474 q474
      cases e474
      replace p474:=eq_true p474;replace q474:=eq_true q474;have p475:0≤(x5_1:Int):=dec_;have q475:x5_1 < (l1.length:Int):=dec_;obtain ⟨ad475,e475,hx475_0⟩:=Kd.at_int HR1.out x5_1 p475 q475
      cases e475
      replace p475:=eq_true p475;replace q475:=eq_true q475
      go_wp2
      repeat (go_quiet (fail);try go_wp2)
      go_ret
      exact ⟨val_,by repeat (first | exact Drawn0.refl _ | apply Drawn0.step)⟩
    ·obtain rfl:=Option.some.inj H
     go_wp2
     repeat (go_quiet (fail);try go_wp2)
     go_ret
     exact ⟨val_,by repeat (first | exact Drawn0.refl _ | apply Drawn0.step)⟩
 ·have c3b2:(l0.length == l1.length)=false:=by first | simpa using c3 | (simp at c3 ⊢;omega)
  obtain rfl:=Option.some.inj H
  go_enter Tryz.func13,Tryz.ntmps13
  go_wp2
  repeat (go_quiet (fail);try go_wp2)
  go_ret
  exact ⟨val_,by repeat (first | exact Drawn0.refl _ | apply Drawn0.step)⟩
def pr21_Freq.f (a0:Int):Option (ByteArray):=if a0=1 then (some (⟨#[68,65,73,76,89]⟩:ByteArray)) else (if a0=2 then (some (⟨#[87,69,69,75,76,89]⟩:ByteArray)) else (if a0=3 then (some (⟨#[77,79,78,84,72,76,89]⟩:ByteArray)) else (some (⟨#[89,69,65,82,76,89]⟩:ByteArray))))
set_option maxHeartbeats 8000000 in
set_option maxRecDepth 100000 in
theorem pr21_Freq.calls (a0:Int) (r:ByteArray) (w:World) (h:pr21_Freq.f a0=some r) :
  Calls Tryz.prog 69 #[.int .i64 a0] w fun e w'=>e = .returned (.string r)∧Drawn0 w w':=by
 have H:(if a0=1 then (some (⟨#[68,65,73,76,89]⟩:ByteArray)) else (if a0=2 then (some (⟨#[87,69,69,75,76,89]⟩:ByteArray)) else (if a0=3 then (some (⟨#[77,79,78,84,72,76,89]⟩:ByteArray)) else (some (⟨#[89,69,65,82,76,89]⟩:ByteArray)))))=some r:=h;clear h
 replace H:=de_ H;rcases H with ⟨H,-,c2b0,c2b1⟩|⟨H,c2,c2b0,c2b1⟩
 ·obtain rfl:=Option.some.inj H
  go_enter Tryz.func69,Tryz.ntmps69
  go_wp2
  go_ret
  exact ⟨val_,by repeat (first | exact Drawn0.refl _ | apply Drawn0.step)⟩
 ·replace H:=de_ H;rcases H with ⟨H,-,c3b0,c3b1⟩|⟨H,c3,c3b0,c3b1⟩
  ·obtain rfl:=Option.some.inj H
   go_enter Tryz.func69,Tryz.ntmps69
   go_wp2
   go_ret
   exact ⟨val_,by repeat (first | exact Drawn0.refl _ | apply Drawn0.step)⟩
  ·replace H:=de_ H;rcases H with ⟨H,-,c4b0,c4b1⟩|⟨H,c4,c4b0,c4b1⟩
   ·obtain rfl:=Option.some.inj H
    go_enter Tryz.func69,Tryz.ntmps69
    go_wp2
    go_ret
    exact ⟨val_,by repeat (first | exact Drawn0.refl _ | apply Drawn0.step)⟩
   ·obtain rfl:=Option.some.inj H
    go_enter Tryz.func69,Tryz.ntmps69
    go_wp2
    go_ret
    exact ⟨val_,by repeat (first | exact Drawn0.refl _ | apply Drawn0.step)⟩
def pr12_Digits.l0:Nat→Int→Int→ByteArray→Int→Option (ByteArray)
 | 0,_,_,_,_=>none
 | k + 1,x0,x1,x5,x6=>if x6 < x1 then ((some (([(wrap64 (48 + (Int.tmod x0 10))) % 256]:List Int):List Int)).bind fun y476=>(if (strOfNums y476).size + x5.size≤9223372036854775807 then (pr12_Digits.l0 k (wrap64 (Int.tdiv x0 10)) x1 ((strOfNums y476) ++ x5) (wrap64 (x6 + 1))) else (none))) else (some x5)
def pr12_Digits.f (k:Nat) (a0 a1:Int):Option (ByteArray):=pr12_Digits.l0 k a0 a1 (⟨#[]⟩:ByteArray) 0
set_option maxHeartbeats 8000000 in
set_option maxRecDepth 100000 in
theorem pr12_Digits.calls (k:Nat) (a0 a1:Int) (r:ByteArray) (w:World) (h:pr12_Digits.f k a0 a1=some r) :
  Calls Tryz.prog 98 #[.int .i64 a0,.int .i64 a1] w fun e w'=>e = .returned (.string r)∧Below w.heap.size w w':=by
 have HB:=ad_ (Below.refl w.heap.size w);have H:(pr12_Digits.l0 k a0 a1 (⟨#[]⟩:ByteArray) 0)=some r:=h;clear h;have H':=ad_ H;clear H
 go_enter Tryz.func98,Tryz.ntmps98
 go_wp2
 go_loopg [0,5,6] k (fun kq v0 v5 v6 w'=>∃ (x0_1:Int) (x5_1:ByteArray) (x6_1:Int),v0 = .int .i64 x0_1∧v5 = .string x5_1∧v6 = .int .i64 x6_1∧Aside0 (pr12_Digits.l0 kq x0_1 a1 x5_1 x6_1=some r)∧Aside0 (kq≤k)∧Aside0 (Below w.heap.size w w'))
 case atStart=>exact ⟨(a0),((⟨#[]⟩:ByteArray)),(0),val_,val_,val_,H',⟨Nat.le_refl _⟩,⟨bel_⟩⟩
 case round =>
  clear H';obtain ⟨x0_1,x5_1,x6_1,rfl,rfl,rfl,HA,HK1,HB⟩:=hrel
  cases gk with
  | zero=>exact absurd HA.out (by simp [pr12_Digits.l0])
  | succ k1 =>
   have H:=HA.out;clear HA
   simp only [pr12_Digits.l0] at H
   replace H:=dc_ H;rcases H with ⟨H,c3b0⟩|⟨H,c3b0⟩
   ·obtain ⟨y476,hy476⟩:∃ y_:List Int,y_=(([(wrap64 (48 + (Int.tmod x0_1 10))) % 256]:List Int)):=⟨_,rfl⟩
    replace H:(if (strOfNums y476).size + x5_1.size≤9223372036854775807 then (pr12_Digits.l0 k1 (wrap64 (Int.tdiv x0_1 10)) a1 ((strOfNums y476) ++ x5_1) (wrap64 (x6_1 + 1))) else (none))=some r:=by first | (rw [hy476];with_reducible exact H) | (have H2_:=(Option.bind_some _ _).symm.trans H;rw [hy476];with_reducible exact H2_) | (have H2_:=(Option.bind_some _ _).symm.trans H;with_reducible exact H2_) | with_reducible exact H | (rw [hy476];exact H) | exact H
    have Ny476:=Aside0.mk hy476;clear hy476
    replace H:=in_ H;obtain ⟨c4,H⟩:=H;have c4b0:=eq_true c4;have c4b1:decide ((strOfNums y476).size + x5_1.size≤9223372036854775807)=true:=decide_eq_true c4
    try have c4b2:(9223372036854775807 < (strOfNums y476).size + x5_1.size)=False:=eq_false (Nat.not_lt.2 c4)
    have H':=ad_ H;clear H
    go_wp2_with (first | ((with_reducible refine gate_dst (N:=16) rfl ?_);refine Kd.R_lit (Kd.int .u8) _ 5 ?hg (N:=16) ?hd (xs:=([(wrap64 (48 + (Int.tmod x0_1 10))) % 256]:List Int)) (inner:=[.int .u8 ((wrap64 (48 + (Int.tmod x0_1 10))) % 256)]) (ok:=fun _=>True) (okp:=fun _=>True) ?hr ?hp (fun _ hk=>hk) trivial (Below.refl _ _) (Nat.le_refl _) (by simp) ?_;(case hd=>rfl);(case hg=>rfl);(case hr=>first | (go_simp;done) | (go_simp;rfl));(case hp=>exact (Reps.one (show Kd.M (Kd.int .u8) _ _ _ ((wrap64 (48 + (Int.tmod x0_1 10))) % 256) [.int .u8 ((wrap64 (48 + (Int.tmod x0_1 10))) % 256)] from rfl) (Reps.none _ _)));intro v477 w5 ho6 hb hg_ hnew_;clear hg_ hnew_;(first | rw [← Ny476.out] at ho6 | (simp only [Int.reduceToNat] at ho6;rw [← Ny476.out] at ho6));have HO478:=ad_ (Kd.R_lower ho6 (below_size bel_));replace HB:=hbb_ hb;clear hb ho6;have hcv7:=own_string (P:=Tryz.prog) Tryz.underlying157 Tryz.underlying5 Tryz.underlying9 (Kd.own_of_R HO478.out)))
    go_roundg k1
    case measure=>have:=HK1.out;omega
    case rel=>exact ⟨(wrap64 (Int.tdiv x0_1 10)),((strOfNums y476) ++ x5_1),(wrap64 (x6_1 + 1)),val_,val_,val_,H',⟨by have:=HK1.out;omega⟩,⟨bel_⟩⟩
   ·obtain rfl:=Option.some.inj H
    go_wp2
    go_ret
    exact ⟨ret_,bel_⟩
def pr21_Digits.f:Nat→Int→Option (ByteArray)
 | 0,_=>none
 | k + 1,a0=>if a0 < 0 then ((pr21_Digits.f k (wrap64 (-a0))).bind fun t479=>(if 1 + t479.size≤9223372036854775807 then (some ((⟨#[45]⟩:ByteArray) ++ t479)) else (none))) else (if a0 < 10 then ((pr12_Digits.f k a0 1).bind fun t480=>(some t480)) else ((pr21_Digits.f k (wrap64 (Int.tdiv a0 10))).bind fun t481=>((pr12_Digits.f k (Int.tmod a0 10) 1).bind fun t482=>(if t481.size + t482.size≤9223372036854775807 then (some (t481 ++ t482)) else (none)))))
set_option maxHeartbeats 8000000 in
set_option maxRecDepth 100000 in
theorem pr21_Digits.calls (k:Nat):∀ (a0:Int) (r:ByteArray) (w:World) (h:pr21_Digits.f k a0=some r),
  Calls Tryz.prog 70 #[.int .i64 a0] w fun e w'=>e = .returned (.string r)∧Below w.heap.size w w':=by
 induction k using Nat.strongRecOn with
 | _ k ih =>
 intro a0 r w h
 cases k with
 | zero=>exact absurd h (by simp [pr21_Digits.f])
 | succ k =>
 simp only [pr21_Digits.f] at h
 have HB:=ad_ (Below.refl w.heap.size w);have H:(if a0 < 0 then ((pr21_Digits.f k (wrap64 (-a0))).bind fun t479=>(if 1 + t479.size≤9223372036854775807 then (some ((⟨#[45]⟩:ByteArray) ++ t479)) else (none))) else (if a0 < 10 then ((pr12_Digits.f k a0 1).bind fun t480=>(some t480)) else ((pr21_Digits.f k (wrap64 (Int.tdiv a0 10))).bind fun t481=>((pr12_Digits.f k (Int.tmod a0 10) 1).bind fun t482=>(if t481.size + t482.size≤9223372036854775807 then (some (t481 ++ t482)) else (none))))))=some r:=h;clear h
 replace H:=dc_ H;rcases H with ⟨H,c2b0⟩|⟨H,c2b0⟩
 ·obtain ⟨t479,A30,H⟩:=bnd_ H
  try dsimp only at H
  have A3:=ad_ A30;clear A30
  replace H:=in_ H;obtain ⟨c4,H⟩:=H;have c4b0:=eq_true c4;have c4b1:decide (1 + t479.size≤9223372036854775807)=true:=decide_eq_true c4
  try have c4b2:(9223372036854775807 < 1 + t479.size)=False:=eq_false (Nat.not_lt.2 c4)
  obtain rfl:=Option.some.inj H
  go_enter Tryz.func70,Tryz.ntmps70
  go_wp2_with (first | ((with_reducible refine gate_callee (f:=70) rfl ?_);refine goesL_ (some 7) rfl rfl Tryz.func70 (by kernel_rfl) rfl #[.int .i64 (wrap64 (-a0))] rfl arg_ ?_;(with_reducible refine (ih k (by omega) (wrap64 (-a0)) t479 _ A3.out).mono ?_);rintro e w5 ⟨rfl,hb⟩;refine ⟨_,rfl,?_⟩;replace HB:=hbb_ hb;clear hb))
  go_ret
  exact ⟨ret_,bel_⟩
 ·replace H:=dc_ H;rcases H with ⟨H,c6b0⟩|⟨H,c6b0⟩
  ·obtain ⟨t480,A70,H⟩:=bnd_ H
   try dsimp only at H
   have A7:=ad_ A70;clear A70;obtain rfl:=Option.some.inj H
   go_enter Tryz.func70,Tryz.ntmps70
   go_wp2_with (first | ((with_reducible refine gate_callee (f:=98) rfl ?_);refine goesL_ (some 12) rfl rfl Tryz.func98 (by kernel_rfl) rfl #[.int .i64 a0,.int .i64 1] rfl arg_ ?_;(with_reducible refine (pr12_Digits.calls k a0 1 t480 _ A7.out).mono ?_);rintro e w8 ⟨rfl,hb⟩;refine ⟨_,rfl,?_⟩;replace HB:=hbb_ hb;clear hb))
   go_ret
   exact ⟨ret_,bel_⟩
  ·obtain ⟨t481,A90,H⟩:=bnd_ H
   try dsimp only at H
   have A9:=ad_ A90;clear A90;obtain ⟨t482,A100,H⟩:=bnd_ H
   try dsimp only at H
   have A10:=ad_ A100;clear A100
   replace H:=in_ H;obtain ⟨c11,H⟩:=H;have c11b0:=eq_true c11;have c11b1:decide (t481.size + t482.size≤9223372036854775807)=true:=decide_eq_true c11
   try have c11b2:(9223372036854775807 < t481.size + t482.size)=False:=eq_false (Nat.not_lt.2 c11)
   obtain rfl:=Option.some.inj H
   go_enter Tryz.func70,Tryz.ntmps70
   go_wp2_with (first | ((with_reducible refine gate_callee (f:=70) rfl ?_);refine goesL_ (some 15) rfl rfl Tryz.func70 (by kernel_rfl) rfl #[.int .i64 (wrap64 (Int.tdiv a0 10))] rfl arg_ ?_;(with_reducible refine (ih k (by omega) (wrap64 (Int.tdiv a0 10)) t481 _ A9.out).mono ?_);rintro e w12 ⟨rfl,hb⟩;refine ⟨_,rfl,?_⟩;replace HB:=hbb_ hb;clear hb) | ((with_reducible refine gate_callee (f:=98) rfl ?_);refine goesL_ (some 18) rfl rfl Tryz.func98 (by kernel_rfl) rfl #[.int .i64 (Int.tmod a0 10),.int .i64 1] rfl arg_ ?_;(with_reducible refine (pr12_Digits.calls k (Int.tmod a0 10) 1 t482 _ A10.out).mono ?_);rintro e w13 ⟨rfl,hb⟩;refine ⟨_,rfl,?_⟩;replace HB:=hbb_ hb;clear hb))
   go_ret
   exact ⟨ret_,bel_⟩
def pr12_Print.f (k:Nat) (a0:Int):Option (ByteArray×Int):=(pr12_Time.f a0).bind fun t483=>(if t483=true then ((pr12_Civil.f k (wrap64 (Int.tdiv a0 86400))).bind fun bt484=>((pr12_Digits.f k bt484.1 4).bind fun t488=>((pr12_Digits.f k bt484.2.1 2).bind fun t489=>(if t488.size + t489.size≤9223372036854775807 then ((pr12_Digits.f k bt484.2.2.1 2).bind fun t490=>(if (t488 ++ t489).size + t490.size≤9223372036854775807 then (if ((t488 ++ t489) ++ t490).size + 1≤9223372036854775807 then ((pr12_Digits.f k (wrap64 (Int.tdiv (Int.tmod a0 86400) 3600)) 2).bind fun t491=>(if (((t488 ++ t489) ++ t490) ++ (⟨#[84]⟩:ByteArray)).size + t491.size≤9223372036854775807 then ((pr12_Digits.f k (wrap64 (Int.tdiv (Int.tmod (Int.tmod a0 86400) 3600) 60)) 2).bind fun t492=>(if ((((t488 ++ t489) ++ t490) ++ (⟨#[84]⟩:ByteArray)) ++ t491).size + t492.size≤9223372036854775807 then ((pr12_Digits.f k (Int.tmod (Int.tmod a0 86400) 60) 2).bind fun t493=>(if (((((t488 ++ t489) ++ t490) ++ (⟨#[84]⟩:ByteArray)) ++ t491) ++ t492).size + t493.size≤9223372036854775807 then (if ((((((t488 ++ t489) ++ t490) ++ (⟨#[84]⟩:ByteArray)) ++ t491) ++ t492) ++ t493).size + 1≤9223372036854775807 then (some (((((((t488 ++ t489) ++ t490) ++ (⟨#[84]⟩:ByteArray)) ++ t491) ++ t492) ++ t493) ++ (⟨#[90]⟩:ByteArray),bt484.2.2.2)) else (none)) else (none))) else (none))) else (none))) else (none)) else (none))) else (none))))) else (some ((⟨#[]⟩:ByteArray),110)))
set_option maxHeartbeats 8000000 in
set_option maxRecDepth 100000 in
theorem pr12_Print.calls (k:Nat) (a0:Int) (r1:ByteArray) (r2:Int) (w:World) (h:pr12_Print.f k a0=some (r1,r2)) :
  Calls Tryz.prog 71 #[.int .i64 a0] w fun e w'=>e = .returned (.tuple #[.string r1,.int .i64 r2])∧Below w.heap.size w w':=by
 have HB:=ad_ (Below.refl w.heap.size w);have H:((pr12_Time.f a0).bind fun t483=>(if t483=true then ((pr12_Civil.f k (wrap64 (Int.tdiv a0 86400))).bind fun bt484=>((pr12_Digits.f k bt484.1 4).bind fun t488=>((pr12_Digits.f k bt484.2.1 2).bind fun t489=>(if t488.size + t489.size≤9223372036854775807 then ((pr12_Digits.f k bt484.2.2.1 2).bind fun t490=>(if (t488 ++ t489).size + t490.size≤9223372036854775807 then (if ((t488 ++ t489) ++ t490).size + 1≤9223372036854775807 then ((pr12_Digits.f k (wrap64 (Int.tdiv (Int.tmod a0 86400) 3600)) 2).bind fun t491=>(if (((t488 ++ t489) ++ t490) ++ (⟨#[84]⟩:ByteArray)).size + t491.size≤9223372036854775807 then ((pr12_Digits.f k (wrap64 (Int.tdiv (Int.tmod (Int.tmod a0 86400) 3600) 60)) 2).bind fun t492=>(if ((((t488 ++ t489) ++ t490) ++ (⟨#[84]⟩:ByteArray)) ++ t491).size + t492.size≤9223372036854775807 then ((pr12_Digits.f k (Int.tmod (Int.tmod a0 86400) 60) 2).bind fun t493=>(if (((((t488 ++ t489) ++ t490) ++ (⟨#[84]⟩:ByteArray)) ++ t491) ++ t492).size + t493.size≤9223372036854775807 then (if ((((((t488 ++ t489) ++ t490) ++ (⟨#[84]⟩:ByteArray)) ++ t491) ++ t492) ++ t493).size + 1≤9223372036854775807 then (some (((((((t488 ++ t489) ++ t490) ++ (⟨#[84]⟩:ByteArray)) ++ t491) ++ t492) ++ t493) ++ (⟨#[90]⟩:ByteArray),bt484.2.2.2)) else (none)) else (none))) else (none))) else (none))) else (none)) else (none))) else (none))))) else (some ((⟨#[]⟩:ByteArray),110))))=some (r1,r2):=h;clear h;have e1_:Int.tmod (Int.tmod a0 86400) 3600=Int.tmod a0 3600:=Int.tmod_tmod_of_dvd a0 (by decide);rw [e1_] at H;have e2_:Int.tmod (Int.tmod a0 86400) 60=Int.tmod a0 60:=Int.tmod_tmod_of_dvd a0 (by decide);rw [e2_] at H;clear e1_ e2_;obtain ⟨t483,A20,H⟩:=bnd_ H
 try dsimp only at H
 have A2:=ad_ A20;clear A20
 replace H:=db_ H;rcases H with ⟨rfl,H⟩|⟨rfl,H⟩
 ·replace H:=Option.bind_eq_some_iff.mp H;obtain ⟨⟨t484,t485,t486,t487⟩,A40,H⟩:=H
  try dsimp only at H
  have A4:=ad_ A40;clear A40;obtain ⟨t488,A50,H⟩:=bnd_ H
  try dsimp only at H
  have A5:=ad_ A50;clear A50;obtain ⟨t489,A60,H⟩:=bnd_ H
  try dsimp only at H
  have A6:=ad_ A60;clear A60
  replace H:=in_ H;obtain ⟨c7,H⟩:=H;have c7b0:=eq_true c7;have c7b1:decide (t488.size + t489.size≤9223372036854775807)=true:=decide_eq_true c7
  try have c7b2:(9223372036854775807 < t488.size + t489.size)=False:=eq_false (Nat.not_lt.2 c7)
  obtain ⟨t490,A80,H⟩:=bnd_ H
  try dsimp only at H
  have A8:=ad_ A80;clear A80
  replace H:=in_ H;obtain ⟨c9,H⟩:=H;have c9b0:=eq_true c9;have c9b1:decide ((t488 ++ t489).size + t490.size≤9223372036854775807)=true:=decide_eq_true c9
  try have c9b2:(9223372036854775807 < (t488 ++ t489).size + t490.size)=False:=eq_false (Nat.not_lt.2 c9)
  try have c9b3:(9223372036854775807 < t488.size + t489.size + t490.size)=False:=eq_false (Nat.not_lt.2 (by have h_:=c9;simp only [ByteArray.size_append] at h_;exact h_))
  replace H:=in_ H;obtain ⟨c10,H⟩:=H;have c10b0:=eq_true c10;have c10b1:decide (((t488 ++ t489) ++ t490).size + 1≤9223372036854775807)=true:=decide_eq_true c10
  try have c10b2:(9223372036854775807 < ((t488 ++ t489) ++ t490).size + 1)=False:=eq_false (Nat.not_lt.2 c10)
  try have c10b3:(9223372036854775807 < t488.size + t489.size + t490.size + 1)=False:=eq_false (Nat.not_lt.2 (by have h_:=c10;simp only [ByteArray.size_append] at h_;exact h_))
  obtain ⟨t491,A110,H⟩:=bnd_ H
  try dsimp only at H
  have A11:=ad_ A110;clear A110
  replace H:=in_ H;obtain ⟨c12,H⟩:=H;have c12b0:=eq_true c12;have c12b1:decide ((((t488 ++ t489) ++ t490) ++ (⟨#[84]⟩:ByteArray)).size + t491.size≤9223372036854775807)=true:=decide_eq_true c12
  try have c12b2:(9223372036854775807 < (((t488 ++ t489) ++ t490) ++ (⟨#[84]⟩:ByteArray)).size + t491.size)=False:=eq_false (Nat.not_lt.2 c12)
  try have c12b3:(9223372036854775807 < t488.size + t489.size + t490.size + 1 + t491.size)=False:=eq_false (Nat.not_lt.2 (by have h_:=c12;simp only [ByteArray.size_append] at h_;exact h_))
  obtain ⟨t492,A130,H⟩:=bnd_ H
  try dsimp only at H
  have A13:=ad_ A130;clear A130
  replace H:=in_ H;obtain ⟨c14,H⟩:=H;have c14b0:=eq_true c14;have c14b1:decide (((((t488 ++ t489) ++ t490) ++ (⟨#[84]⟩:ByteArray)) ++ t491).size + t492.size≤9223372036854775807)=true:=decide_eq_true c14
  try have c14b2:(9223372036854775807 < ((((t488 ++ t489) ++ t490) ++ (⟨#[84]⟩:ByteArray)) ++ t491).size + t492.size)=False:=eq_false (Nat.not_lt.2 c14)
  try have c14b3:(9223372036854775807 < t488.size + t489.size + t490.size + 1 + t491.size + t492.size)=False:=eq_false (Nat.not_lt.2 (by have h_:=c14;simp only [ByteArray.size_append] at h_;exact h_))
  obtain ⟨t493,A150,H⟩:=bnd_ H
  try dsimp only at H
  have A15:=ad_ A150;clear A150
  replace H:=in_ H;obtain ⟨c16,H⟩:=H;have c16b0:=eq_true c16;have c16b1:decide ((((((t488 ++ t489) ++ t490) ++ (⟨#[84]⟩:ByteArray)) ++ t491) ++ t492).size + t493.size≤9223372036854775807)=true:=decide_eq_true c16
  try have c16b2:(9223372036854775807 < (((((t488 ++ t489) ++ t490) ++ (⟨#[84]⟩:ByteArray)) ++ t491) ++ t492).size + t493.size)=False:=eq_false (Nat.not_lt.2 c16)
  try have c16b3:(9223372036854775807 < t488.size + t489.size + t490.size + 1 + t491.size + t492.size + t493.size)=False:=eq_false (Nat.not_lt.2 (by have h_:=c16;simp only [ByteArray.size_append] at h_;exact h_))
  replace H:=in_ H;obtain ⟨c17,H⟩:=H;have c17b0:=eq_true c17;have c17b1:decide (((((((t488 ++ t489) ++ t490) ++ (⟨#[84]⟩:ByteArray)) ++ t491) ++ t492) ++ t493).size + 1≤9223372036854775807)=true:=decide_eq_true c17
  try have c17b2:(9223372036854775807 < ((((((t488 ++ t489) ++ t490) ++ (⟨#[84]⟩:ByteArray)) ++ t491) ++ t492) ++ t493).size + 1)=False:=eq_false (Nat.not_lt.2 c17)
  try have c17b3:(9223372036854775807 < t488.size + t489.size + t490.size + 1 + t491.size + t492.size + t493.size + 1)=False:=eq_false (Nat.not_lt.2 (by have h_:=c17;simp only [ByteArray.size_append] at h_;exact h_))
  simp only [Option.some.injEq,Prod.mk.injEq] at H
  obtain ⟨rfl,rfl⟩:=H
  go_enter Tryz.func71,Tryz.ntmps71
  go_wp2_with (first | ((with_reducible refine gate_callee (f:=28) rfl ?_);refine goesL_ (some 10) rfl rfl Tryz.func28 (by kernel_rfl) rfl #[.int .i64 a0] rfl arg_ ?_;(with_reducible refine (pr12_Time.calls a0 true _ A2.out).mono ?_);rintro e w' ⟨rfl,⟨nd,rfl⟩⟩;refine ⟨_,rfl,?_⟩) | ((with_reducible refine gate_callee (f:=64) rfl ?_);refine goesL_ (some 15) rfl rfl Tryz.func64 (by kernel_rfl) rfl #[.int .i64 (wrap64 (Int.tdiv a0 86400))] rfl arg_ ?_;(with_reducible refine (pr12_Civil.calls k (wrap64 (Int.tdiv a0 86400)) t484 t485 t486 t487 _ A4.out).mono ?_);rintro e w' ⟨rfl,⟨nd,rfl⟩⟩;refine ⟨_,rfl,?_⟩) | ((with_reducible refine gate_callee (f:=98) rfl ?_);refine goesL_ (some 23) rfl rfl Tryz.func98 (by kernel_rfl) rfl #[.int .i64 t484,.int .i64 4] rfl arg_ ?_;(with_reducible refine (pr12_Digits.calls k t484 4 t488 _ A5.out).mono ?_);rintro e w18 ⟨rfl,hb⟩;refine ⟨_,rfl,?_⟩;replace HB:=hbb_ hb;clear hb) | ((with_reducible refine gate_callee (f:=98) rfl ?_);refine goesL_ (some 25) rfl rfl Tryz.func98 (by kernel_rfl) rfl #[.int .i64 t485,.int .i64 2] rfl arg_ ?_;(with_reducible refine (pr12_Digits.calls k t485 2 t489 _ A6.out).mono ?_);rintro e w19 ⟨rfl,hb⟩;refine ⟨_,rfl,?_⟩;replace HB:=hbb_ hb;clear hb) | ((with_reducible refine gate_callee (f:=98) rfl ?_);refine goesL_ (some 28) rfl rfl Tryz.func98 (by kernel_rfl) rfl #[.int .i64 t486,.int .i64 2] rfl arg_ ?_;(with_reducible refine (pr12_Digits.calls k t486 2 t490 _ A8.out).mono ?_);rintro e w20 ⟨rfl,hb⟩;refine ⟨_,rfl,?_⟩;replace HB:=hbb_ hb;clear hb) | ((with_reducible refine gate_callee (f:=98) rfl ?_);refine goesL_ (some 33) rfl rfl Tryz.func98 (by kernel_rfl) rfl #[.int .i64 (wrap64 (Int.tdiv (Int.tmod a0 86400) 3600)),.int .i64 2] rfl arg_ ?_;(with_reducible refine (pr12_Digits.calls k (wrap64 (Int.tdiv (Int.tmod a0 86400) 3600)) 2 t491 _ A11.out).mono ?_);rintro e w21 ⟨rfl,hb⟩;refine ⟨_,rfl,?_⟩;replace HB:=hbb_ hb;clear hb) | ((with_reducible refine gate_callee (f:=98) rfl ?_);refine goesL_ (some 38) rfl rfl Tryz.func98 (by kernel_rfl) rfl #[.int .i64 (wrap64 (Int.tdiv (Int.tmod a0 3600) 60)),.int .i64 2] rfl arg_ ?_;(with_reducible refine (pr12_Digits.calls k (wrap64 (Int.tdiv (Int.tmod a0 3600) 60)) 2 t492 _ A13.out).mono ?_);rintro e w22 ⟨rfl,hb⟩;refine ⟨_,rfl,?_⟩;replace HB:=hbb_ hb;clear hb) | ((with_reducible refine gate_callee (f:=98) rfl ?_);refine goesL_ (some 42) rfl rfl Tryz.func98 (by kernel_rfl) rfl #[.int .i64 (Int.tmod a0 60),.int .i64 2] rfl arg_ ?_;(with_reducible refine (pr12_Digits.calls k (Int.tmod a0 60) 2 t493 _ A15.out).mono ?_);rintro e w23 ⟨rfl,hb⟩;refine ⟨_,rfl,?_⟩;replace HB:=hbb_ hb;clear hb))
  go_ret2
  exact ⟨ret_,bel_⟩
 ·simp only [Option.some.injEq,Prod.mk.injEq] at H
  obtain ⟨rfl,rfl⟩:=H
  go_enter Tryz.func71,Tryz.ntmps71
  go_wp2_with (first | ((with_reducible refine gate_callee (f:=28) rfl ?_);refine goesL_ (some 10) rfl rfl Tryz.func28 (by kernel_rfl) rfl #[.int .i64 a0] rfl arg_ ?_;(with_reducible refine (pr12_Time.calls a0 false _ A2.out).mono ?_);rintro e w' ⟨rfl,⟨nd,rfl⟩⟩;refine ⟨_,rfl,?_⟩))
  go_ret2
  exact ⟨ret_,bel_⟩
def pr21_join.l0:Nat→List Int→ByteArray→Int→Option (ByteArray)
 | 0,_,_,_=>none
 | k + 1,x0,x3,x4=>if x4 < (x0.length:Int) then (if x4 > 0 then (if x3.size + 1≤9223372036854775807 then (if 0≤x4 then ((pr21_Digits.f k (rd x0 x4)).bind fun t495=>(if (x3 ++ (⟨#[44]⟩:ByteArray)).size + t495.size≤9223372036854775807 then (pr21_join.l0 k x0 ((x3 ++ (⟨#[44]⟩:ByteArray)) ++ t495) (wrap64 (x4 + 1))) else (none))) else (none)) else (none)) else (if 0≤x4 then ((pr21_Digits.f k (rd x0 x4)).bind fun t497=>(if x3.size + t497.size≤9223372036854775807 then (pr21_join.l0 k x0 (x3 ++ t497) (wrap64 (x4 + 1))) else (none))) else (none))) else (some x3)
def pr21_join.f (k:Nat) (l0:List Int):Option (ByteArray):=pr21_join.l0 k l0 (⟨#[]⟩:ByteArray) 0
set_option maxHeartbeats 8000000 in
set_option maxRecDepth 100000 in
theorem pr21_join.calls (k:Nat) (A0:Option Addr) (c0:Nat) (l0:List Int) (r:ByteArray) (w:World) (hr0:Kd.C (Kd.int .i64) w A0 l0.length l0) (hc0:l0.length≤c0) (h:pr21_join.f k l0=some r) :
  Calls Tryz.prog 72 #[.slice A0 l0.length c0] w fun e w'=>e = .returned (.string r)∧Below w.heap.size w w':=by
 have HR0:=Aside0.mk hr0;have HC0:=Aside0.mk hc0;clear hr0 hc0;have HB:=ad_ (Below.refl w.heap.size w);have H:(pr21_join.l0 k l0 (⟨#[]⟩:ByteArray) 0)=some r:=h;clear h;have H':=ad_ H;clear H
 go_enter Tryz.func72,Tryz.ntmps72
 go_wp2
 go_loopg [3,4] k (fun kq v3 v4 w'=>∃ (x3_1:ByteArray) (x4_1:Int),v3 = .string x3_1∧v4 = .int .i64 x4_1∧Aside0 (pr21_join.l0 kq l0 x3_1 x4_1=some r)∧Aside0 (kq≤k)∧Aside0 (Below w.heap.size w w'))
 case atStart=>exact ⟨((⟨#[]⟩:ByteArray)),(0),val_,val_,H',⟨Nat.le_refl _⟩,⟨bel_⟩⟩
 case round =>
  clear H';obtain ⟨x3_1,x4_1,rfl,rfl,HA,HK1,HB⟩:=hrel
  cases gk with
  | zero=>exact absurd HA.out (by simp [pr21_join.l0])
  | succ k1 =>
   have H:=HA.out;clear HA
   simp only [pr21_join.l0] at H
   replace H:=dc_ H;rcases H with ⟨H,c2b0⟩|⟨H,c2b0⟩
   ·replace H:=dg_ H;rcases H with ⟨H,c3b0⟩|⟨H,c3b0⟩
    ·replace H:=in_ H;obtain ⟨c4,H⟩:=H;have c4b0:=eq_true c4;have c4b1:decide (x3_1.size + 1≤9223372036854775807)=true:=decide_eq_true c4
     try have c4b2:(9223372036854775807 < x3_1.size + 1)=False:=eq_false (Nat.not_lt.2 c4)
     replace H:=ind_ H;obtain ⟨c5b0,H⟩:=H;obtain ⟨t495,A60,H⟩:=bnd_ H
     try dsimp only at H
     have A6:=ad_ A60;clear A60
     replace H:=in_ H;obtain ⟨c7,H⟩:=H;have c7b0:=eq_true c7;have c7b1:decide ((x3_1 ++ (⟨#[44]⟩:ByteArray)).size + t495.size≤9223372036854775807)=true:=decide_eq_true c7
     try have c7b2:(9223372036854775807 < (x3_1 ++ (⟨#[44]⟩:ByteArray)).size + t495.size)=False:=eq_false (Nat.not_lt.2 c7)
     try have c7b3:(9223372036854775807 < x3_1.size + 1 + t495.size)=False:=eq_false (Nat.not_lt.2 (by have h_:=c7;simp only [ByteArray.size_append] at h_;exact h_))
     have H':=ad_ H;clear H;have p494:0≤(x4_1:Int):=dec_;have q494:x4_1 < (l0.length:Int):=dec_;obtain ⟨ad494,e494,hx494_0⟩:=Kd.at_int HR0.out x4_1 p494 q494
     cases e494
     replace hx494_0:=(HB.out.cell (World.block_lt_of_cell? w _ hx494_0)).trans hx494_0;replace p494:=eq_true p494;replace q494:=eq_true q494
     go_wp2_with (first | ((with_reducible refine gate_callee (f:=70) rfl ?_);refine goesL_ (some 20) rfl rfl Tryz.func70 (by kernel_rfl) rfl #[.int .i64 (rd l0 x4_1)] rfl arg_ ?_;(with_reducible refine (pr21_Digits.calls k1 (rd l0 x4_1) t495 _ A6.out).mono ?_);rintro e w8 ⟨rfl,hb⟩;refine ⟨_,rfl,?_⟩;replace HB:=hbb_ hb;clear hb))
     go_roundg k1
     case measure=>have:=HK1.out;omega
     case rel=>exact ⟨((x3_1 ++ (⟨#[44]⟩:ByteArray)) ++ t495),(wrap64 (x4_1 + 1)),val_,val_,H',⟨by have:=HK1.out;omega⟩,⟨bel_⟩⟩
    ·replace H:=ind_ H;obtain ⟨c9b0,H⟩:=H;obtain ⟨t497,A100,H⟩:=bnd_ H
     try dsimp only at H
     have A10:=ad_ A100;clear A100
     replace H:=in_ H;obtain ⟨c11,H⟩:=H;have c11b0:=eq_true c11;have c11b1:decide (x3_1.size + t497.size≤9223372036854775807)=true:=decide_eq_true c11
     try have c11b2:(9223372036854775807 < x3_1.size + t497.size)=False:=eq_false (Nat.not_lt.2 c11)
     have H':=ad_ H;clear H;have p496:0≤(x4_1:Int):=dec_;have q496:x4_1 < (l0.length:Int):=dec_;obtain ⟨ad496,e496,hx496_0⟩:=Kd.at_int HR0.out x4_1 p496 q496
     cases e496
     replace hx496_0:=(HB.out.cell (World.block_lt_of_cell? w _ hx496_0)).trans hx496_0;replace p496:=eq_true p496;replace q496:=eq_true q496
     go_wp2_with (first | ((with_reducible refine gate_callee (f:=70) rfl ?_);refine goesL_ (some 20) rfl rfl Tryz.func70 (by kernel_rfl) rfl #[.int .i64 (rd l0 x4_1)] rfl arg_ ?_;(with_reducible refine (pr21_Digits.calls k1 (rd l0 x4_1) t497 _ A10.out).mono ?_);rintro e w12 ⟨rfl,hb⟩;refine ⟨_,rfl,?_⟩;replace HB:=hbb_ hb;clear hb))
     go_roundg k1
     case measure=>have:=HK1.out;omega
     case rel=>exact ⟨(x3_1 ++ t497),(wrap64 (x4_1 + 1)),val_,val_,H',⟨by have:=HK1.out;omega⟩,⟨bel_⟩⟩
   ·obtain rfl:=Option.some.inj H
    go_wp2
    go_ret
    exact ⟨ret_,bel_⟩
def pr21_Sign.f (a0:Int):Option (ByteArray):=if 0≤(wrap64 (2 * a0)) then (if (wrap64 (2 * a0))≤(wrap64 ((wrap64 (2 * a0)) + 2)) then (if (wrap64 ((wrap64 (2 * a0)) + 2))≤14 then (some ((⟨#[77,79,84,85,87,69,84,72,70,82,83,65,83,85]⟩:ByteArray).extract ((wrap64 (2 * a0)):Int).toNat ((wrap64 ((wrap64 (2 * a0)) + 2)):Int).toNat)) else (none)) else (none)) else (none)
set_option maxHeartbeats 8000000 in
set_option maxRecDepth 100000 in
theorem pr21_Sign.calls (a0:Int) (r:ByteArray) (w:World) (h:pr21_Sign.f a0=some r) :
  Calls Tryz.prog 73 #[.int .i64 a0] w fun e w'=>e = .returned (.string r)∧Drawn0 w w':=by
 have H:(if 0≤(wrap64 (2 * a0)) then (if (wrap64 (2 * a0))≤(wrap64 ((wrap64 (2 * a0)) + 2)) then (if (wrap64 ((wrap64 (2 * a0)) + 2))≤14 then (some ((⟨#[77,79,84,85,87,69,84,72,70,82,83,65,83,85]⟩:ByteArray).extract ((wrap64 (2 * a0)):Int).toNat ((wrap64 ((wrap64 (2 * a0)) + 2)):Int).toNat)) else (none)) else (none)) else (none))=some r:=h;clear h;obtain ⟨ji2,hji2⟩:∃ j_:Int,(wrap64 (2 * a0))=j_:=⟨_,rfl⟩
 replace H:(if 0≤(ji2) then (if (ji2)≤(wrap64 ((ji2) + 2)) then (if (wrap64 ((ji2) + 2))≤14 then (some ((⟨#[77,79,84,85,87,69,84,72,70,82,83,65,83,85]⟩:ByteArray).extract ((ji2):Int).toNat ((wrap64 ((ji2) + 2)):Int).toNat)) else (none)) else (none)) else (none))=some r:=by first | (rw [hji2] at H;exact H) | (simp only [hji2] at H ⊢;exact H)
 have hji2w:(IntKind.i64.wrap (2 * a0))=ji2:=(i64_w _).trans hji2
 replace H:=in_ H;obtain ⟨c3,H⟩:=H;have c3b0:=eq_true c3;have c3b1:decide (0≤(ji2))=true:=decide_eq_true c3;clear c3
 replace H:=in_ H;obtain ⟨c4,H⟩:=H;have c4b0:=eq_true c4;have c4b1:decide ((ji2)≤(wrap64 ((ji2) + 2)))=true:=decide_eq_true c4
 replace H:=in_ H;obtain ⟨c5,H⟩:=H;have c5b0:=eq_true c5;have c5b1:decide ((wrap64 ((ji2) + 2))≤14)=true:=decide_eq_true c5;obtain rfl:=Option.some.inj H
 go_enter Tryz.func73,Tryz.ntmps73
 go_wp2
 go_ret
 exact ⟨by first | rfl | (simp;done) | (simp only [← hji2] <;> (first | rfl | simp)) | (simp [*];done),by repeat (first | exact Drawn0.refl _ | apply Drawn0.step)⟩
end Go.Proofs.YtkgkblmeafhkfaaGreat.PG

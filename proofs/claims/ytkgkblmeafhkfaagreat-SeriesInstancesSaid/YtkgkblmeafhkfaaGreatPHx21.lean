-- Written by a program of the session (wip/tools).
import Derived.Test.YtkgkblmeafhkfaaGreatPHx0
namespace Go.Proofs.YtkgkblmeafhkfaaGreat.PH
open Go.RowKit Go.Proofs.YtkgkblmeafhkfaaGreatW.PrintWords Go.Proofs.YtkgkblmeafhkfaaGreatW.PrintLast Go.Proofs.YtkgkblmeafhkfaaGreatW.PrintMore
attribute [local go_sem] max2_int min2_int max_two min_two max_three min_three max_four min_four   -- for this text's walks alone
set_option linter.unusedVariables false
set_option linter.unusedSimpArgs false

def pr12_Year.f (a0:Int):Option (Int):=if (Int.tmod a0 400)=0 then (some 366) else (if (Int.tmod a0 4)=0 then (if (Int.tmod a0 100)=0 then (some 365) else (some 366)) else (some 365))
set_option maxHeartbeats 8000000 in
set_option maxRecDepth 100000 in
theorem pr12_Year.calls (a0 r:Int) (w:World) (h:pr12_Year.f a0=some r) :
  Calls Tryz.prog 95 #[.int .i64 a0] w fun e w'=>e = .returned (.int .i64 r)∧Drawn0 w w':=by
 have H:(if (Int.tmod a0 400)=0 then (some 366) else (if (Int.tmod a0 4)=0 then (if (Int.tmod a0 100)=0 then (some 365) else (some 366)) else (some 365)))=some r:=h;clear h
 replace H:=de_ H;rcases H with ⟨H,-,c2b0,c2b1⟩|⟨H,c2,c2b0,c2b1⟩
 ·obtain rfl:=Option.some.inj H
  go_enter Tryz.func95,Tryz.ntmps95
  go_wp2
  go_ret
  exact ⟨val_,by repeat (first | exact Drawn0.refl _ | apply Drawn0.step)⟩
 ·replace H:=de_ H;rcases H with ⟨H,-,c3b0,c3b1⟩|⟨H,c3,c3b0,c3b1⟩
  ·replace H:=de_ H;rcases H with ⟨H,-,c4b0,c4b1⟩|⟨H,c4,c4b0,c4b1⟩
   ·obtain rfl:=Option.some.inj H
    go_enter Tryz.func95,Tryz.ntmps95
    go_wp2
    go_ret
    exact ⟨val_,by repeat (first | exact Drawn0.refl _ | apply Drawn0.step)⟩
   ·obtain rfl:=Option.some.inj H
    go_enter Tryz.func95,Tryz.ntmps95
    go_wp2
    go_ret
    exact ⟨val_,by repeat (first | exact Drawn0.refl _ | apply Drawn0.step)⟩
  ·obtain rfl:=Option.some.inj H
   go_enter Tryz.func95,Tryz.ntmps95
   go_wp2
   go_ret
   exact ⟨val_,by repeat (first | exact Drawn0.refl _ | apply Drawn0.step)⟩
def pr12_Month.j0:Nat→Int→Int→Bool→Option (Int)
 | 0,_,_,_=>none
 | k + 1,x0,x5,x6=>if x6=true then (some 30) else (if x5=2 then ((pr12_Year.f x0).bind fun t364=>(some (wrap64 (t364 - 337)))) else (some 31))
def pr12_Month.f (k:Nat) (a0 a1:Int):Option (Int):=if a1=4 then (pr12_Month.j0 k a0 a1 (a1 == 4)) else (if a1=6 then (pr12_Month.j0 k a0 a1 (a1 == 6)) else (if a1=9 then (pr12_Month.j0 k a0 a1 (a1 == 9)) else (pr12_Month.j0 k a0 a1 (a1 == 11))))
set_option maxHeartbeats 8000000 in
set_option maxRecDepth 100000 in
theorem pr12_Month.calls (k:Nat) (a0 a1 r:Int) (w:World) (h:pr12_Month.f k a0 a1=some r) :
  Calls Tryz.prog 96 #[.int .i64 a0,.int .i64 a1] w fun e w'=>e = .returned (.int .i64 r)∧Drawn0 w w':=by
 have H:(if a1=4 then (pr12_Month.j0 k a0 a1 (a1 == 4)) else (if a1=6 then (pr12_Month.j0 k a0 a1 (a1 == 6)) else (if a1=9 then (pr12_Month.j0 k a0 a1 (a1 == 9)) else (pr12_Month.j0 k a0 a1 (a1 == 11)))))=some r:=h;clear h;have HC3:=Aside0.mk H;clear H
 go_enter Tryz.func96,Tryz.ntmps96
 go_upto_if 6 with (fail)
 go_cut [6] (fun v6 wc=>∃ (kq:Nat) (x6_2:Bool),v6 = .bool x6_2∧Aside0 (pr12_Month.j0 kq a0 a1 x6_2=some r)∧Aside0 (kq≤k)∧Drawn0 w wc)
 case first =>
  have H:=HC3.out;clear HC3
  replace H:=de_ H;rcases H with ⟨H,-,c4b0,c4b1⟩|⟨H,c4,c4b0,c4b1⟩
  ·(first | rw [c4b0] | (simp only [i64_w,i32_w];rw [c4b0]) | skip)
   have H':=ad_ H;clear H
   go_wp2
   go_meet
   case rel=>exact ⟨_,((a1 == 4)),val_,H',⟨by first | omega | exact Nat.le_refl _⟩,by repeat (first | exact Drawn0.refl _ | apply Drawn0.step)⟩
  ·(first | rw [c4b0] | (simp only [i64_w,i32_w];rw [c4b0]) | skip)
   replace H:=de_ H;rcases H with ⟨H,-,c5b0,c5b1⟩|⟨H,c5,c5b0,c5b1⟩
   ·have H':=ad_ H;clear H
    go_wp2
    go_meet
    case rel=>exact ⟨_,((a1 == 6)),val_,H',⟨by first | omega | exact Nat.le_refl _⟩,by repeat (first | exact Drawn0.refl _ | apply Drawn0.step)⟩
   ·replace H:=de_ H;rcases H with ⟨H,-,c6b0,c6b1⟩|⟨H,c6,c6b0,c6b1⟩
    ·have H':=ad_ H;clear H
     go_wp2
     go_meet
     case rel=>exact ⟨_,((a1 == 9)),val_,H',⟨by first | omega | exact Nat.le_refl _⟩,by repeat (first | exact Drawn0.refl _ | apply Drawn0.step)⟩
    ·have H':=ad_ H;clear H
     go_wp2
     go_meet
     case rel=>exact ⟨_,((a1 == 11)),val_,H',⟨by first | omega | exact Nat.le_refl _⟩,by repeat (first | exact Drawn0.refl _ | apply Drawn0.step)⟩
 case rest =>
  clear HC3;obtain ⟨kq,x6_2,rfl,HA,HJ2,⟨mc2,rfl⟩⟩:=hcut
  cases kq with
  | zero=>exact absurd HA.out (by simp [pr12_Month.j0])
  | succ kj2 =>
   have H:=HA.out;clear HA
   simp only [pr12_Month.j0] at H
   replace H:=db_ H;rcases H with ⟨rfl,H⟩|⟨rfl,H⟩
   ·obtain rfl:=Option.some.inj H
    go_wp2
    go_ret
    exact ⟨val_,by repeat (first | exact Drawn0.refl _ | apply Drawn0.step)⟩
   ·replace H:=de_ H;rcases H with ⟨H,-,c8b0,c8b1⟩|⟨H,c8,c8b0,c8b1⟩
    ·obtain ⟨t364,A90,H⟩:=bnd_ H
     try dsimp only at H
     have A9:=ad_ A90;clear A90;obtain rfl:=Option.some.inj H
     go_wp2_with (first | ((with_reducible refine gate_callee (f:=95) rfl ?_);refine gl_ 14 Tryz.func95 (pr12_Year.calls a0 t364 _ A9.out) ?_;rintro e w' ⟨rfl,⟨nd,rfl⟩⟩;refine ⟨_,rfl,?_⟩))
     go_ret
     exact ⟨val_,by repeat (first | exact Drawn0.refl _ | apply Drawn0.step)⟩
    ·obtain rfl:=Option.some.inj H
     go_wp2
     go_ret
     exact ⟨val_,by repeat (first | exact Drawn0.refl _ | apply Drawn0.step)⟩
mutual
def pr12_Civil.j0:Nat→Int→Bool→Option (Int×Int×Int×Int)
 | 0,_,_=>none
 | k + 1,x0,x14=>if x14=true then (some (0,0,0,110)) else (pr12_Civil.l0 k x0 1970 1)
def pr12_Civil.l0:Nat→Int→Int→Int→Option (Int×Int×Int×Int)
 | 0,_,_,_=>none
 | k + 1,x6,x7,x8=>(pr12_Year.f x7).bind fun t365=>(if x6 ≥ t365 then ((pr12_Year.f x7).bind fun t366=>(pr12_Civil.l0 k (wrap64 (x6 - t366)) (wrap64 (x7 + 1)) x8)) else (pr12_Civil.l1 k x6 x7 x8))
def pr12_Civil.l1:Nat→Int→Int→Int→Option (Int×Int×Int×Int)
 | 0,_,_,_=>none
 | k + 1,x6,x7,x8=>(pr12_Month.f k x7 x8).bind fun t367=>(if x6 ≥ t367 then ((pr12_Month.f k x7 x8).bind fun t368=>(pr12_Civil.l1 k (wrap64 (x6 - t368)) x7 (wrap64 (x8 + 1)))) else (some (x7,x8,wrap64 (x6 + 1),0)))
end
def pr12_Civil.f (k:Nat) (a0:Int):Option (Int×Int×Int×Int):=if a0 < 0 then (pr12_Civil.j0 k a0 true) else (pr12_Civil.j0 k a0 (decide (a0 > 2932896)))
set_option maxHeartbeats 8000000 in
set_option maxRecDepth 100000 in
theorem pr12_Civil.calls (k:Nat) (a0 r1:Int) (r2 r3 r4:Int) (w:World) (h:pr12_Civil.f k a0=some (r1,r2,r3,r4)) :
  Calls Tryz.prog 64 #[.int .i64 a0] w fun e w'=>e = .returned (.tuple #[.int .i64 r1,.int .i64 r2,.int .i64 r3,.int .i64 r4])∧Drawn0 w w':=by
 have H:(if a0 < 0 then (pr12_Civil.j0 k a0 true) else (pr12_Civil.j0 k a0 (decide (a0 > 2932896))))=some (r1,r2,r3,r4):=h;clear h;have HC2:=Aside0.mk H;clear H
 go_enter Tryz.func64,Tryz.ntmps64
 go_upto_region 1 with (fail)
 go_cut [14] (fun v14 wc=>∃ (kq:Nat) (x14_1:Bool),v14 = .bool x14_1∧Aside0 (pr12_Civil.j0 kq a0 x14_1=some (r1,r2,r3,r4))∧Aside0 (kq≤k)∧Drawn0 w wc)
 case first =>
  have H:=HC2.out;clear HC2
  replace H:=dc_ H;rcases H with ⟨H,c3b0⟩|⟨H,c3b0⟩
  ·(first | rw [c3b0] | (simp only [i64_w,i32_w];rw [c3b0]) | skip)
   have H':=ad_ H;clear H
   go_wp2
   go_meet
   case rel=>exact ⟨_,(true),val_,H',⟨by first | omega | exact Nat.le_refl _⟩,by repeat (first | exact Drawn0.refl _ | apply Drawn0.step)⟩
  ·(first | rw [c3b0] | (simp only [i64_w,i32_w];rw [c3b0]) | skip)
   have H':=ad_ H;clear H
   go_wp2
   go_meet
   case rel=>exact ⟨_,(decide (a0 > 2932896)),val_,H',⟨by first | omega | exact Nat.le_refl _⟩,by repeat (first | exact Drawn0.refl _ | apply Drawn0.step)⟩
 case rest =>
  clear HC2;obtain ⟨kq,x14_1,rfl,HA,HJ1,⟨mc1,rfl⟩⟩:=hcut
  cases kq with
  | zero=>exact absurd HA.out (by simp [pr12_Civil.j0])
  | succ kj1 =>
   have H:=HA.out;clear HA
   simp only [pr12_Civil.j0] at H
   replace H:=db_ H;rcases H with ⟨rfl,H⟩|⟨rfl,H⟩
   ·simp only [Option.some.injEq,Prod.mk.injEq] at H
    obtain ⟨rfl,rfl,rfl,rfl⟩:=H
    go_wp2
    refine bodyPost_ret (results_list (rs:=[.tmp 2,.tmp 3,.tmp 4,.tmp 5]) rfl (by simp) (.tmp (.tmp (.tmp (.tmp .nil))))) rfl ?_
    exact ⟨val_,by repeat (first | exact Drawn0.refl _ | apply Drawn0.step)⟩
   ·have H':=ad_ H;clear H
    go_wp2
    go_loopg [6,7] kj1 (fun kq v6 v7 w'=>∃ (x6_2:Int) (x7_2:Int),v6 = .int .i64 x6_2∧v7 = .int .i64 x7_2∧Aside0 (pr12_Civil.l0 kq x6_2 x7_2 1=some (r1,r2,r3,r4))∧Aside0 (kq≤kj1)∧Drawn0 w w')
    case atStart=>exact ⟨(a0),(1970),val_,val_,H',⟨Nat.le_refl _⟩,by repeat (first | exact Drawn0.refl _ | apply Drawn0.step)⟩
    case round =>
     clear H';obtain ⟨x6_2,x7_2,rfl,rfl,HA,HK2,⟨m2,rfl⟩⟩:=hrel
     cases gk with
     | zero=>exact absurd HA.out (by simp [pr12_Civil.l0])
     | succ k2 =>
      have H:=HA.out;clear HA
      simp only [pr12_Civil.l0] at H
      obtain ⟨t365,A50,H⟩:=bnd_ H
      try dsimp only at H
      have A5:=ad_ A50;clear A50
      replace H:=dh_ H;rcases H with ⟨H,c6b0⟩|⟨H,c6b0⟩
      ·obtain ⟨t366,A70,H⟩:=bnd_ H
       try dsimp only at H
       have A7:=ad_ A70;clear A70;have H':=ad_ H;clear H
       go_wp2_with (first | ((with_reducible refine gate_callee (f:=95) rfl ?_);refine gl_ 18 Tryz.func95 (pr12_Year.calls x7_2 t365 _ A5.out) ?_;rintro e w' ⟨rfl,⟨nd,rfl⟩⟩;refine ⟨_,rfl,?_⟩) | ((with_reducible refine gate_callee (f:=95) rfl ?_);refine gl_ 22 Tryz.func95 (pr12_Year.calls x7_2 t366 _ A7.out) ?_;rintro e w' ⟨rfl,⟨nd,rfl⟩⟩;refine ⟨_,rfl,?_⟩))
       go_roundg k2
       case measure=>have:=HJ1.out;have:=HK2.out;omega
       case rel=>exact ⟨(wrap64 (x6_2 - t366)),(wrap64 (x7_2 + 1)),val_,val_,H',⟨by have:=HJ1.out;have:=HK2.out;omega⟩,by repeat (first | exact Drawn0.refl _ | apply Drawn0.step)⟩
      ·have H':=ad_ H;clear H
       go_wp2_with (first | ((with_reducible refine gate_callee (f:=95) rfl ?_);refine gl_ 18 Tryz.func95 (pr12_Year.calls x7_2 t365 _ A5.out) ?_;rintro e w' ⟨rfl,⟨nd,rfl⟩⟩;refine ⟨_,rfl,?_⟩))
       go_loopg [6,8] k2 (fun kq v6 v8 w'=>∃ (x6_3:Int) (x8_3:Int),v6 = .int .i64 x6_3∧v8 = .int .i64 x8_3∧Aside0 (pr12_Civil.l1 kq x6_3 x7_2 x8_3=some (r1,r2,r3,r4))∧Aside0 (kq≤k2)∧Drawn0 w w')
       case atStart=>exact ⟨(x6_2),(1),val_,val_,H',⟨Nat.le_refl _⟩,by repeat (first | exact Drawn0.refl _ | apply Drawn0.step)⟩
       case round =>
        clear H';clear c6b0;obtain ⟨x6_3,x8_3,rfl,rfl,HA,HK3,⟨m3,rfl⟩⟩:=hrel
        cases gk with
        | zero=>exact absurd HA.out (by simp [pr12_Civil.l1])
        | succ k3 =>
         have H:=HA.out;clear HA
         simp only [pr12_Civil.l1] at H
         obtain ⟨t367,A80,H⟩:=bnd_ H
         try dsimp only at H
         have A8:=ad_ A80;clear A80
         replace H:=dh_ H;rcases H with ⟨H,c9b0⟩|⟨H,c9b0⟩
         ·obtain ⟨t368,A100,H⟩:=bnd_ H
          try dsimp only at H
          have A10:=ad_ A100;clear A100;have H':=ad_ H;clear H
          go_wp2_with (first | ((with_reducible refine gate_callee (f:=96) rfl ?_);refine gl_ 29 Tryz.func96 (pr12_Month.calls k3 x7_2 x8_3 t367 _ A8.out) ?_;rintro e w' ⟨rfl,⟨nd,rfl⟩⟩;refine ⟨_,rfl,?_⟩) | ((with_reducible refine gate_callee (f:=96) rfl ?_);refine gl_ 34 Tryz.func96 (pr12_Month.calls k3 x7_2 x8_3 t368 _ A10.out) ?_;rintro e w' ⟨rfl,⟨nd,rfl⟩⟩;refine ⟨_,rfl,?_⟩))
          go_roundg k3
          case measure=>have:=HJ1.out;have:=HK2.out;have:=HK3.out;omega
          case rel=>exact ⟨(wrap64 (x6_3 - t368)),(wrap64 (x8_3 + 1)),val_,val_,H',⟨by have:=HJ1.out;have:=HK2.out;have:=HK3.out;omega⟩,by repeat (first | exact Drawn0.refl _ | apply Drawn0.step)⟩
         ·simp only [Option.some.injEq,Prod.mk.injEq] at H
          obtain ⟨rfl,rfl,rfl,rfl⟩:=H
          go_wp2_with (first | ((with_reducible refine gate_callee (f:=96) rfl ?_);refine gl_ 29 Tryz.func96 (pr12_Month.calls k3 x7_2 x8_3 t367 _ A8.out) ?_;rintro e w' ⟨rfl,⟨nd,rfl⟩⟩;refine ⟨_,rfl,?_⟩))
          refine bodyPost_ret (results_list (rs:=[.tmp 2,.tmp 3,.tmp 4,.tmp 5]) rfl (by simp) (.tmp (.tmp (.tmp (.tmp .nil))))) rfl ?_
          exact ⟨val_,by repeat (first | exact Drawn0.refl _ | apply Drawn0.step)⟩
def pr20_Weekday.j0:Nat→Int→Bool→Option (Int×Int)
 | 0,_,_=>none
 | k + 1,x0,x10=>if x10=true then (some (0,110)) else (if (Int.tmod x0 7) < 4 then (some (wrap64 ((Int.tmod x0 7) + 3),0)) else (some (wrap64 ((Int.tmod x0 7) - 4),0)))
def pr20_Weekday.f (k:Nat) (a0:Int):Option (Int×Int):=if a0 < 0 then (pr20_Weekday.j0 k a0 true) else (pr20_Weekday.j0 k a0 (decide (a0 > 2932896)))
set_option maxHeartbeats 8000000 in
set_option maxRecDepth 100000 in
theorem pr20_Weekday.calls (k:Nat) (a0 r1 r2:Int) (w:World) (h:pr20_Weekday.f k a0=some (r1,r2)) :
  Calls Tryz.prog 65 #[.int .i64 a0] w fun e w'=>e = .returned (.tuple #[.int .i64 r1,.int .i64 r2])∧Drawn0 w w':=by
 have H:(if a0 < 0 then (pr20_Weekday.j0 k a0 true) else (pr20_Weekday.j0 k a0 (decide (a0 > 2932896))))=some (r1,r2):=h;clear h;have HC2:=Aside0.mk H;clear H
 go_enter Tryz.func65,Tryz.ntmps65
 go_upto_region 1 with (fail)
 go_cut [10] (fun v10 wc=>∃ (kq:Nat) (x10_1:Bool),v10 = .bool x10_1∧Aside0 (pr20_Weekday.j0 kq a0 x10_1=some (r1,r2))∧Aside0 (kq≤k)∧Drawn0 w wc)
 case first =>
  have H:=HC2.out;clear HC2
  replace H:=dc_ H;rcases H with ⟨H,c3b0⟩|⟨H,c3b0⟩
  ·(first | rw [c3b0] | (simp only [i64_w,i32_w];rw [c3b0]) | skip)
   have H':=ad_ H;clear H
   go_wp2
   go_meet
   case rel=>exact ⟨_,(true),val_,H',⟨by first | omega | exact Nat.le_refl _⟩,by repeat (first | exact Drawn0.refl _ | apply Drawn0.step)⟩
  ·(first | rw [c3b0] | (simp only [i64_w,i32_w];rw [c3b0]) | skip)
   have H':=ad_ H;clear H
   go_wp2
   go_meet
   case rel=>exact ⟨_,(decide (a0 > 2932896)),val_,H',⟨by first | omega | exact Nat.le_refl _⟩,by repeat (first | exact Drawn0.refl _ | apply Drawn0.step)⟩
 case rest =>
  clear HC2;obtain ⟨kq,x10_1,rfl,HA,HJ1,⟨mc1,rfl⟩⟩:=hcut
  cases kq with
  | zero=>exact absurd HA.out (by simp [pr20_Weekday.j0])
  | succ kj1 =>
   have H:=HA.out;clear HA
   simp only [pr20_Weekday.j0] at H
   replace H:=db_ H;rcases H with ⟨rfl,H⟩|⟨rfl,H⟩
   ·simp only [Option.some.injEq,Prod.mk.injEq] at H
    obtain ⟨rfl,rfl⟩:=H
    go_wp2
    go_ret2
    exact ⟨val_,by repeat (first | exact Drawn0.refl _ | apply Drawn0.step)⟩
   ·replace H:=dc_ H;rcases H with ⟨H,c5b0⟩|⟨H,c5b0⟩
    ·simp only [Option.some.injEq,Prod.mk.injEq] at H
     obtain ⟨rfl,rfl⟩:=H
     go_wp2
     go_ret2
     exact ⟨val_,by repeat (first | exact Drawn0.refl _ | apply Drawn0.step)⟩
    ·simp only [Option.some.injEq,Prod.mk.injEq] at H
     obtain ⟨rfl,rfl⟩:=H
     go_wp2
     go_ret2
     exact ⟨val_,by repeat (first | exact Drawn0.refl _ | apply Drawn0.step)⟩
def pr21_has.l0:Nat→List Int→Int→Int→Option (Bool)
 | 0,_,_,_=>none
 | k + 1,x0,x1,x5=>if x5 < (x0.length:Int) then (if 0≤x5 then (if (rd x0 x5)=x1 then (some true) else (pr21_has.l0 k x0 x1 (wrap64 (x5 + 1)))) else (none)) else (some false)
def pr21_has.f (k:Nat) (l0:List Int) (a1:Int):Option (Bool):=pr21_has.l0 k l0 a1 0
set_option maxHeartbeats 8000000 in
set_option maxRecDepth 100000 in
theorem pr21_has.calls (k:Nat) (A0:Option Addr) (c0:Nat) (l0:List Int) (a1:Int) (r:Bool) (w:World) (hr0:Kd.C (Kd.int .i64) w A0 l0.length l0) (hc0:l0.length≤c0) (h:pr21_has.f k l0 a1=some r) :
  Calls Tryz.prog 66 #[.slice A0 l0.length c0,.int .i64 a1] w fun e w'=>e = .returned (.bool r)∧Drawn0 w w':=by
 have HR0:=Aside0.mk hr0;have HC0:=Aside0.mk hc0;clear hr0 hc0;have H:(pr21_has.l0 k l0 a1 0)=some r:=h;clear h;have H':=ad_ H;clear H
 go_enter Tryz.func66,Tryz.ntmps66
 go_wp2
 go_loopg [5] k (fun kq v5 w'=>∃ (x5_1:Int),v5 = .int .i64 x5_1∧Aside0 (pr21_has.l0 kq l0 a1 x5_1=some r)∧Aside0 (kq≤k)∧Drawn0 w w')
 case atStart=>exact ⟨(0),val_,H',⟨Nat.le_refl _⟩,by repeat (first | exact Drawn0.refl _ | apply Drawn0.step)⟩
 case round =>
  clear H';obtain ⟨x5_1,rfl,HA,HK1,⟨m1,rfl⟩⟩:=hrel
  cases gk with
  | zero=>exact absurd HA.out (by simp [pr21_has.l0])
  | succ k1 =>
   have H:=HA.out;clear HA
   simp only [pr21_has.l0] at H
   replace H:=dc_ H;rcases H with ⟨H,c3b0⟩|⟨H,c3b0⟩
   ·replace H:=ind_ H;obtain ⟨c4b0,H⟩:=H
    replace H:=de_ H;rcases H with ⟨H,-,c5b0,c5b1⟩|⟨H,c5,c5b0,c5b1⟩
    ·obtain rfl:=Option.some.inj H;have p369:0≤(x5_1:Int):=dec_;have q369:x5_1 < (l0.length:Int):=dec_;obtain ⟨ad369,e369,hx369_0⟩:=Kd.at_int HR0.out x5_1 p369 q369
     cases e369
     replace p369:=eq_true p369;replace q369:=eq_true q369
     go_wp2
     go_ret
     exact ⟨val_,by repeat (first | exact Drawn0.refl _ | apply Drawn0.step)⟩
    ·have H':=ad_ H;clear H;have p369:0≤(x5_1:Int):=dec_;have q369:x5_1 < (l0.length:Int):=dec_;obtain ⟨ad369,e369,hx369_0⟩:=Kd.at_int HR0.out x5_1 p369 q369
     cases e369
     replace p369:=eq_true p369;replace q369:=eq_true q369
     go_wp2
     go_roundg k1
     case measure=>have:=HK1.out;omega
     case rel=>exact ⟨(wrap64 (x5_1 + 1)),val_,H',⟨by have:=HK1.out;omega⟩,by repeat (first | exact Drawn0.refl _ | apply Drawn0.step)⟩
   ·obtain rfl:=Option.some.inj H
    go_wp2
    go_ret
    exact ⟨val_,by repeat (first | exact Drawn0.refl _ | apply Drawn0.step)⟩
def pr21_on.l0:Nat→Int→Int→Int→Int→Int→Int→List Int→List Int→List (S92)→Option (Bool)
 | 0,_,_,_,_,_,_,_,_,_=>none
 | k + 1,x1,x5,y0,y1,y2,y3,y4,y5,y6=>if x5 < (y6.length:Int) then (if 0≤x5 then (if ((rd_T92 y6 x5).f0)=x1 then (some true) else (pr21_on.l0 k x1 (wrap64 (x5 + 1)) y0 y1 y2 y3 y4 y5 y6)) else (none)) else (some false)
def pr21_on.f (k:Nat) (a0_0 a0_1:Int) (a0_2 a0_3:Int) (l0_4 l0_5:List Int) (l0_6:List (S92)) (a1:Int):Option (Bool):=pr21_on.l0 k a1 0 a0_0 a0_1 a0_2 a0_3 l0_4 l0_5 l0_6
set_option maxHeartbeats 8000000 in
set_option maxRecDepth 100000 in
theorem pr21_on.calls (k:Nat) (a0_0 a0_1:Int) (a0_2 a0_3:Int) (A0_4:Option Addr) (c0_4:Nat) (l0_4:List Int) (A0_5:Option Addr) (c0_5:Nat) (l0_5:List Int) (A0_6:Option Addr) (c0_6:Nat) (l0_6:List (S92)) (a1:Int) (r:Bool) (w:World) (hr0_4:Kd.C (Kd.int .i64) w A0_4 l0_4.length l0_4) (hc0_4:l0_4.length≤c0_4) (hr0_5:Kd.C (Kd.int .i64) w A0_5 l0_5.length l0_5) (hc0_5:l0_5.length≤c0_5) (hr0_6:Kd.C k92 w A0_6 l0_6.length l0_6) (hc0_6:l0_6.length≤c0_6) (h:pr21_on.f k a0_0 a0_1 a0_2 a0_3 l0_4 l0_5 l0_6 a1=some r) :
  Calls Tryz.prog 67 #[.agg #[.int .i64 a0_0,.int .i64 a0_1,.int .i64 a0_2,.int .i64 a0_3,.slice A0_4 l0_4.length c0_4,.slice A0_5 l0_5.length c0_5,.slice A0_6 l0_6.length c0_6],.int .i64 a1] w fun e w'=>e = .returned (.bool r)∧Below w.heap.size w w':=by
 have hu34:=Tryz.underlying34;have HR0_4:=Aside0.mk hr0_4;have HC0_4:=Aside0.mk hc0_4;clear hr0_4 hc0_4;have HR0_5:=Aside0.mk hr0_5;have HC0_5:=Aside0.mk hc0_5;clear hr0_5 hc0_5;have HR0_6:=Aside0.mk hr0_6;have HC0_6:=Aside0.mk hc0_6;clear hr0_6 hc0_6;have HB:=ad_ (Below.refl w.heap.size w);have H:(pr21_on.l0 k a1 0 a0_0 a0_1 a0_2 a0_3 l0_4 l0_5 l0_6)=some r:=h;clear h;have H':=ad_ H;clear H
 go_enter Tryz.func67,Tryz.ntmps67
 go_wp2_with (first | ((with_reducible refine gate_dst (N:=2) rfl ?_);refine bx_ 2 34 ?_;intro gb370 hg w3 hbox hb;have BK370:=ad_ (hbox);have GW370:=gw_ w hg;have GE370:=GW370;replace HB:=hbb_ hb;clear hb hbox hg))
 go_loopg [5] k (fun kq v5 w'=>∃ (x5_1:Int),v5 = .int .i64 x5_1∧Aside0 (pr21_on.l0 kq a1 x5_1 a0_0 a0_1 a0_2 a0_3 l0_4 l0_5 l0_6=some r)∧Aside0 (kq≤k)∧Aside0 (w'.heap[gb370]? = some (.cells #[.int .i64 a0_0,.int .i64 a0_1,.int .i64 a0_2,.int .i64 a0_3,(.slice A0_4 l0_4.length c0_4),(.slice A0_5 l0_5.length c0_5),(.slice A0_6 l0_6.length c0_6)] 34 (0,0)))∧Aside0 (Below w.heap.size w w'))
 case atStart=>exact ⟨(0),val_,H',⟨Nat.le_refl _⟩,⟨blo_ BK370.out⟩,⟨belg_⟩⟩
 case round =>
  clear H';obtain ⟨x5_1,rfl,HA,HK1,BK370,HB⟩:=hrel
  cases gk with
  | zero=>exact absurd HA.out (by simp [pr21_on.l0])
  | succ k1 =>
   have H:=HA.out;clear HA
   simp only [pr21_on.l0] at H
   replace H:=dc_ H;rcases H with ⟨H,c4b0⟩|⟨H,c4b0⟩
   ·replace H:=ind_ H;obtain ⟨c5b0,H⟩:=H
    replace H:=de_ H;rcases H with ⟨H,-,c6b0,c6b1⟩|⟨H,c6,c6b0,c6b1⟩
    ·obtain rfl:=Option.some.inj H;have hcz7_:=cells7_ BK370.out;have p371:0≤(x5_1:Int):=dec_;have q371:x5_1 < (l0_6.length:Int):=dec_;obtain ⟨ad371,e371,hx371_0,hx371_1⟩:=at_T92 HR0_6.out x5_1 p371 q371
     cases e371
     replace hx371_0:=(HB.out.cell (World.block_lt_of_cell? w _ hx371_0)).trans hx371_0;replace hx371_1:=(HB.out.cell (World.block_lt_of_cell? w _ hx371_1)).trans hx371_1;replace p371:=eq_true p371;replace q371:=eq_true q371
     go_wp2
     go_ret
     exact ⟨ret_,belg_⟩
    ·have H':=ad_ H;clear H;have hcz8_:=cells7_ BK370.out;have p371:0≤(x5_1:Int):=dec_;have q371:x5_1 < (l0_6.length:Int):=dec_;obtain ⟨ad371,e371,hx371_0,hx371_1⟩:=at_T92 HR0_6.out x5_1 p371 q371
     cases e371
     replace hx371_0:=(HB.out.cell (World.block_lt_of_cell? w _ hx371_0)).trans hx371_0;replace hx371_1:=(HB.out.cell (World.block_lt_of_cell? w _ hx371_1)).trans hx371_1;replace p371:=eq_true p371;replace q371:=eq_true q371
     go_wp2
     go_roundg k1
     case measure=>have:=HK1.out;omega
     case rel=>exact ⟨(wrap64 (x5_1 + 1)),val_,H',⟨by have:=HK1.out;omega⟩,⟨blo_ BK370.out⟩,⟨belg_⟩⟩
   ·obtain rfl:=Option.some.inj H;have hcz9_:=cells7_ BK370.out
    go_wp2
    go_ret
    exact ⟨ret_,belg_⟩
end Go.Proofs.YtkgkblmeafhkfaaGreat.PH

-- Written by a program of the session (wip/tools).
import Derived.Test.YtbeihceeliifeaaGreatDoorPRx0
namespace Go.Proofs.YtbeihceeliifeaaGreatDoor.PR
open Go.RowKit Go.Proofs.YtbeihceeliifeaaGreatDoorW.PrintWords Go.Proofs.YtbeihceeliifeaaGreatDoorW.PrintLast Go.Proofs.YtbeihceeliifeaaGreatDoorW.PrintMore
attribute [local go_sem] max2_int min2_int max_two min_two max_three min_three max_four min_four   -- for this text's walks alone
set_option linter.unusedVariables false
set_option linter.unusedSimpArgs false

/-! ### posthornref12_Year: function 61 -/
def posthornref12_Year.f (a0:Int):Option (Int):=if (Int.tmod a0 400)=0 then (some 366) else (if (Int.tmod a0 4)=0 then (if (Int.tmod a0 100)=0 then (some 365) else (some 366)) else (some 365))
set_option maxHeartbeats 8000000 in
set_option maxRecDepth 100000 in
theorem posthornref12_Year.calls (a0:Int) (r:Int) (w:World) (h:posthornref12_Year.f a0=some r) :
  Calls Tryz.prog 61 #[.int .i64 a0] w fun e w'=>e = .returned (.int .i64 r)∧Drawn0 w w':=by
 have H:(if (Int.tmod a0 400)=0 then (some 366) else (if (Int.tmod a0 4)=0 then (if (Int.tmod a0 100)=0 then (some 365) else (some 366)) else (some 365)))=some r:=h;clear h
 by_cases c2:(Int.tmod a0 400)=0
 ·rw [if_pos c2] at H;have c2b0:((Int.tmod a0 400) == 0)=true:=beq_iff_eq.mpr c2;have c2b1:((Int.tmod a0 400) != 0)=false:=bne_eq_false_iff_eq.mpr c2;clear c2;obtain rfl:=Option.some.inj H
  go_enter Tryz.func61,Tryz.ntmps61
  go_wp2
  go_ret
  exact ⟨val_,by repeat (first | exact Drawn0.refl _ | apply Drawn0.step)⟩
 ·rw [if_neg c2] at H;have c2b0:((Int.tmod a0 400) == 0)=false:=beq_eq_false_iff_ne.mpr c2;have c2b1:((Int.tmod a0 400) != 0)=true:=bne_iff_ne.mpr c2
  by_cases c3:(Int.tmod a0 4)=0
  ·rw [if_pos c3] at H;have c3b0:((Int.tmod a0 4) == 0)=true:=beq_iff_eq.mpr c3;have c3b1:((Int.tmod a0 4) != 0)=false:=bne_eq_false_iff_eq.mpr c3;clear c3
   by_cases c4:(Int.tmod a0 100)=0
   ·rw [if_pos c4] at H;have c4b0:((Int.tmod a0 100) == 0)=true:=beq_iff_eq.mpr c4;have c4b1:((Int.tmod a0 100) != 0)=false:=bne_eq_false_iff_eq.mpr c4;clear c4;obtain rfl:=Option.some.inj H
    go_enter Tryz.func61,Tryz.ntmps61
    go_wp2
    go_ret
    exact ⟨val_,by repeat (first | exact Drawn0.refl _ | apply Drawn0.step)⟩
   ·rw [if_neg c4] at H;have c4b0:((Int.tmod a0 100) == 0)=false:=beq_eq_false_iff_ne.mpr c4;have c4b1:((Int.tmod a0 100) != 0)=true:=bne_iff_ne.mpr c4;obtain rfl:=Option.some.inj H
    go_enter Tryz.func61,Tryz.ntmps61
    go_wp2
    go_ret
    exact ⟨val_,by repeat (first | exact Drawn0.refl _ | apply Drawn0.step)⟩
  ·rw [if_neg c3] at H;have c3b0:((Int.tmod a0 4) == 0)=false:=beq_eq_false_iff_ne.mpr c3;have c3b1:((Int.tmod a0 4) != 0)=true:=bne_iff_ne.mpr c3;obtain rfl:=Option.some.inj H
   go_enter Tryz.func61,Tryz.ntmps61
   go_wp2
   go_ret
   exact ⟨val_,by repeat (first | exact Drawn0.refl _ | apply Drawn0.step)⟩

/-! ### posthornref12_Month: function 62 -/
def posthornref12_Month.j0:Nat→Int→Int→Bool→Option (Int)
 | 0,_,_,_=>none
 | k + 1,x0,x5,x6=>if x6=true then (some 30) else (if x5=2 then ((posthornref12_Year.f x0).bind fun t231=>(some (wrap64 (t231 - 337)))) else (some 31))
def posthornref12_Month.f (k:Nat) (a0:Int) (a1:Int):Option (Int):=if a1=4 then (posthornref12_Month.j0 k a0 a1 (a1 == 4)) else (if a1=6 then (posthornref12_Month.j0 k a0 a1 (a1 == 6)) else (if a1=9 then (posthornref12_Month.j0 k a0 a1 (a1 == 9)) else (posthornref12_Month.j0 k a0 a1 (a1 == 11))))
set_option maxHeartbeats 8000000 in
set_option maxRecDepth 100000 in
theorem posthornref12_Month.calls (k:Nat) (a0:Int) (a1:Int) (r:Int) (w:World) (h:posthornref12_Month.f k a0 a1=some r) :
  Calls Tryz.prog 62 #[.int .i64 a0,.int .i64 a1] w fun e w'=>e = .returned (.int .i64 r)∧Drawn0 w w':=by
 have H:(if a1=4 then (posthornref12_Month.j0 k a0 a1 (a1 == 4)) else (if a1=6 then (posthornref12_Month.j0 k a0 a1 (a1 == 6)) else (if a1=9 then (posthornref12_Month.j0 k a0 a1 (a1 == 9)) else (posthornref12_Month.j0 k a0 a1 (a1 == 11)))))=some r:=h;clear h;have HC3:=Aside0.mk H;clear H
 go_enter Tryz.func62,Tryz.ntmps62
 go_upto_if 6 with (fail)
 go_cut [6] (fun v6 wc=>∃ (kq:Nat) (x6_2:Bool),v6 = .bool x6_2∧Aside0 (posthornref12_Month.j0 kq a0 a1 x6_2=some r)∧Aside0 (kq≤k)∧Drawn0 w wc)
 case first =>
  have H:=HC3.out;clear HC3
  by_cases c4:a1=4
  ·rw [if_pos c4] at H;have c4b0:(a1 == 4)=true:=beq_iff_eq.mpr c4;have c4b1:(a1 != 4)=false:=bne_eq_false_iff_eq.mpr c4;clear c4
   (first | rw [c4b0] | (simp only [i64_w,i32_w];rw [c4b0]) | skip)
   have H':=ad_ H;clear H
   go_wp2
   go_meet
   case rel=>exact ⟨_,((a1 == 4)),val_,H',⟨by first | omega | exact Nat.le_refl _⟩,by repeat (first | exact Drawn0.refl _ | apply Drawn0.step)⟩
  ·rw [if_neg c4] at H;have c4b0:(a1 == 4)=false:=beq_eq_false_iff_ne.mpr c4;have c4b1:(a1 != 4)=true:=bne_iff_ne.mpr c4
   (first | rw [c4b0] | (simp only [i64_w,i32_w];rw [c4b0]) | skip)
   by_cases c5:a1=6
   ·rw [if_pos c5] at H;have c5b0:(a1 == 6)=true:=beq_iff_eq.mpr c5;have c5b1:(a1 != 6)=false:=bne_eq_false_iff_eq.mpr c5;clear c5;have H':=ad_ H;clear H
    go_wp2
    go_meet
    case rel=>exact ⟨_,((a1 == 6)),val_,H',⟨by first | omega | exact Nat.le_refl _⟩,by repeat (first | exact Drawn0.refl _ | apply Drawn0.step)⟩
   ·rw [if_neg c5] at H;have c5b0:(a1 == 6)=false:=beq_eq_false_iff_ne.mpr c5;have c5b1:(a1 != 6)=true:=bne_iff_ne.mpr c5
    by_cases c6:a1=9
    ·rw [if_pos c6] at H;have c6b0:(a1 == 9)=true:=beq_iff_eq.mpr c6;have c6b1:(a1 != 9)=false:=bne_eq_false_iff_eq.mpr c6;clear c6;have H':=ad_ H;clear H
     go_wp2
     go_meet
     case rel=>exact ⟨_,((a1 == 9)),val_,H',⟨by first | omega | exact Nat.le_refl _⟩,by repeat (first | exact Drawn0.refl _ | apply Drawn0.step)⟩
    ·rw [if_neg c6] at H;have c6b0:(a1 == 9)=false:=beq_eq_false_iff_ne.mpr c6;have c6b1:(a1 != 9)=true:=bne_iff_ne.mpr c6;have H':=ad_ H;clear H
     go_wp2
     go_meet
     case rel=>exact ⟨_,((a1 == 11)),val_,H',⟨by first | omega | exact Nat.le_refl _⟩,by repeat (first | exact Drawn0.refl _ | apply Drawn0.step)⟩
 case rest =>
  clear HC3;(try clear p2);(try clear c4);(try clear c4b0);(try clear c4b1);(try clear c5);(try clear c5b0);(try clear c5b1);(try clear c6);(try clear c6b0);(try clear c6b1);obtain ⟨kq,x6_2,rfl,HA,HJ2,⟨mc2,rfl⟩⟩:=hcut
  cases kq with
  | zero=>exact absurd HA.out (by simp [posthornref12_Month.j0])
  | succ kj2 =>
   have H:=HA.out;clear HA
   simp only [posthornref12_Month.j0] at H
   by_cases c7:x6_2=true
   ·subst c7;replace H:=ifp_ H;obtain rfl:=Option.some.inj H
    go_wp2
    go_ret
    exact ⟨val_,by repeat (first | exact Drawn0.refl _ | apply Drawn0.step)⟩
   ·replace c7:=Bool.eq_false_iff.mpr c7;subst c7;replace H:=ifn_ H
    by_cases c8:a1=2
    ·rw [if_pos c8] at H;have c8b0:(a1 == 2)=true:=beq_iff_eq.mpr c8;have c8b1:(a1 != 2)=false:=bne_eq_false_iff_eq.mpr c8;clear c8;obtain ⟨t231,A90,H⟩:=bnd_ H
     try dsimp only at H
     have A9:=ad_ A90;clear A90;obtain rfl:=Option.some.inj H
     go_wp2_with (first | ((with_reducible refine gate_callee (f:=61) rfl ?_);refine goesL_ (some 14) rfl rfl Tryz.func61 (by kernel_rfl) rfl #[.int .i64 a0] rfl arg_ ?_;(with_reducible refine (posthornref12_Year.calls a0 t231 _ A9.out).mono ?_);rintro e w' ⟨rfl,⟨nd,rfl⟩⟩;refine ⟨_,rfl,?_⟩))
     go_ret
     exact ⟨val_,by repeat (first | exact Drawn0.refl _ | apply Drawn0.step)⟩
    ·rw [if_neg c8] at H;have c8b0:(a1 == 2)=false:=beq_eq_false_iff_ne.mpr c8;have c8b1:(a1 != 2)=true:=bne_iff_ne.mpr c8;obtain rfl:=Option.some.inj H
     go_wp2
     go_ret
     exact ⟨val_,by repeat (first | exact Drawn0.refl _ | apply Drawn0.step)⟩

/-! ### posthornref12_Civil: function 41 -/
mutual
def posthornref12_Civil.j0:Nat→Int→Bool→Option (Int×Int×Int×Int)
 | 0,_,_=>none
 | k + 1,x0,x14=>if x14=true then (some (0,0,0,110)) else (posthornref12_Civil.l0 k x0 1970 1)
def posthornref12_Civil.l0:Nat→Int→Int→Int→Option (Int×Int×Int×Int)
 | 0,_,_,_=>none
 | k + 1,x6,x7,x8=>(posthornref12_Year.f x7).bind fun t232=>(if x6 ≥ t232 then ((posthornref12_Year.f x7).bind fun t233=>(posthornref12_Civil.l0 k (wrap64 (x6 - t233)) (wrap64 (x7 + 1)) x8)) else (posthornref12_Civil.l1 k x6 x7 x8))
def posthornref12_Civil.l1:Nat→Int→Int→Int→Option (Int×Int×Int×Int)
 | 0,_,_,_=>none
 | k + 1,x6,x7,x8=>(posthornref12_Month.f k x7 x8).bind fun t234=>(if x6 ≥ t234 then ((posthornref12_Month.f k x7 x8).bind fun t235=>(posthornref12_Civil.l1 k (wrap64 (x6 - t235)) x7 (wrap64 (x8 + 1)))) else (some (x7,x8,wrap64 (x6 + 1),0)))
end
def posthornref12_Civil.f (k:Nat) (a0:Int):Option (Int×Int×Int×Int):=if a0 < 0 then (posthornref12_Civil.j0 k a0 true) else (posthornref12_Civil.j0 k a0 (decide (a0 > 2932896)))
set_option maxHeartbeats 8000000 in
set_option maxRecDepth 100000 in
theorem posthornref12_Civil.calls (k:Nat) (a0:Int) (r1:Int) (r2:Int) (r3:Int) (r4:Int) (w:World) (h:posthornref12_Civil.f k a0=some (r1,r2,r3,r4)) :
  Calls Tryz.prog 41 #[.int .i64 a0] w fun e w'=>e = .returned (.tuple #[.int .i64 r1,.int .i64 r2,.int .i64 r3,.int .i64 r4])∧Drawn0 w w':=by
 have H:(if a0 < 0 then (posthornref12_Civil.j0 k a0 true) else (posthornref12_Civil.j0 k a0 (decide (a0 > 2932896))))=some (r1,r2,r3,r4):=h;clear h;have HC2:=Aside0.mk H;clear H
 go_enter Tryz.func41,Tryz.ntmps41
 go_upto_region 1 with (fail)
 go_cut [14] (fun v14 wc=>∃ (kq:Nat) (x14_1:Bool),v14 = .bool x14_1∧Aside0 (posthornref12_Civil.j0 kq a0 x14_1=some (r1,r2,r3,r4))∧Aside0 (kq≤k)∧Drawn0 w wc)
 case first =>
  have H:=HC2.out;clear HC2
  by_cases c3:a0 < 0
  ·rw [if_pos c3] at H;have c3b0:decide (a0 < 0)=true:=decide_eq_true c3;clear c3
   (first | rw [c3b0] | (simp only [i64_w,i32_w];rw [c3b0]) | skip)
   have H':=ad_ H;clear H
   go_wp2
   go_meet
   case rel=>exact ⟨_,(true),val_,H',⟨by first | omega | exact Nat.le_refl _⟩,by repeat (first | exact Drawn0.refl _ | apply Drawn0.step)⟩
  ·rw [if_neg c3] at H;have c3b0:decide (a0 < 0)=false:=decide_eq_false c3;clear c3
   (first | rw [c3b0] | (simp only [i64_w,i32_w];rw [c3b0]) | skip)
   have H':=ad_ H;clear H
   go_wp2
   go_meet
   case rel=>exact ⟨_,(decide (a0 > 2932896)),val_,H',⟨by first | omega | exact Nat.le_refl _⟩,by repeat (first | exact Drawn0.refl _ | apply Drawn0.step)⟩
 case rest =>
  clear HC2;(try clear p2);(try clear c3);(try clear c3b0);obtain ⟨kq,x14_1,rfl,HA,HJ1,⟨mc1,rfl⟩⟩:=hcut
  cases kq with
  | zero=>exact absurd HA.out (by simp [posthornref12_Civil.j0])
  | succ kj1 =>
   have H:=HA.out;clear HA
   simp only [posthornref12_Civil.j0] at H
   by_cases c4:x14_1=true
   ·subst c4;replace H:=ifp_ H
    simp only [Option.some.injEq,Prod.mk.injEq] at H
    obtain ⟨rfl,rfl,rfl,rfl⟩:=H
    go_wp2
    refine bodyPost_ret (results_list (rs:=[.tmp 2,.tmp 3,.tmp 4,.tmp 5]) rfl (by simp) (.tmp (.tmp (.tmp (.tmp .nil))))) rfl ?_
    exact ⟨val_,by repeat (first | exact Drawn0.refl _ | apply Drawn0.step)⟩
   ·replace c4:=Bool.eq_false_iff.mpr c4;subst c4;replace H:=ifn_ H;have H':=ad_ H;clear H
    go_wp2
    go_loopg [6,7] kj1 (fun kq v6 v7 w'=>∃ (x6_2:Int) (x7_2:Int),v6 = .int .i64 x6_2∧v7 = .int .i64 x7_2∧Aside0 (posthornref12_Civil.l0 kq x6_2 x7_2 1=some (r1,r2,r3,r4))∧Aside0 (kq≤kj1)∧Drawn0 w w')
    case atStart=>exact ⟨(a0),(1970),val_,val_,H',⟨Nat.le_refl _⟩,by repeat (first | exact Drawn0.refl _ | apply Drawn0.step)⟩
    case round =>
     clear H';(try clear c1);(try clear p2);(try clear c3);(try clear c3b0);(try clear c4);(try clear p2);obtain ⟨x6_2,x7_2,rfl,rfl,HA,HK2,⟨m2,rfl⟩⟩:=hrel
     cases gk with
     | zero=>exact absurd HA.out (by simp [posthornref12_Civil.l0])
     | succ k2 =>
      have H:=HA.out;clear HA
      simp only [posthornref12_Civil.l0] at H
      obtain ⟨t232,A50,H⟩:=bnd_ H
      try dsimp only at H
      have A5:=ad_ A50;clear A50
      by_cases c6:x6_2 ≥ t232
      ·rw [if_pos c6] at H;have c6b0:decide (t232≤x6_2)=true:=decide_eq_true c6;clear c6;obtain ⟨t233,A70,H⟩:=bnd_ H
       try dsimp only at H
       have A7:=ad_ A70;clear A70;have H':=ad_ H;clear H
       go_wp2_with (first | ((with_reducible refine gate_callee (f:=61) rfl ?_);refine goesL_ (some 18) rfl rfl Tryz.func61 (by kernel_rfl) rfl #[.int .i64 x7_2] rfl arg_ ?_;(with_reducible refine (posthornref12_Year.calls x7_2 t232 _ A5.out).mono ?_);rintro e w' ⟨rfl,⟨nd,rfl⟩⟩;refine ⟨_,rfl,?_⟩) | ((with_reducible refine gate_callee (f:=61) rfl ?_);refine goesL_ (some 22) rfl rfl Tryz.func61 (by kernel_rfl) rfl #[.int .i64 x7_2] rfl arg_ ?_;(with_reducible refine (posthornref12_Year.calls x7_2 t233 _ A7.out).mono ?_);rintro e w' ⟨rfl,⟨nd,rfl⟩⟩;refine ⟨_,rfl,?_⟩))
       go_roundg k2
       case measure=>have:=HJ1.out;have:=HK2.out;omega
       case rel=>exact ⟨(wrap64 (x6_2 - t233)),(wrap64 (x7_2 + 1)),val_,val_,H',⟨by have:=HJ1.out;have:=HK2.out;omega⟩,by repeat (first | exact Drawn0.refl _ | apply Drawn0.step)⟩
      ·rw [if_neg c6] at H;have c6b0:decide (t232≤x6_2)=false:=decide_eq_false c6;clear c6;have H':=ad_ H;clear H
       go_wp2_with (first | ((with_reducible refine gate_callee (f:=61) rfl ?_);refine goesL_ (some 18) rfl rfl Tryz.func61 (by kernel_rfl) rfl #[.int .i64 x7_2] rfl arg_ ?_;(with_reducible refine (posthornref12_Year.calls x7_2 t232 _ A5.out).mono ?_);rintro e w' ⟨rfl,⟨nd,rfl⟩⟩;refine ⟨_,rfl,?_⟩))
       go_loopg [6,8] k2 (fun kq v6 v8 w'=>∃ (x6_3:Int) (x8_3:Int),v6 = .int .i64 x6_3∧v8 = .int .i64 x8_3∧Aside0 (posthornref12_Civil.l1 kq x6_3 x7_2 x8_3=some (r1,r2,r3,r4))∧Aside0 (kq≤k2)∧Drawn0 w w')
       case atStart=>exact ⟨(x6_2),(1),val_,val_,H',⟨Nat.le_refl _⟩,by repeat (first | exact Drawn0.refl _ | apply Drawn0.step)⟩
       case round =>
        clear H';(try clear c1);(try clear p2);(try clear c3);(try clear c3b0);(try clear c4);(try clear c6);(try clear c6b0);(try clear p6);(try clear p2);obtain ⟨x6_3,x8_3,rfl,rfl,HA,HK3,⟨m3,rfl⟩⟩:=hrel
        cases gk with
        | zero=>exact absurd HA.out (by simp [posthornref12_Civil.l1])
        | succ k3 =>
         have H:=HA.out;clear HA
         simp only [posthornref12_Civil.l1] at H
         obtain ⟨t234,A80,H⟩:=bnd_ H
         try dsimp only at H
         have A8:=ad_ A80;clear A80
         by_cases c9:x6_3 ≥ t234
         ·rw [if_pos c9] at H;have c9b0:decide (t234≤x6_3)=true:=decide_eq_true c9;clear c9;obtain ⟨t235,A100,H⟩:=bnd_ H
          try dsimp only at H
          have A10:=ad_ A100;clear A100;have H':=ad_ H;clear H
          go_wp2_with (first | ((with_reducible refine gate_callee (f:=62) rfl ?_);refine goesL_ (some 29) rfl rfl Tryz.func62 (by kernel_rfl) rfl #[.int .i64 x7_2,.int .i64 x8_3] rfl arg_ ?_;(with_reducible refine (posthornref12_Month.calls k3 x7_2 x8_3 t234 _ A8.out).mono ?_);rintro e w' ⟨rfl,⟨nd,rfl⟩⟩;refine ⟨_,rfl,?_⟩) | ((with_reducible refine gate_callee (f:=62) rfl ?_);refine goesL_ (some 34) rfl rfl Tryz.func62 (by kernel_rfl) rfl #[.int .i64 x7_2,.int .i64 x8_3] rfl arg_ ?_;(with_reducible refine (posthornref12_Month.calls k3 x7_2 x8_3 t235 _ A10.out).mono ?_);rintro e w' ⟨rfl,⟨nd,rfl⟩⟩;refine ⟨_,rfl,?_⟩))
          go_roundg k3
          case measure=>have:=HJ1.out;have:=HK2.out;have:=HK3.out;omega
          case rel=>exact ⟨(wrap64 (x6_3 - t235)),(wrap64 (x8_3 + 1)),val_,val_,H',⟨by have:=HJ1.out;have:=HK2.out;have:=HK3.out;omega⟩,by repeat (first | exact Drawn0.refl _ | apply Drawn0.step)⟩
         ·rw [if_neg c9] at H;have c9b0:decide (t234≤x6_3)=false:=decide_eq_false c9;clear c9
          simp only [Option.some.injEq,Prod.mk.injEq] at H
          obtain ⟨rfl,rfl,rfl,rfl⟩:=H
          go_wp2_with (first | ((with_reducible refine gate_callee (f:=62) rfl ?_);refine goesL_ (some 29) rfl rfl Tryz.func62 (by kernel_rfl) rfl #[.int .i64 x7_2,.int .i64 x8_3] rfl arg_ ?_;(with_reducible refine (posthornref12_Month.calls k3 x7_2 x8_3 t234 _ A8.out).mono ?_);rintro e w' ⟨rfl,⟨nd,rfl⟩⟩;refine ⟨_,rfl,?_⟩))
          refine bodyPost_ret (results_list (rs:=[.tmp 2,.tmp 3,.tmp 4,.tmp 5]) rfl (by simp) (.tmp (.tmp (.tmp (.tmp .nil))))) rfl ?_
          exact ⟨val_,by repeat (first | exact Drawn0.refl _ | apply Drawn0.step)⟩

/-! ### posthornref20_Weekday: function 42 -/
def posthornref20_Weekday.j0:Nat→Int→Bool→Option (Int×Int)
 | 0,_,_=>none
 | k + 1,x0,x10=>if x10=true then (some (0,110)) else (if (Int.tmod x0 7) < 4 then (some (wrap64 ((Int.tmod x0 7) + 3),0)) else (some (wrap64 ((Int.tmod x0 7) - 4),0)))
def posthornref20_Weekday.f (k:Nat) (a0:Int):Option (Int×Int):=if a0 < 0 then (posthornref20_Weekday.j0 k a0 true) else (posthornref20_Weekday.j0 k a0 (decide (a0 > 2932896)))
set_option maxHeartbeats 8000000 in
set_option maxRecDepth 100000 in
theorem posthornref20_Weekday.calls (k:Nat) (a0:Int) (r1:Int) (r2:Int) (w:World) (h:posthornref20_Weekday.f k a0=some (r1,r2)) :
  Calls Tryz.prog 42 #[.int .i64 a0] w fun e w'=>e = .returned (.tuple #[.int .i64 r1,.int .i64 r2])∧Drawn0 w w':=by
 have H:(if a0 < 0 then (posthornref20_Weekday.j0 k a0 true) else (posthornref20_Weekday.j0 k a0 (decide (a0 > 2932896))))=some (r1,r2):=h;clear h;have HC2:=Aside0.mk H;clear H
 go_enter Tryz.func42,Tryz.ntmps42
 go_upto_region 1 with (fail)
 go_cut [10] (fun v10 wc=>∃ (kq:Nat) (x10_1:Bool),v10 = .bool x10_1∧Aside0 (posthornref20_Weekday.j0 kq a0 x10_1=some (r1,r2))∧Aside0 (kq≤k)∧Drawn0 w wc)
 case first =>
  have H:=HC2.out;clear HC2
  by_cases c3:a0 < 0
  ·rw [if_pos c3] at H;have c3b0:decide (a0 < 0)=true:=decide_eq_true c3;clear c3
   (first | rw [c3b0] | (simp only [i64_w,i32_w];rw [c3b0]) | skip)
   have H':=ad_ H;clear H
   go_wp2
   go_meet
   case rel=>exact ⟨_,(true),val_,H',⟨by first | omega | exact Nat.le_refl _⟩,by repeat (first | exact Drawn0.refl _ | apply Drawn0.step)⟩
  ·rw [if_neg c3] at H;have c3b0:decide (a0 < 0)=false:=decide_eq_false c3;clear c3
   (first | rw [c3b0] | (simp only [i64_w,i32_w];rw [c3b0]) | skip)
   have H':=ad_ H;clear H
   go_wp2
   go_meet
   case rel=>exact ⟨_,(decide (a0 > 2932896)),val_,H',⟨by first | omega | exact Nat.le_refl _⟩,by repeat (first | exact Drawn0.refl _ | apply Drawn0.step)⟩
 case rest =>
  clear HC2;(try clear p2);(try clear c3);(try clear c3b0);obtain ⟨kq,x10_1,rfl,HA,HJ1,⟨mc1,rfl⟩⟩:=hcut
  cases kq with
  | zero=>exact absurd HA.out (by simp [posthornref20_Weekday.j0])
  | succ kj1 =>
   have H:=HA.out;clear HA
   simp only [posthornref20_Weekday.j0] at H
   by_cases c4:x10_1=true
   ·subst c4;replace H:=ifp_ H
    simp only [Option.some.injEq,Prod.mk.injEq] at H
    obtain ⟨rfl,rfl⟩:=H
    go_wp2
    go_ret2
    exact ⟨val_,by repeat (first | exact Drawn0.refl _ | apply Drawn0.step)⟩
   ·replace c4:=Bool.eq_false_iff.mpr c4;subst c4;replace H:=ifn_ H
    by_cases c5:(Int.tmod a0 7) < 4
    ·rw [if_pos c5] at H;have c5b0:decide ((Int.tmod a0 7) < 4)=true:=decide_eq_true c5;clear c5
     simp only [Option.some.injEq,Prod.mk.injEq] at H
     obtain ⟨rfl,rfl⟩:=H
     go_wp2
     go_ret2
     exact ⟨val_,by repeat (first | exact Drawn0.refl _ | apply Drawn0.step)⟩
    ·rw [if_neg c5] at H;have c5b0:decide ((Int.tmod a0 7) < 4)=false:=decide_eq_false c5;clear c5
     simp only [Option.some.injEq,Prod.mk.injEq] at H
     obtain ⟨rfl,rfl⟩:=H
     go_wp2
     go_ret2
     exact ⟨val_,by repeat (first | exact Drawn0.refl _ | apply Drawn0.step)⟩

/-! ### posthornref21_has: function 43 -/
def posthornref21_has.l0:Nat→List Int→Int→Int→Option (Bool)
 | 0,_,_,_=>none
 | k + 1,x0,x1,x5=>if x5 < (x0.length:Int) then (if 0≤x5 then (if (rd x0 x5)=x1 then (some true) else (posthornref21_has.l0 k x0 x1 (wrap64 (x5 + 1)))) else (none)) else (some false)
def posthornref21_has.f (k:Nat) (l0:List Int) (a1:Int):Option (Bool):=posthornref21_has.l0 k l0 a1 0
set_option maxHeartbeats 8000000 in
set_option maxRecDepth 100000 in
theorem posthornref21_has.calls (k:Nat) (A0:Option Addr) (c0:Nat) (l0:List Int) (a1:Int) (r:Bool) (w:World) (hr0:Kd.C (Kd.int .i64) w A0 l0.length l0) (hc0:l0.length≤c0) (h:posthornref21_has.f k l0 a1=some r) :
  Calls Tryz.prog 43 #[.slice A0 l0.length c0,.int .i64 a1] w fun e w'=>e = .returned (.bool r)∧Drawn0 w w':=by
 have HR0:=Aside0.mk hr0;have HC0:=Aside0.mk hc0;clear hr0 hc0;have H:(posthornref21_has.l0 k l0 a1 0)=some r:=h;clear h;have H':=ad_ H;clear H
 go_enter Tryz.func43,Tryz.ntmps43
 go_wp2
 go_loopg [5] k (fun kq v5 w'=>∃ (x5_1:Int),v5 = .int .i64 x5_1∧Aside0 (posthornref21_has.l0 kq l0 a1 x5_1=some r)∧Aside0 (kq≤k)∧Drawn0 w w')
 case atStart=>exact ⟨(0),val_,H',⟨Nat.le_refl _⟩,by repeat (first | exact Drawn0.refl _ | apply Drawn0.step)⟩
 case round =>
  clear H';(try clear p2);obtain ⟨x5_1,rfl,HA,HK1,⟨m1,rfl⟩⟩:=hrel
  cases gk with
  | zero=>exact absurd HA.out (by simp [posthornref21_has.l0])
  | succ k1 =>
   have H:=HA.out;clear HA
   simp only [posthornref21_has.l0] at H
   by_cases c3:x5_1 < (l0.length:Int)
   ·rw [if_pos c3] at H;have c3b0:decide (x5_1 < (l0.length:Int))=true:=decide_eq_true c3;clear c3
    by_cases c4:0≤x5_1
    ·rw [if_pos c4] at H;have c4b0:decide (0≤x5_1)=true:=decide_eq_true c4;clear c4
     by_cases c5:(rd l0 x5_1)=a1
     ·rw [if_pos c5] at H;have c5b0:((rd l0 x5_1) == a1)=true:=beq_iff_eq.mpr c5;have c5b1:((rd l0 x5_1) != a1)=false:=bne_eq_false_iff_eq.mpr c5;clear c5;obtain rfl:=Option.some.inj H;have p236:0≤(x5_1:Int):=dec_;have q236:x5_1 < (l0.length:Int):=dec_;obtain ⟨ad236,e236,hx236_0⟩:=Kd.at_int HR0.out x5_1 p236 q236
      cases e236
      replace p236:=eq_true p236;replace q236:=eq_true q236
      go_wp2
      go_ret
      exact ⟨val_,by repeat (first | exact Drawn0.refl _ | apply Drawn0.step)⟩
     ·rw [if_neg c5] at H;have c5b0:((rd l0 x5_1) == a1)=false:=beq_eq_false_iff_ne.mpr c5;have c5b1:((rd l0 x5_1) != a1)=true:=bne_iff_ne.mpr c5;have H':=ad_ H;clear H;have p236:0≤(x5_1:Int):=dec_;have q236:x5_1 < (l0.length:Int):=dec_;obtain ⟨ad236,e236,hx236_0⟩:=Kd.at_int HR0.out x5_1 p236 q236
      cases e236
      replace p236:=eq_true p236;replace q236:=eq_true q236
      go_wp2
      go_roundg k1
      case measure=>have:=HK1.out;omega
      case rel=>exact ⟨(wrap64 (x5_1 + 1)),val_,H',⟨by have:=HK1.out;omega⟩,by repeat (first | exact Drawn0.refl _ | apply Drawn0.step)⟩
    ·rw [if_neg c4] at H;exact absurd H (by simp)
   ·rw [if_neg c3] at H;have c3b0:decide (x5_1 < (l0.length:Int))=false:=decide_eq_false c3;clear c3;obtain rfl:=Option.some.inj H
    go_wp2
    go_ret
    exact ⟨val_,by repeat (first | exact Drawn0.refl _ | apply Drawn0.step)⟩

/-! ### posthornref21_on: function 44 -/
def posthornref21_on.l0:Nat→Int→Int→Int→Int→Int→Int→List Int→List Int→List (S54)→Option (Bool)
 | 0,_,_,_,_,_,_,_,_,_=>none
 | k + 1,x1,x5,x238000,x238001,x238002,x238003,x238004,x238005,x238006=>if x5 < (x238006.length:Int) then (if 0≤x5 then (if ((rd_T54 x238006 x5).f0)=x1 then (some true) else (posthornref21_on.l0 k x1 (wrap64 (x5 + 1)) x238000 x238001 x238002 x238003 x238004 x238005 x238006)) else (none)) else (some false)
def posthornref21_on.f (k:Nat) (a0_0:Int) (a0_1:Int) (a0_2:Int) (a0_3:Int) (l0_4:List Int) (l0_5:List Int) (l0_6:List (S54)) (a1:Int):Option (Bool):=posthornref21_on.l0 k a1 0 a0_0 a0_1 a0_2 a0_3 l0_4 l0_5 l0_6
set_option maxHeartbeats 8000000 in
set_option maxRecDepth 100000 in
theorem posthornref21_on.calls (k:Nat) (a0_0:Int) (a0_1:Int) (a0_2:Int) (a0_3:Int) (A0_4:Option Addr) (c0_4:Nat) (l0_4:List Int) (A0_5:Option Addr) (c0_5:Nat) (l0_5:List Int) (A0_6:Option Addr) (c0_6:Nat) (l0_6:List (S54)) (a1:Int) (r:Bool) (w:World) (hr0_4:Kd.C (Kd.int .i64) w A0_4 l0_4.length l0_4) (hc0_4:l0_4.length≤c0_4) (hr0_5:Kd.C (Kd.int .i64) w A0_5 l0_5.length l0_5) (hc0_5:l0_5.length≤c0_5) (hr0_6:Kd.C k54 w A0_6 l0_6.length l0_6) (hc0_6:l0_6.length≤c0_6) (h:posthornref21_on.f k a0_0 a0_1 a0_2 a0_3 l0_4 l0_5 l0_6 a1=some r) :
  Calls Tryz.prog 44 #[.agg #[.int .i64 a0_0,.int .i64 a0_1,.int .i64 a0_2,.int .i64 a0_3,.slice A0_4 l0_4.length c0_4,.slice A0_5 l0_5.length c0_5,.slice A0_6 l0_6.length c0_6],.int .i64 a1] w fun e w'=>e = .returned (.bool r)∧Below w.heap.size w w':=by
 have hu34:=Tryz.underlying34;have HR0_4:=Aside0.mk hr0_4;have HC0_4:=Aside0.mk hc0_4;clear hr0_4 hc0_4;have HR0_5:=Aside0.mk hr0_5;have HC0_5:=Aside0.mk hc0_5;clear hr0_5 hc0_5;have HR0_6:=Aside0.mk hr0_6;have HC0_6:=Aside0.mk hc0_6;clear hr0_6 hc0_6;have HB:=ad_ (Below.refl w.heap.size w);have H:(posthornref21_on.l0 k a1 0 a0_0 a0_1 a0_2 a0_3 l0_4 l0_5 l0_6)=some r:=h;clear h;have H':=ad_ H;clear H
 go_enter Tryz.func44,Tryz.ntmps44
 go_wp2_with (first | ((with_reducible refine gate_dst (N:=2) rfl ?_);refine box_event ?hg (N:=2) ?hd (cs:=#[.int .i64 a0_0,.int .i64 a0_1,.int .i64 a0_2,.int .i64 a0_3,.slice A0_4 l0_4.length c0_4,.slice A0_5 l0_5.length c0_5,.slice A0_6 l0_6.length c0_6]) (t:=34) ?hr ?_;(case hd=>rfl);(case hg=>rfl);(case hr=>first | (go_simp;done) | (go_simp;rfl));intro gb237 hg w3 hbox hb;have BK237:=ad_ (hbox);have GW237:=ad_ ((by rw [hg];exact (below_size bel_):w.heap.size≤gb237));have GE237:=ad_ ((by rw [hg];exact (below_size bel_):w.heap.size≤gb237));replace HB:=hbb_ hb;clear hb hbox hg))
 go_loopg [5] k (fun kq v5 w'=>∃ (x5_1:Int),v5 = .int .i64 x5_1∧Aside0 (posthornref21_on.l0 kq a1 x5_1 a0_0 a0_1 a0_2 a0_3 l0_4 l0_5 l0_6=some r)∧Aside0 (kq≤k)∧Aside0 (w'.heap[gb237]? = some (.cells #[.int .i64 a0_0,.int .i64 a0_1,.int .i64 a0_2,.int .i64 a0_3,(.slice A0_4 l0_4.length c0_4),(.slice A0_5 l0_5.length c0_5),(.slice A0_6 l0_6.length c0_6)] 34 (0,0)))∧Aside0 (Below w.heap.size w w'))
 case atStart=>exact ⟨(0),val_,H',⟨Nat.le_refl _⟩,⟨blo_ BK237.out⟩,⟨belg_⟩⟩
 case round =>
  clear H';(try clear p2);obtain ⟨x5_1,rfl,HA,HK1,BK237,HB⟩:=hrel
  cases gk with
  | zero=>exact absurd HA.out (by simp [posthornref21_on.l0])
  | succ k1 =>
   have H:=HA.out;clear HA
   simp only [posthornref21_on.l0] at H
   by_cases c4:x5_1 < (l0_6.length:Int)
   ·rw [if_pos c4] at H;have c4b0:decide (x5_1 < (l0_6.length:Int))=true:=decide_eq_true c4;clear c4
    by_cases c5:0≤x5_1
    ·rw [if_pos c5] at H;have c5b0:decide (0≤x5_1)=true:=decide_eq_true c5;clear c5
     by_cases c6:((rd_T54 l0_6 x5_1).f0)=a1
     ·rw [if_pos c6] at H;have c6b0:(((rd_T54 l0_6 x5_1).f0) == a1)=true:=beq_iff_eq.mpr c6;have c6b1:(((rd_T54 l0_6 x5_1).f0) != a1)=false:=bne_eq_false_iff_eq.mpr c6;clear c6;obtain rfl:=Option.some.inj H;have hcz7_:=cells7_ BK237.out;have p238:0≤(x5_1:Int):=dec_;have q238:x5_1 < (l0_6.length:Int):=dec_;obtain ⟨ad238,e238,hx238_0,hx238_1⟩:=at_T54 HR0_6.out x5_1 p238 q238
      cases e238
      replace hx238_0:=(HB.out.cell (World.block_lt_of_cell? w _ hx238_0)).trans hx238_0;replace hx238_1:=(HB.out.cell (World.block_lt_of_cell? w _ hx238_1)).trans hx238_1;replace p238:=eq_true p238;replace q238:=eq_true q238
      go_wp2
      go_ret
      exact ⟨ret_,belg_⟩
     ·rw [if_neg c6] at H;have c6b0:(((rd_T54 l0_6 x5_1).f0) == a1)=false:=beq_eq_false_iff_ne.mpr c6;have c6b1:(((rd_T54 l0_6 x5_1).f0) != a1)=true:=bne_iff_ne.mpr c6;have H':=ad_ H;clear H;have hcz8_:=cells7_ BK237.out;have p238:0≤(x5_1:Int):=dec_;have q238:x5_1 < (l0_6.length:Int):=dec_;obtain ⟨ad238,e238,hx238_0,hx238_1⟩:=at_T54 HR0_6.out x5_1 p238 q238
      cases e238
      replace hx238_0:=(HB.out.cell (World.block_lt_of_cell? w _ hx238_0)).trans hx238_0;replace hx238_1:=(HB.out.cell (World.block_lt_of_cell? w _ hx238_1)).trans hx238_1;replace p238:=eq_true p238;replace q238:=eq_true q238
      go_wp2
      go_roundg k1
      case measure=>have:=HK1.out;omega
      case rel=>exact ⟨(wrap64 (x5_1 + 1)),val_,H',⟨by have:=HK1.out;omega⟩,⟨blo_ BK237.out⟩,⟨belg_⟩⟩
    ·rw [if_neg c5] at H;exact absurd H (by simp)
   ·rw [if_neg c4] at H;have c4b0:decide (x5_1 < (l0_6.length:Int))=false:=decide_eq_false c4;clear c4;obtain rfl:=Option.some.inj H;have hcz9_:=cells7_ BK237.out
    go_wp2
    go_ret
    exact ⟨ret_,belg_⟩

end Go.Proofs.YtbeihceeliifeaaGreatDoor.PR

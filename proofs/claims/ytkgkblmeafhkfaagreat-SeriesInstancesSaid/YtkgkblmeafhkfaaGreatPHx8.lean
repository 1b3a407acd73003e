-- Written by a program of the session (wip/tools).
import Derived.Test.YtkgkblmeafhkfaaGreatPHx0
import Derived.Test.YtkgkblmeafhkfaaGreatPHx3
namespace Go.Proofs.YtkgkblmeafhkfaaGreat.PH
open Go.RowKit Go.Proofs.YtkgkblmeafhkfaaGreatW.PrintWords Go.Proofs.YtkgkblmeafhkfaaGreatW.PrintLast Go.Proofs.YtkgkblmeafhkfaaGreatW.PrintMore
attribute [local go_sem] max2_int min2_int max_two min_two max_three min_three max_four min_four   -- for this text's walks alone
set_option linter.unusedVariables false
set_option linter.unusedSimpArgs false

attribute [local go_sem high] eqA91
def when_before.f (a0:Int):Option (Int):=some (wrap64 ((wrap64 ((wrap64 ((wrap64 ((wrap64 (365 * (wrap64 ((wrap64 (a0 - 1)) - 1969)))) + (wrap64 (Int.tdiv (wrap64 (a0 - 1)) 4)))) - (wrap64 (Int.tdiv (wrap64 (a0 - 1)) 100)))) + (wrap64 (Int.tdiv (wrap64 (a0 - 1)) 400)))) - 477))
set_option maxHeartbeats 8000000 in
set_option maxRecDepth 100000 in
theorem when_before.calls (a0 r:Int) (w:World) (h:when_before.f a0=some r) :
  Calls Tryz.prog 114 #[.int .i64 a0] w fun e w'=>e = .returned (.int .i64 r)∧Drawn0 w w':=by
 have H:(some (wrap64 ((wrap64 ((wrap64 ((wrap64 ((wrap64 (365 * (wrap64 ((wrap64 (a0 - 1)) - 1969)))) + (wrap64 (Int.tdiv (wrap64 (a0 - 1)) 4)))) - (wrap64 (Int.tdiv (wrap64 (a0 - 1)) 100)))) + (wrap64 (Int.tdiv (wrap64 (a0 - 1)) 400)))) - 477)))=some r:=h;clear h;obtain rfl:=Option.some.inj H
 go_enter Tryz.func114,Tryz.ntmps114
 go_wp2
 go_ret
 exact ⟨val_,by repeat (first | exact Drawn0.refl _ | apply Drawn0.step)⟩
def when_leap.f (a0:Int):Option (Bool):=if (Int.tmod a0 4)=0 then (if (Int.tmod a0 100)=0 then (some ((Int.tmod a0 400) == 0)) else (some true)) else (some ((Int.tmod a0 400) == 0))
set_option maxHeartbeats 8000000 in
set_option maxRecDepth 100000 in
theorem when_leap.calls (a0:Int) (r:Bool) (w:World) (h:when_leap.f a0=some r) :
  Calls Tryz.prog 122 #[.int .i64 a0] w fun e w'=>e = .returned (.bool r)∧Drawn0 w w':=by
 have H:(if (Int.tmod a0 4)=0 then (if (Int.tmod a0 100)=0 then (some ((Int.tmod a0 400) == 0)) else (some true)) else (some ((Int.tmod a0 400) == 0)))=some r:=h;clear h
 replace H:=de_ H;rcases H with ⟨H,-,c2b0,c2b1⟩|⟨H,c2,c2b0,c2b1⟩
 ·replace H:=de_ H;rcases H with ⟨H,-,c3b0,c3b1⟩|⟨H,c3,c3b0,c3b1⟩
  ·obtain rfl:=Option.some.inj H
   go_enter Tryz.func122,Tryz.ntmps122
   go_wp2
   go_ret
   exact ⟨val_,by repeat (first | exact Drawn0.refl _ | apply Drawn0.step)⟩
  ·obtain rfl:=Option.some.inj H
   go_enter Tryz.func122,Tryz.ntmps122
   go_wp2
   go_ret
   exact ⟨val_,by repeat (first | exact Drawn0.refl _ | apply Drawn0.step)⟩
 ·obtain rfl:=Option.some.inj H
  go_enter Tryz.func122,Tryz.ntmps122
  go_wp2
  go_ret
  exact ⟨val_,by repeat (first | exact Drawn0.refl _ | apply Drawn0.step)⟩
/-- How many days a month has. -/
def when_month.tab (m:Int):Int:=if m=0 then 0 else if m=2 then 28 else if m=4∨m=6∨m=9∨m=11 then 30 else 31
def when_month.f (a0 a1:Int):Option Int :=
 if 0≤a1∧a1 < 13 then (if a1=2 then (when_leap.f a0).bind fun t=>some (if t=true then 29 else 28) else some (when_month.tab a1)) else none
set_option maxHeartbeats 8000000 in
set_option maxRecDepth 100000 in
theorem when_month.calls (a0 a1 r:Int) (w:World) (h:when_month.f a0 a1=some r) :
  Calls Tryz.prog 115 #[.int .i64 a0,.int .i64 a1] w fun e w'=>e = .returned (.int .i64 r)∧Below w.heap.size w w':=by
 have HB:=ad_ (Below.refl w.heap.size w);have H:=h;clear h
 unfold when_month.f at H
 by_cases c:0≤a1∧a1 < 13
 ·rw [if_pos c] at H
  have hc:a1=0∨a1=1∨a1=2∨a1=3∨a1=4∨a1=5∨a1=6∨a1=7∨a1=8∨a1=9∨a1=10∨a1=11∨a1=12:=by omega
  clear c
  rcases hc with rfl | rfl | rfl | rfl | rfl | rfl | rfl | rfl | rfl | rfl | rfl | rfl | rfl
  all_goals first | (rw [if_neg (by decide)] at H;obtain rfl:=Option.some.inj H;go_enter Tryz.func115,Tryz.ntmps115;go_wp2;go_ret;exact ⟨rfl,HB.out.alloc (Nat.le_refl _) _⟩) | skip
  rw [if_pos rfl] at H;obtain ⟨t,A0,H⟩:=bnd_ H;have A1:=ad_ A0;clear A0
  cases t with
  | true =>
   obtain rfl:=Option.some.inj H
   go_enter Tryz.func115,Tryz.ntmps115
   go_wp2_with (first | (go_at_call 122;(with_reducible refine (when_leap.calls a0 true _ A1.out).mono ?_);rintro e w' ⟨rfl,⟨nd,rfl⟩⟩))
   go_ret
   exact ⟨rfl,bel_⟩
  | false =>
   obtain rfl:=Option.some.inj H
   go_enter Tryz.func115,Tryz.ntmps115
   go_wp2_with (first | (go_at_call 122;(with_reducible refine (when_leap.calls a0 false _ A1.out).mono ?_);rintro e w' ⟨rfl,⟨nd,rfl⟩⟩))
   go_ret
   exact ⟨rfl,bel_⟩
 ·rw [if_neg c] at H
  cases H
mutual
def when_Civil.j0:Nat→Int→Bool→Option (Int×Int×Int×Int)
 | 0,_,_=>none
 | k + 1,x0,x14=>if x14=true then (some (0,0,0,110)) else (when_Civil.l0 k x0 (wrap64 (1970 + (wrap64 (Int.tdiv x0 366)))))
def when_Civil.j2:Nat→Int→Int→Option (Int×Int×Int×Int)
 | 0,_,_=>none
 | k + 1,x0,x6=>(when_before.f x6).bind fun t140=>(when_Civil.l1 k x6 (wrap64 (x0 - t140)) 1)
def when_Civil.l1:Nat→Int→Int→Int→Option (Int×Int×Int×Int)
 | 0,_,_,_=>none
 | k + 1,x6,x7,x8=>(when_month.f x6 x8).bind fun t141=>(if x7 ≥ t141 then ((when_month.f x6 x8).bind fun t142=>(when_Civil.l1 k x6 (wrap64 (x7 - t142)) (wrap64 (x8 + 1)))) else (some (x6,x8,wrap64 (x7 + 1),0)))
def when_Civil.l0:Nat→Int→Int→Option (Int×Int×Int×Int)
 | 0,_,_=>none
 | k + 1,x0,x6=>if x6 < 9999 then ((when_before.f (wrap64 (x6 + 1))).bind fun t139=>(if t139≤x0 then (when_Civil.l0 k x0 (wrap64 (x6 + 1))) else (when_Civil.j2 k x0 x6))) else (when_Civil.j2 k x0 x6)
end
def when_Civil.f (k:Nat) (a0:Int):Option (Int×Int×Int×Int):=if a0 < 0 then (when_Civil.j0 k a0 true) else (when_Civil.j0 k a0 (decide (a0 > 2932896)))
set_option maxHeartbeats 8000000 in
set_option maxRecDepth 100000 in
theorem when_Civil.calls (k:Nat) (a0 r1:Int) (r2 r3 r4:Int) (w:World) (h:when_Civil.f k a0=some (r1,r2,r3,r4)) :
  Calls Tryz.prog 104 #[.int .i64 a0] w fun e w'=>e = .returned (.tuple #[.int .i64 r1,.int .i64 r2,.int .i64 r3,.int .i64 r4])∧Below w.heap.size w w':=by
 have HB:=ad_ (Below.refl w.heap.size w);have H:(if a0 < 0 then (when_Civil.j0 k a0 true) else (when_Civil.j0 k a0 (decide (a0 > 2932896))))=some (r1,r2,r3,r4):=h;clear h;have HC2:=Aside0.mk H;clear H
 go_enter Tryz.func104,Tryz.ntmps104
 go_upto_region 1 with (fail)
 go_cut [14] (fun v14 wc=>∃ (kq:Nat) (x14_1:Bool),v14 = .bool x14_1∧Aside0 (when_Civil.j0 kq a0 x14_1=some (r1,r2,r3,r4))∧Aside0 (kq≤k)∧Aside0 (Below w.heap.size w wc))
 case first =>
  have H:=HC2.out;clear HC2
  replace H:=dc_ H;rcases H with ⟨H,c3b0⟩|⟨H,c3b0⟩
  ·(first | rw [c3b0] | (simp only [i64_w,i32_w];rw [c3b0]) | skip)
   have H':=ad_ H;clear H
   go_wp2
   go_meet
   case rel=>exact ⟨_,(true),val_,H',⟨by first | omega | exact Nat.le_refl _⟩,⟨bel_⟩⟩
  ·(first | rw [c3b0] | (simp only [i64_w,i32_w];rw [c3b0]) | skip)
   have H':=ad_ H;clear H
   go_wp2
   go_meet
   case rel=>exact ⟨_,(decide (a0 > 2932896)),val_,H',⟨by first | omega | exact Nat.le_refl _⟩,⟨bel_⟩⟩
 case rest =>
  clear HC2;obtain ⟨kq,x14_1,rfl,HA,HJ1,HB⟩:=hcut
  cases kq with
  | zero=>exact absurd HA.out (by simp [when_Civil.j0])
  | succ kj1 =>
   have H:=HA.out;clear HA
   simp only [when_Civil.j0] at H
   replace H:=db_ H;rcases H with ⟨rfl,H⟩|⟨rfl,H⟩
   ·simp only [Option.some.injEq,Prod.mk.injEq] at H
    obtain ⟨rfl,rfl,rfl,rfl⟩:=H
    go_wp2
    refine bodyPost_ret (results_list (rs:=[.tmp 2,.tmp 3,.tmp 4,.tmp 5]) rfl (by simp) (.tmp (.tmp (.tmp (.tmp .nil))))) rfl ?_
    exact ⟨ret_,bel_⟩
   ·have HC5:=Aside0.mk H;clear H
    go_upto_block 0 with (fail)
    go_cut [6] (fun v6 wc=>∃ (kq:Nat) (x6_4:Int),v6 = .int .i64 x6_4∧Aside0 (when_Civil.j2 kq a0 x6_4=some (r1,r2,r3,r4))∧Aside0 (kq≤kj1)∧Aside0 (Below w.heap.size w wc))
    case first =>
     have H:=HC5.out;clear HC5;have H':=ad_ H;clear H
     go_wp2
     go_loopg [6] kj1 (fun kq v6 w'=>∃ (x6_2:Int),v6 = .int .i64 x6_2∧Aside0 (when_Civil.l0 kq a0 x6_2=some (r1,r2,r3,r4))∧Aside0 (kq≤kj1)∧Aside0 (Below w.heap.size w w'))
     case atStart=>exact ⟨(wrap64 (1970 + (wrap64 (Int.tdiv a0 366)))),val_,H',⟨Nat.le_refl _⟩,⟨bel_⟩⟩
     case round =>
      clear H';obtain ⟨x6_2,rfl,HA,HK2,HB⟩:=hrel
      cases gk with
      | zero=>exact absurd HA.out (by simp [when_Civil.l0])
      | succ k2 =>
       have H:=HA.out;clear HA
       simp only [when_Civil.l0] at H
       replace H:=dc_ H;rcases H with ⟨H,c6b0⟩|⟨H,c6b0⟩
       ·(first | rw [c6b0] | (simp only [i64_w,i32_w];rw [c6b0]) | skip)
        obtain ⟨t139,A70,H⟩:=bnd_ H
        try dsimp only at H
        have A7:=ad_ A70;clear A70
        replace H:=dc_ H;rcases H with ⟨H,c8b0⟩|⟨H,c8b0⟩
        ·have H':=ad_ H;clear H
         go_wp2_with (first | (go_at_call 114;(with_reducible refine (when_before.calls (wrap64 (x6_2 + 1)) t139 _ A7.out).mono ?_);rintro e w' ⟨rfl,⟨nd,rfl⟩⟩))
         go_roundg k2
         case measure=>have:=HJ1.out;have:=HK2.out;omega
         case rel=>exact ⟨(wrap64 (x6_2 + 1)),val_,H',⟨by have:=HJ1.out;have:=HK2.out;omega⟩,⟨bel_⟩⟩
        ·have H':=ad_ H;clear H
         go_wp2_with (first | (go_at_call 114;(with_reducible refine (when_before.calls (wrap64 (x6_2 + 1)) t139 _ A7.out).mono ?_);rintro e w' ⟨rfl,⟨nd,rfl⟩⟩))
         go_meet
         case rel=>exact ⟨_,(x6_2),val_,H',⟨by have:=HJ1.out;have:=HK2.out;first | omega | exact Nat.le_refl _⟩,⟨bel_⟩⟩
       ·(first | rw [c6b0] | (simp only [i64_w,i32_w];rw [c6b0]) | skip)
        have H':=ad_ H;clear H
        go_wp2
        go_meet
        case rel=>exact ⟨_,(x6_2),val_,H',⟨by have:=HJ1.out;have:=HK2.out;first | omega | exact Nat.le_refl _⟩,⟨bel_⟩⟩
    case rest =>
     clear HC5;obtain ⟨kq,x6_4,rfl,HA,HJ4,HB⟩:=hcut
     cases kq with
     | zero=>exact absurd HA.out (by simp [when_Civil.j2])
     | succ kj4 =>
      have H:=HA.out;clear HA
      simp only [when_Civil.j2] at H
      obtain ⟨t140,A90,H⟩:=bnd_ H
      try dsimp only at H
      have A9:=ad_ A90;clear A90;have H':=ad_ H;clear H
      go_wp2_with (first | ((with_reducible refine gate_callee (f:=114) rfl ?_);refine gl_ 31 Tryz.func114 (when_before.calls x6_4 t140 _ A9.out) ?_;rintro e w' ⟨rfl,⟨nd,rfl⟩⟩;refine ⟨_,rfl,?_⟩))
      go_loopg [7,8] kj4 (fun kq v7 v8 w'=>∃ (x7_3:Int) (x8_3:Int),v7 = .int .i64 x7_3∧v8 = .int .i64 x8_3∧Aside0 (when_Civil.l1 kq x6_4 x7_3 x8_3=some (r1,r2,r3,r4))∧Aside0 (kq≤kj4)∧Aside0 (Below w.heap.size w w'))
      case atStart=>exact ⟨(wrap64 (a0 - t140)),(1),val_,val_,H',⟨Nat.le_refl _⟩,⟨bel_⟩⟩
      case round =>
       clear H';obtain ⟨x7_3,x8_3,rfl,rfl,HA,HK3,HB⟩:=hrel
       cases gk with
       | zero=>exact absurd HA.out (by simp [when_Civil.l1])
       | succ k3 =>
        have H:=HA.out;clear HA
        simp only [when_Civil.l1] at H
        obtain ⟨t141,A100,H⟩:=bnd_ H
        try dsimp only at H
        have A10:=ad_ A100;clear A100
        replace H:=dh_ H;rcases H with ⟨H,c11b0⟩|⟨H,c11b0⟩
        ·obtain ⟨t142,A120,H⟩:=bnd_ H
         try dsimp only at H
         have A12:=ad_ A120;clear A120;have H':=ad_ H;clear H
         go_wp2_with (first | ((with_reducible refine gate_callee (f:=115) rfl ?_);refine gl_ 36 Tryz.func115 (when_month.calls x6_4 x8_3 t141 _ A10.out) ?_;rintro e w13 ⟨rfl,hb⟩;refine ⟨_,rfl,?_⟩;replace HB:=hbb_ hb;clear hb) | ((with_reducible refine gate_callee (f:=115) rfl ?_);refine gl_ 41 Tryz.func115 (when_month.calls x6_4 x8_3 t142 _ A12.out) ?_;rintro e w14 ⟨rfl,hb⟩;refine ⟨_,rfl,?_⟩;replace HB:=hbb_ hb;clear hb))
         go_roundg k3
         case measure=>have:=HJ1.out;have:=HJ4.out;have:=HK3.out;omega
         case rel=>exact ⟨(wrap64 (x7_3 - t142)),(wrap64 (x8_3 + 1)),val_,val_,H',⟨by have:=HJ1.out;have:=HJ4.out;have:=HK3.out;omega⟩,⟨bel_⟩⟩
        ·simp only [Option.some.injEq,Prod.mk.injEq] at H
         obtain ⟨rfl,rfl,rfl,rfl⟩:=H
         go_wp2_with (first | ((with_reducible refine gate_callee (f:=115) rfl ?_);refine gl_ 36 Tryz.func115 (when_month.calls x6_4 x8_3 t141 _ A10.out) ?_;rintro e w15 ⟨rfl,hb⟩;refine ⟨_,rfl,?_⟩;replace HB:=hbb_ hb;clear hb))
         refine bodyPost_ret (results_list (rs:=[.tmp 2,.tmp 3,.tmp 4,.tmp 5]) rfl (by simp) (.tmp (.tmp (.tmp (.tmp .nil))))) rfl ?_
         exact ⟨ret_,bel_⟩
def date_Weekday.f (a0:Int):Option (Int×Int):=if a0 < 0 then (some (0,110)) else (if a0 > 2932896 then (some (0,110)) else (some (Int.tmod (wrap64 (a0 + 3)) 7,0)))
set_option maxHeartbeats 8000000 in
set_option maxRecDepth 100000 in
theorem date_Weekday.calls (a0 r1 r2:Int) (w:World) (h:date_Weekday.f a0=some (r1,r2)) :
  Calls Tryz.prog 105 #[.int .i64 a0] w fun e w'=>e = .returned (.tuple #[.int .i64 r1,.int .i64 r2])∧Drawn0 w w':=by
 have H:(if a0 < 0 then (some (0,110)) else (if a0 > 2932896 then (some (0,110)) else (some (Int.tmod (wrap64 (a0 + 3)) 7,0))))=some (r1,r2):=h;clear h
 replace H:=dc_ H;rcases H with ⟨H,c2b0⟩|⟨H,c2b0⟩
 ·simp only [Option.some.injEq,Prod.mk.injEq] at H
  obtain ⟨rfl,rfl⟩:=H
  go_enter Tryz.func105,Tryz.ntmps105
  go_wp2
  go_ret2
  exact ⟨val_,by repeat (first | exact Drawn0.refl _ | apply Drawn0.step)⟩
 ·replace H:=dg_ H;rcases H with ⟨H,c3b0⟩|⟨H,c3b0⟩
  ·simp only [Option.some.injEq,Prod.mk.injEq] at H
   obtain ⟨rfl,rfl⟩:=H
   go_enter Tryz.func105,Tryz.ntmps105
   go_wp2
   go_ret2
   exact ⟨val_,by repeat (first | exact Drawn0.refl _ | apply Drawn0.step)⟩
  ·simp only [Option.some.injEq,Prod.mk.injEq] at H
   obtain ⟨rfl,rfl⟩:=H
   go_enter Tryz.func105,Tryz.ntmps105
   go_wp2
   go_ret2
   exact ⟨val_,by repeat (first | exact Drawn0.refl _ | apply Drawn0.step)⟩
def slices_Index_int_int.l0:Nat→List Int→Int→Int→Int→Option (Int)
 | 0,_,_,_,_=>none
 | k + 1,x0,x1,x7,x8=>if x8 < x7 then (if 0≤x8 then (if x8 < (x0.length:Int) then (if x1=(rd x0 x8) then (some x8) else (slices_Index_int_int.l0 k x0 x1 x7 (wrap64 (x8 + 1)))) else (none)) else (none)) else (some (-1))
def slices_Index_int_int.f (k:Nat) (l0:List Int) (a1:Int):Option (Int):=slices_Index_int_int.l0 k l0 a1 (l0.length:Int) 0
set_option maxHeartbeats 8000000 in
set_option maxRecDepth 100000 in
theorem slices_Index_int_int.calls (k:Nat) (A0:Option Addr) (c0:Nat) (l0:List Int) (a1 r:Int) (w:World) (hr0:Kd.C (Kd.int .i64) w A0 l0.length l0) (hc0:l0.length≤c0) (h:slices_Index_int_int.f k l0 a1=some r) :
  Calls Tryz.prog 116 #[.slice A0 l0.length c0,.int .i64 a1] w fun e w'=>e = .returned (.int .i64 r)∧Drawn0 w w':=by
 have HR0:=Aside0.mk hr0;have HC0:=Aside0.mk hc0;clear hr0 hc0;have H:(slices_Index_int_int.l0 k l0 a1 (l0.length:Int) 0)=some r:=h;clear h;have H':=ad_ H;clear H
 go_enter Tryz.func116,Tryz.ntmps116
 go_wp2
 go_loopg [8] k (fun kq v8 w'=>∃ (x8_1:Int),v8 = .int .i64 x8_1∧Aside0 (slices_Index_int_int.l0 kq l0 a1 (l0.length:Int) x8_1=some r)∧Aside0 (kq≤k)∧Drawn0 w w')
 case atStart=>exact ⟨(0),val_,H',⟨Nat.le_refl _⟩,by repeat (first | exact Drawn0.refl _ | apply Drawn0.step)⟩
 case round =>
  clear H';obtain ⟨x8_1,rfl,HA,HK1,⟨m1,rfl⟩⟩:=hrel
  cases gk with
  | zero=>exact absurd HA.out (by simp [slices_Index_int_int.l0])
  | succ k1 =>
   have H:=HA.out;clear HA
   simp only [slices_Index_int_int.l0] at H
   replace H:=dc_ H;rcases H with ⟨H,c3b0⟩|⟨H,c3b0⟩
   ·replace H:=ind_ H;obtain ⟨c4b0,H⟩:=H
    replace H:=ind_ H;obtain ⟨c5b0,H⟩:=H
    replace H:=de_ H;rcases H with ⟨H,-,c6b0,c6b1⟩|⟨H,c6,c6b0,c6b1⟩
    ·obtain rfl:=Option.some.inj H;have p143:0≤(x8_1:Int):=dec_;have q143:x8_1 < (l0.length:Int):=dec_;obtain ⟨ad143,e143,hx143_0⟩:=Kd.at_int HR0.out x8_1 p143 q143
     cases e143
     replace p143:=eq_true p143;replace q143:=eq_true q143
     go_wp2
     go_ret
     exact ⟨val_,by repeat (first | exact Drawn0.refl _ | apply Drawn0.step)⟩
    ·have H':=ad_ H;clear H;have p143:0≤(x8_1:Int):=dec_;have q143:x8_1 < (l0.length:Int):=dec_;obtain ⟨ad143,e143,hx143_0⟩:=Kd.at_int HR0.out x8_1 p143 q143
     cases e143
     replace p143:=eq_true p143;replace q143:=eq_true q143
     go_wp2
     go_roundg k1
     case measure=>have:=HK1.out;omega
     case rel=>exact ⟨(wrap64 (x8_1 + 1)),val_,H',⟨by have:=HK1.out;omega⟩,by repeat (first | exact Drawn0.refl _ | apply Drawn0.step)⟩
   ·obtain rfl:=Option.some.inj H
    go_wp2
    go_ret
    exact ⟨val_,by repeat (first | exact Drawn0.refl _ | apply Drawn0.step)⟩
def slices_Contains_int_int.f (k:Nat) (l0:List Int) (a1:Int):Option (Bool):=(slices_Index_int_int.f k l0 a1).bind fun t144=>(some (decide (t144 ≥ 0)))
set_option maxHeartbeats 8000000 in
set_option maxRecDepth 100000 in
theorem slices_Contains_int_int.calls (k:Nat) (A0:Option Addr) (c0:Nat) (l0:List Int) (a1:Int) (r:Bool) (w:World) (hr0:Kd.C (Kd.int .i64) w A0 l0.length l0) (hc0:l0.length≤c0) (h:slices_Contains_int_int.f k l0 a1=some r) :
  Calls Tryz.prog 106 #[.slice A0 l0.length c0,.int .i64 a1] w fun e w'=>e = .returned (.bool r)∧Drawn0 w w':=by
 have HR0:=Aside0.mk hr0;have HC0:=Aside0.mk hc0;clear hr0 hc0;have H:((slices_Index_int_int.f k l0 a1).bind fun t144=>(some (decide (t144 ≥ 0))))=some r:=h;clear h;obtain ⟨t144,A30,H⟩:=bnd_ H
 try dsimp only at H
 have A3:=ad_ A30;clear A30;obtain rfl:=Option.some.inj H
 go_enter Tryz.func106,Tryz.ntmps106
 go_wp2_with (first | ((with_reducible refine gate_callee (f:=116) rfl ?_);refine gl_ 7 Tryz.func116 (slices_Index_int_int.calls k _ _ l0 a1 t144 _ ?_ ?_ A3.out) ?_;exact cop_ HR0.out;exact HC0.out;rintro e w' ⟨rfl,⟨nd,rfl⟩⟩;refine ⟨_,rfl,?_⟩))
 go_ret
 exact ⟨val_,by repeat (first | exact Drawn0.refl _ | apply Drawn0.step)⟩
def recur_Weekday_123.l0:Nat→List (S91)→Int→Int→Int→Int→Option (Int)
 | 0,_,_,_,_,_=>none
 | k + 1,x0,x7,x8,y0,y1=>if x8 < x7 then (if 0≤x8 then (if x8 < (x0.length:Int) then (if (y0 == ((rd_T91 x0 x8).f0) && (y1 == ((rd_T91 x0 x8).f1)))=true then (some x8) else (recur_Weekday_123.l0 k x0 x7 (wrap64 (x8 + 1)) y0 y1)) else (none)) else (none)) else (some (-1))
def recur_Weekday_123.f (k:Nat) (l0:List (S91)) (a1_0 a1_1:Int):Option (Int):=recur_Weekday_123.l0 k l0 (l0.length:Int) 0 a1_0 a1_1
set_option maxHeartbeats 8000000 in
set_option maxRecDepth 100000 in
theorem recur_Weekday_123.calls (k:Nat) (A0:Option Addr) (c0:Nat) (l0:List (S91)) (a1_0 a1_1 r:Int) (w:World) (hr0:Kd.C k91 w A0 l0.length l0) (hc0:l0.length≤c0) (h:recur_Weekday_123.f k l0 a1_0 a1_1=some r) :
  Calls Tryz.prog 123 #[.slice A0 l0.length c0,.agg #[.int .i64 a1_0,.int .i64 a1_1]] w fun e w'=>e = .returned (.int .i64 r)∧Below w.heap.size w w':=by
 have hu91:=Tryz.underlying91;have HR0:=Aside0.mk hr0;have HC0:=Aside0.mk hc0;clear hr0 hc0;have HB:=ad_ (Below.refl w.heap.size w);have H:(recur_Weekday_123.l0 k l0 (l0.length:Int) 0 a1_0 a1_1)=some r:=h;clear h;have H':=ad_ H;clear H
 go_enter Tryz.func123,Tryz.ntmps123
 go_wp2_with (first | ((with_reducible refine gate_dst (N:=3) rfl ?_);refine bx_ 3 91 ?_;intro gb145 hg w3 hbox hb;have BK145:=ad_ (hbox);have GW145:=gw_ w hg;have GE145:=GW145;replace HB:=hbb_ hb;clear hb hbox hg))
 repeat (go_quiet (first | ((with_reducible refine gate_dst (N:=3) rfl ?_);refine bx_ 3 91 ?_;intro gb145 hg w3 hbox hb;have BK145:=ad_ (hbox);have GW145:=gw_ w hg;have GE145:=GW145;replace HB:=hbb_ hb;clear hb hbox hg));try go_wp2_with (first | ((with_reducible refine gate_dst (N:=3) rfl ?_);refine bx_ 3 91 ?_;intro gb145 hg w3 hbox hb;have BK145:=ad_ (hbox);have GW145:=gw_ w hg;have GE145:=GW145;replace HB:=hbb_ hb;clear hb hbox hg)))
 go_loopg [8] k (fun kq v8 w'=>∃ (x8_1:Int),v8 = .int .i64 x8_1∧Aside0 (recur_Weekday_123.l0 kq l0 (l0.length:Int) x8_1 a1_0 a1_1=some r)∧Aside0 (kq≤k)∧Aside0 (w'.heap[gb145]? = some (.cells #[.int .i64 a1_0,.int .i64 a1_1] 91 (0,0)))∧Aside0 (Below w.heap.size w w'))
 case atStart=>exact ⟨(0),val_,H',⟨Nat.le_refl _⟩,⟨blo_ BK145.out⟩,⟨belg_⟩⟩
 case round =>
  clear H';obtain ⟨x8_1,rfl,HA,HK1,BK145,HB⟩:=hrel
  cases gk with
  | zero=>exact absurd HA.out (by simp [recur_Weekday_123.l0])
  | succ k1 =>
   have H:=HA.out;clear HA
   simp only [recur_Weekday_123.l0] at H
   replace H:=dc_ H;rcases H with ⟨H,c4b0⟩|⟨H,c4b0⟩
   ·replace H:=ind_ H;obtain ⟨c5b0,H⟩:=H
    replace H:=ind_ H;obtain ⟨c6b0,H⟩:=H
    by_cases c7:(a1_0 == ((rd_T91 l0 x8_1).f0) && (a1_1 == ((rd_T91 l0 x8_1).f1)))=true
    ·rw [if_pos c7] at H;have c7b0:(a1_0 == ((rd_T91 l0 x8_1).f0) && (a1_1 == ((rd_T91 l0 x8_1).f1)))=true:=c7
     (try (have c7b1:decide (a1_0=((rd_T91 l0 x8_1).f0) && (a1_1 == ((rd_T91 l0 x8_1).f1)))=true:=by simpa using c7))
     (try (have c7b2:(a1_0 == ((rd_T91 l0 x8_1).f0) && (a1_1 == ((rd_T91 l0 x8_1).f1)))=true:=by simpa using c7))
     clear c7;obtain rfl:=Option.some.inj H;have hcz8_:=cells2_ BK145.out;have p146:0≤(x8_1:Int):=dec_;have q146:x8_1 < (l0.length:Int):=dec_;obtain ⟨ad146,e146,hx146_0,hx146_1⟩:=at_T91 HR0.out x8_1 p146 q146
     cases e146
     replace hx146_0:=(HB.out.cell (World.block_lt_of_cell? w _ hx146_0)).trans hx146_0;replace hx146_1:=(HB.out.cell (World.block_lt_of_cell? w _ hx146_1)).trans hx146_1;replace p146:=eq_true p146;replace q146:=eq_true q146
     go_wp2
     repeat (go_quiet (fail);try go_wp2)
     go_ret
     exact ⟨ret_,belg_⟩
    ·rw [if_neg c7] at H
     have c7b0:(a1_0 == ((rd_T91 l0 x8_1).f0) && (a1_1 == ((rd_T91 l0 x8_1).f1)))=false:=by simpa using c7
     (try (have c7b1:decide (a1_0=((rd_T91 l0 x8_1).f0) && (a1_1 == ((rd_T91 l0 x8_1).f1)))=false:=by simpa using c7))
     (try (have c7b2:(a1_0 == ((rd_T91 l0 x8_1).f0) && (a1_1 == ((rd_T91 l0 x8_1).f1)))=false:=by simpa using c7))
     (try (have c7b3:¬(a1_0=((rd_T91 l0 x8_1).f0) && (a1_1 == ((rd_T91 l0 x8_1).f1))):=by simpa using c7))
     clear c7;have H':=ad_ H;clear H;have hcz9_:=cells2_ BK145.out;have p146:0≤(x8_1:Int):=dec_;have q146:x8_1 < (l0.length:Int):=dec_;obtain ⟨ad146,e146,hx146_0,hx146_1⟩:=at_T91 HR0.out x8_1 p146 q146
     cases e146
     replace hx146_0:=(HB.out.cell (World.block_lt_of_cell? w _ hx146_0)).trans hx146_0;replace hx146_1:=(HB.out.cell (World.block_lt_of_cell? w _ hx146_1)).trans hx146_1;replace p146:=eq_true p146;replace q146:=eq_true q146
     go_wp2
     repeat (go_quiet (fail);try go_wp2)
     go_roundg k1
     case measure=>have:=HK1.out;omega
     case rel=>exact ⟨(wrap64 (x8_1 + 1)),val_,H',⟨by have:=HK1.out;omega⟩,⟨blo_ BK145.out⟩,⟨belg_⟩⟩
   ·obtain rfl:=Option.some.inj H
    go_wp2
    repeat (go_quiet (fail);try go_wp2)
    go_ret
    exact ⟨ret_,belg_⟩
def recur_Weekday_117.f (k:Nat) (l0:List (S91)) (a1_0 a1_1:Int):Option (Bool):=(recur_Weekday_123.f k l0 a1_0 a1_1).bind fun t148=>(some (decide (t148 ≥ 0)))
set_option maxHeartbeats 8000000 in
set_option maxRecDepth 100000 in
theorem recur_Weekday_117.calls (k:Nat) (A0:Option Addr) (c0:Nat) (l0:List (S91)) (a1_0 a1_1:Int) (r:Bool) (w:World) (hr0:Kd.C k91 w A0 l0.length l0) (hc0:l0.length≤c0) (h:recur_Weekday_117.f k l0 a1_0 a1_1=some r) :
  Calls Tryz.prog 117 #[.slice A0 l0.length c0,.agg #[.int .i64 a1_0,.int .i64 a1_1]] w fun e w'=>e = .returned (.bool r)∧Below w.heap.size w w':=by
 have hu91:=Tryz.underlying91;have HR0:=Aside0.mk hr0;have HC0:=Aside0.mk hc0;clear hr0 hc0;have HB:=ad_ (Below.refl w.heap.size w);have H:((recur_Weekday_123.f k l0 a1_0 a1_1).bind fun t148=>(some (decide (t148 ≥ 0))))=some r:=h;clear h;obtain ⟨t148,A30,H⟩:=bnd_ H
 try dsimp only at H
 have A3:=ad_ A30;clear A30;obtain rfl:=Option.some.inj H
 go_enter Tryz.func117,Tryz.ntmps117
 go_wp2_with (first | ((with_reducible refine gate_dst (N:=3) rfl ?_);refine bx_ 3 91 ?_;intro gb147 hg w4 hbox hb;have BK147:=ad_ (hbox);have GW147:=gw_ w hg;have GE147:=GW147;replace HB:=hbb_ hb;clear hb hbox hg;have hcz5_:=cells2_ BK147.out) | ((with_reducible refine gate_callee (f:=123) rfl ?_);refine gl_ 7 Tryz.func123 (recur_Weekday_123.calls k _ _ l0 a1_0 a1_1 t148 _ ?_ ?_ A3.out) ?_;(iterate 2 exact sc_);rintro e w6 ⟨rfl,hb⟩;refine ⟨_,rfl,?_⟩;replace BK147:=bkb_ BK147 hb;replace HB:=hbb_ hb;clear hb))
 go_ret
 exact ⟨ret_,belg_⟩
def recur_Rule_on.f (k:Nat) (a0_0 a0_1:Int) (a0_2 a0_3:Int) (l0_4 l0_5:List Int) (l0_6:List (S91)) (a1:Int):Option (Bool):=if (l0_6.length:Int)=0 then (some true) else ((recur_Weekday_117.f k l0_6 a1 0).bind fun t150=>(some t150))
set_option maxHeartbeats 8000000 in
set_option maxRecDepth 100000 in
theorem recur_Rule_on.calls (k:Nat) (a0_0 a0_1:Int) (a0_2 a0_3:Int) (A0_4:Option Addr) (c0_4:Nat) (l0_4:List Int) (A0_5:Option Addr) (c0_5:Nat) (l0_5:List Int) (A0_6:Option Addr) (c0_6:Nat) (l0_6:List (S91)) (a1:Int) (r:Bool) (w:World) (hr0_4:Kd.C (Kd.int .i64) w A0_4 l0_4.length l0_4) (hc0_4:l0_4.length≤c0_4) (hr0_5:Kd.C (Kd.int .i64) w A0_5 l0_5.length l0_5) (hc0_5:l0_5.length≤c0_5) (hr0_6:Kd.C k91 w A0_6 l0_6.length l0_6) (hc0_6:l0_6.length≤c0_6) (h:recur_Rule_on.f k a0_0 a0_1 a0_2 a0_3 l0_4 l0_5 l0_6 a1=some r) :
  Calls Tryz.prog 107 #[.agg #[.int .i64 a0_0,.int .i64 a0_1,.int .i64 a0_2,.int .i64 a0_3,.slice A0_4 l0_4.length c0_4,.slice A0_5 l0_5.length c0_5,.slice A0_6 l0_6.length c0_6],.int .i64 a1] w fun e w'=>e = .returned (.bool r)∧Below w.heap.size w w':=by
 have hu25:=Tryz.underlying25;have hu91:=Tryz.underlying91;have HR0_4:=Aside0.mk hr0_4;have HC0_4:=Aside0.mk hc0_4;clear hr0_4 hc0_4;have HR0_5:=Aside0.mk hr0_5;have HC0_5:=Aside0.mk hc0_5;clear hr0_5 hc0_5;have HR0_6:=Aside0.mk hr0_6;have HC0_6:=Aside0.mk hc0_6;clear hr0_6 hc0_6;have HB:=ad_ (Below.refl w.heap.size w);have H:(if (l0_6.length:Int)=0 then (some true) else ((recur_Weekday_117.f k l0_6 a1 0).bind fun t150=>(some t150)))=some r:=h;clear h
 replace H:=de_ H;rcases H with ⟨H,-,c3b0,c3b1⟩|⟨H,c3,c3b0,c3b1⟩
 ·obtain rfl:=Option.some.inj H
  go_enter Tryz.func107,Tryz.ntmps107
  go_wp2_with (first | ((with_reducible refine gate_dst (N:=2) rfl ?_);refine bx_ 2 25 ?_;intro gb149 hg w4 hbox hb;have BK149:=ad_ (hbox);have GW149:=gw_ w hg;have GE149:=GW149;replace HB:=hbb_ hb;clear hb hbox hg;have hcz5_:=cells7_ BK149.out))
  go_ret
  exact ⟨ret_,belg_⟩
 ·have c3b2:¬(l0_6 = []):=fun h_=>c3 (by rw [h_];rfl)
  obtain ⟨t150,A60,H⟩:=bnd_ H
  try dsimp only at H
  have A6:=ad_ A60;clear A60;obtain rfl:=Option.some.inj H
  go_enter Tryz.func107,Tryz.ntmps107
  go_wp2_with (first | ((with_reducible refine gate_dst (N:=2) rfl ?_);refine bx_ 2 25 ?_;intro gb149 hg w7 hbox hb;have BK149:=ad_ (hbox);have GW149:=gw_ w hg;have GE149:=GW149;replace HB:=hbb_ hb;clear hb hbox hg;have hcz8_:=cells7_ BK149.out) | (go_at_call 117;(with_reducible refine (recur_Weekday_117.calls k _ _ l0_6 a1 0 t150 _ ?_ ?_ A6.out).mono ?_);(iterate 2 exact sc_);rintro e w9 ⟨rfl,hb⟩;replace BK149:=bkb_ BK149 hb;replace HB:=hbb_ hb;clear hb))
  go_ret
  exact ⟨ret_,belg_⟩
end Go.Proofs.YtkgkblmeafhkfaaGreat.PH

-- Written by a program of the session (wip/tools).
import Derived.Test.YtkgkblmeafhkfaaGreatPHx0
import Derived.Test.YtkgkblmeafhkfaaGreatPHx16
namespace Go.Proofs.YtkgkblmeafhkfaaGreat.PH
open Go.RowKit Go.Proofs.YtkgkblmeafhkfaaGreatW.PrintWords Go.Proofs.YtkgkblmeafhkfaaGreatW.PrintLast Go.Proofs.YtkgkblmeafhkfaaGreatW.PrintMore
attribute [local go_sem] max2_int min2_int max_two min_two max_three min_three max_four min_four   -- for this text's walks alone
set_option linter.unusedVariables false
set_option linter.unusedSimpArgs false

def pr23_long.f (a0:Int):Option (Bool):=if a0 ≥ 0 then (some (decide (a0≤604800))) else (some false)
set_option maxHeartbeats 8000000 in
set_option maxRecDepth 100000 in
theorem pr23_long.calls (a0:Int) (r:Bool) (w:World) (h:pr23_long.f a0=some r) :
  Calls Tryz.prog 38 #[.int .i64 a0] w fun e w'=>e = .returned (.bool r)∧Drawn0 w w':=by
 have H:(if a0 ≥ 0 then (some (decide (a0≤604800))) else (some false))=some r:=h;clear h
 replace H:=dh_ H;rcases H with ⟨H,c2b0⟩|⟨H,c2b0⟩
 ·obtain rfl:=Option.some.inj H
  go_enter Tryz.func38,Tryz.ntmps38
  go_wp2
  go_ret
  exact ⟨val_,by repeat (first | exact Drawn0.refl _ | apply Drawn0.step)⟩
 ·obtain rfl:=Option.some.inj H
  go_enter Tryz.func38,Tryz.ntmps38
  go_wp2
  go_ret
  exact ⟨val_,by repeat (first | exact Drawn0.refl _ | apply Drawn0.step)⟩
def pr23_rising.l0:Nat→List Int→Int→Option (Bool)
 | 0,_,_=>none
 | k + 1,x0,x3=>if x3 < (x0.length:Int) then (if 0≤x3 then ((pr12_Time.f (rd x0 x3)).bind fun t346=>(if t346=true then (if x3 > 0 then (if 0≤(wrap64 (x3 - 1)) then (if (wrap64 (x3 - 1)) < (x0.length:Int) then (if (rd x0 x3)≤(rd x0 (wrap64 (x3 - 1))) then (some false) else (pr23_rising.l0 k x0 (wrap64 (x3 + 1)))) else (none)) else (none)) else (pr23_rising.l0 k x0 (wrap64 (x3 + 1)))) else (some false))) else (none)) else (some (decide ((x0.length:Int)≤256)))
def pr23_rising.f (k:Nat) (l0:List Int):Option (Bool):=pr23_rising.l0 k l0 0
set_option maxHeartbeats 8000000 in
set_option maxRecDepth 100000 in
theorem pr23_rising.calls (k:Nat) (A0:Option Addr) (c0:Nat) (l0:List Int) (r:Bool) (w:World) (hr0:Kd.C (Kd.int .i64) w A0 l0.length l0) (hc0:l0.length≤c0) (h:pr23_rising.f k l0=some r) :
  Calls Tryz.prog 39 #[.slice A0 l0.length c0] w fun e w'=>e = .returned (.bool r)∧Drawn0 w w':=by
 have HR0:=Aside0.mk hr0;have HC0:=Aside0.mk hc0;clear hr0 hc0;have H:(pr23_rising.l0 k l0 0)=some r:=h;clear h;have H':=ad_ H;clear H
 go_enter Tryz.func39,Tryz.ntmps39
 go_wp2
 repeat (go_quiet (fail);try go_wp2)
 go_loopg [3] k (fun kq v3 w'=>∃ (x3_1:Int),v3 = .int .i64 x3_1∧Aside0 (pr23_rising.l0 kq l0 x3_1=some r)∧Aside0 (kq≤k)∧Drawn0 w w')
 case atStart=>exact ⟨(0),val_,H',⟨Nat.le_refl _⟩,by repeat (first | exact Drawn0.refl _ | apply Drawn0.step)⟩
 case round =>
  clear H';obtain ⟨x3_1,rfl,HA,HK1,⟨m1,rfl⟩⟩:=hrel
  cases gk with
  | zero=>exact absurd HA.out (by simp [pr23_rising.l0])
  | succ k1 =>
   have H:=HA.out;clear HA
   simp only [pr23_rising.l0] at H
   replace H:=dc_ H;rcases H with ⟨H,c2b0⟩|⟨H,c2b0⟩
   ·replace H:=ind_ H;obtain ⟨c3b0,H⟩:=H;obtain ⟨t346,A40,H⟩:=bnd_ H
    try dsimp only at H
    have A4:=ad_ A40;clear A40
    replace H:=db_ H;rcases H with ⟨rfl,H⟩|⟨rfl,H⟩
    ·replace H:=dg_ H;rcases H with ⟨H,c6b0⟩|⟨H,c6b0⟩
     ·obtain ⟨ji7,hji7⟩:∃ j_:Int,(wrap64 (x3_1 - 1))=j_:=⟨_,rfl⟩
      replace H:(if 0≤(ji7) then (if (ji7) < (l0.length:Int) then (if (rd l0 x3_1)≤(rd l0 (ji7)) then (some false) else (pr23_rising.l0 k1 l0 (wrap64 (x3_1 + 1)))) else (none)) else (none))=some r:=by first | (rw [hji7] at H;exact H) | (simp only [hji7] at H ⊢;exact H)
      (try rw [hji7] at A4)
      have hji7w:(IntKind.i64.wrap (x3_1 - 1))=ji7:=(i64_w _).trans hji7
      replace H:=ind_ H;obtain ⟨c8b0,H⟩:=H
      replace H:=ind_ H;obtain ⟨c9b0,H⟩:=H
      replace H:=dc_ H;rcases H with ⟨H,c10b0⟩|⟨H,c10b0⟩
      ·obtain rfl:=Option.some.inj H;have p345:0≤(x3_1:Int):=dec_;have q345:x3_1 < (l0.length:Int):=dec_;obtain ⟨ad345,e345,hx345_0⟩:=Kd.at_int HR0.out x3_1 p345 q345
       cases e345
       replace p345:=eq_true p345;replace q345:=eq_true q345
       go_wp2_with (first | (go_at_call 28;(with_reducible refine (pr12_Time.calls (rd l0 x3_1) true _ A4.out).mono ?_);rintro e w' ⟨rfl,⟨nd,rfl⟩⟩;(try first | exact ⟨rfl,_,World.drewN_drewN _ _ _⟩ | exact ⟨rfl,_,Eq.trans (World.drewN_drewN _ _ _) (congrArg (World.drewN _) (Nat.add_assoc _ _ _))⟩);have p347:0≤(x3_1:Int):=dec_;have q347:x3_1 < (l0.length:Int):=dec_;obtain ⟨ad347,e347,hx347_0⟩:=Kd.at_int HR0.out x3_1 p347 q347;obtain rfl:ad345=ad347:=(by injection e347);replace p347:=eq_true p347;replace q347:=eq_true q347;have p348:0≤((ji7):Int):=dec_;have q348:(ji7) < (l0.length:Int):=dec_;obtain ⟨ad348,e348,hx348_0⟩:=Kd.at_int HR0.out (ji7) p348 q348;obtain rfl:ad345=ad348:=(by injection e348);replace p348:=eq_true p348;replace q348:=eq_true q348))
       repeat (go_quiet (first | (go_at_call 28;(with_reducible refine (pr12_Time.calls (rd l0 x3_1) true _ A4.out).mono ?_);rintro e w' ⟨rfl,⟨nd,rfl⟩⟩;(try first | exact ⟨rfl,_,World.drewN_drewN _ _ _⟩ | exact ⟨rfl,_,Eq.trans (World.drewN_drewN _ _ _) (congrArg (World.drewN _) (Nat.add_assoc _ _ _))⟩);have p347:0≤(x3_1:Int):=dec_;have q347:x3_1 < (l0.length:Int):=dec_;obtain ⟨ad347,e347,hx347_0⟩:=Kd.at_int HR0.out x3_1 p347 q347;obtain rfl:ad345=ad347:=(by injection e347);replace p347:=eq_true p347;replace q347:=eq_true q347;have p348:0≤((ji7):Int):=dec_;have q348:(ji7) < (l0.length:Int):=dec_;obtain ⟨ad348,e348,hx348_0⟩:=Kd.at_int HR0.out (ji7) p348 q348;obtain rfl:ad345=ad348:=(by injection e348);replace p348:=eq_true p348;replace q348:=eq_true q348));try go_wp2_with (first | (go_at_call 28;(with_reducible refine (pr12_Time.calls (rd l0 x3_1) true _ A4.out).mono ?_);rintro e w' ⟨rfl,⟨nd,rfl⟩⟩;(try first | exact ⟨rfl,_,World.drewN_drewN _ _ _⟩ | exact ⟨rfl,_,Eq.trans (World.drewN_drewN _ _ _) (congrArg (World.drewN _) (Nat.add_assoc _ _ _))⟩);have p347:0≤(x3_1:Int):=dec_;have q347:x3_1 < (l0.length:Int):=dec_;obtain ⟨ad347,e347,hx347_0⟩:=Kd.at_int HR0.out x3_1 p347 q347;obtain rfl:ad345=ad347:=(by injection e347);replace p347:=eq_true p347;replace q347:=eq_true q347;have p348:0≤((ji7):Int):=dec_;have q348:(ji7) < (l0.length:Int):=dec_;obtain ⟨ad348,e348,hx348_0⟩:=Kd.at_int HR0.out (ji7) p348 q348;obtain rfl:ad345=ad348:=(by injection e348);replace p348:=eq_true p348;replace q348:=eq_true q348)))
       go_ret
       exact ⟨by first | rfl | (simp;done) | (simp only [← hji7] <;> (first | rfl | simp)) | (simp [*];done),by repeat (first | exact Drawn0.refl _ | apply Drawn0.step)⟩
      ·have H':=ad_ H;clear H;have p345:0≤(x3_1:Int):=dec_;have q345:x3_1 < (l0.length:Int):=dec_;obtain ⟨ad345,e345,hx345_0⟩:=Kd.at_int HR0.out x3_1 p345 q345
       cases e345
       replace p345:=eq_true p345;replace q345:=eq_true q345
       go_wp2_with (first | (go_at_call 28;(with_reducible refine (pr12_Time.calls (rd l0 x3_1) true _ A4.out).mono ?_);rintro e w' ⟨rfl,⟨nd,rfl⟩⟩;(try first | exact ⟨rfl,_,World.drewN_drewN _ _ _⟩ | exact ⟨rfl,_,Eq.trans (World.drewN_drewN _ _ _) (congrArg (World.drewN _) (Nat.add_assoc _ _ _))⟩);have p347:0≤(x3_1:Int):=dec_;have q347:x3_1 < (l0.length:Int):=dec_;obtain ⟨ad347,e347,hx347_0⟩:=Kd.at_int HR0.out x3_1 p347 q347;obtain rfl:ad345=ad347:=(by injection e347);replace p347:=eq_true p347;replace q347:=eq_true q347;have p348:0≤((ji7):Int):=dec_;have q348:(ji7) < (l0.length:Int):=dec_;obtain ⟨ad348,e348,hx348_0⟩:=Kd.at_int HR0.out (ji7) p348 q348;obtain rfl:ad345=ad348:=(by injection e348);replace p348:=eq_true p348;replace q348:=eq_true q348))
       repeat (go_quiet (first | (go_at_call 28;(with_reducible refine (pr12_Time.calls (rd l0 x3_1) true _ A4.out).mono ?_);rintro e w' ⟨rfl,⟨nd,rfl⟩⟩;(try first | exact ⟨rfl,_,World.drewN_drewN _ _ _⟩ | exact ⟨rfl,_,Eq.trans (World.drewN_drewN _ _ _) (congrArg (World.drewN _) (Nat.add_assoc _ _ _))⟩);have p347:0≤(x3_1:Int):=dec_;have q347:x3_1 < (l0.length:Int):=dec_;obtain ⟨ad347,e347,hx347_0⟩:=Kd.at_int HR0.out x3_1 p347 q347;obtain rfl:ad345=ad347:=(by injection e347);replace p347:=eq_true p347;replace q347:=eq_true q347;have p348:0≤((ji7):Int):=dec_;have q348:(ji7) < (l0.length:Int):=dec_;obtain ⟨ad348,e348,hx348_0⟩:=Kd.at_int HR0.out (ji7) p348 q348;obtain rfl:ad345=ad348:=(by injection e348);replace p348:=eq_true p348;replace q348:=eq_true q348));try go_wp2_with (first | (go_at_call 28;(with_reducible refine (pr12_Time.calls (rd l0 x3_1) true _ A4.out).mono ?_);rintro e w' ⟨rfl,⟨nd,rfl⟩⟩;(try first | exact ⟨rfl,_,World.drewN_drewN _ _ _⟩ | exact ⟨rfl,_,Eq.trans (World.drewN_drewN _ _ _) (congrArg (World.drewN _) (Nat.add_assoc _ _ _))⟩);have p347:0≤(x3_1:Int):=dec_;have q347:x3_1 < (l0.length:Int):=dec_;obtain ⟨ad347,e347,hx347_0⟩:=Kd.at_int HR0.out x3_1 p347 q347;obtain rfl:ad345=ad347:=(by injection e347);replace p347:=eq_true p347;replace q347:=eq_true q347;have p348:0≤((ji7):Int):=dec_;have q348:(ji7) < (l0.length:Int):=dec_;obtain ⟨ad348,e348,hx348_0⟩:=Kd.at_int HR0.out (ji7) p348 q348;obtain rfl:ad345=ad348:=(by injection e348);replace p348:=eq_true p348;replace q348:=eq_true q348)))
       go_roundg k1
       case measure=>have:=HK1.out;omega
       case rel=>exact ⟨(wrap64 (x3_1 + 1)),val_,H',⟨by have:=HK1.out;omega⟩,by repeat (first | exact Drawn0.refl _ | apply Drawn0.step)⟩
     ·have H':=ad_ H;clear H;have p345:0≤(x3_1:Int):=dec_;have q345:x3_1 < (l0.length:Int):=dec_;obtain ⟨ad345,e345,hx345_0⟩:=Kd.at_int HR0.out x3_1 p345 q345
      cases e345
      replace p345:=eq_true p345;replace q345:=eq_true q345
      go_wp2_with (first | (go_at_call 28;(with_reducible refine (pr12_Time.calls (rd l0 x3_1) true _ A4.out).mono ?_);rintro e w' ⟨rfl,⟨nd,rfl⟩⟩;(try first | exact ⟨rfl,_,World.drewN_drewN _ _ _⟩ | exact ⟨rfl,_,Eq.trans (World.drewN_drewN _ _ _) (congrArg (World.drewN _) (Nat.add_assoc _ _ _))⟩)))
      repeat (go_quiet (first | (go_at_call 28;(with_reducible refine (pr12_Time.calls (rd l0 x3_1) true _ A4.out).mono ?_);rintro e w' ⟨rfl,⟨nd,rfl⟩⟩;(try first | exact ⟨rfl,_,World.drewN_drewN _ _ _⟩ | exact ⟨rfl,_,Eq.trans (World.drewN_drewN _ _ _) (congrArg (World.drewN _) (Nat.add_assoc _ _ _))⟩)));try go_wp2_with (first | (go_at_call 28;(with_reducible refine (pr12_Time.calls (rd l0 x3_1) true _ A4.out).mono ?_);rintro e w' ⟨rfl,⟨nd,rfl⟩⟩;(try first | exact ⟨rfl,_,World.drewN_drewN _ _ _⟩ | exact ⟨rfl,_,Eq.trans (World.drewN_drewN _ _ _) (congrArg (World.drewN _) (Nat.add_assoc _ _ _))⟩))))
      go_roundg k1
      case measure=>have:=HK1.out;omega
      case rel=>exact ⟨(wrap64 (x3_1 + 1)),val_,H',⟨by have:=HK1.out;omega⟩,by repeat (first | exact Drawn0.refl _ | apply Drawn0.step)⟩
    ·obtain rfl:=Option.some.inj H;have p345:0≤(x3_1:Int):=dec_;have q345:x3_1 < (l0.length:Int):=dec_;obtain ⟨ad345,e345,hx345_0⟩:=Kd.at_int HR0.out x3_1 p345 q345
     cases e345
     replace p345:=eq_true p345;replace q345:=eq_true q345
     go_wp2_with (first | (go_at_call 28;(with_reducible refine (pr12_Time.calls (rd l0 x3_1) false _ A4.out).mono ?_);rintro e w' ⟨rfl,⟨nd,rfl⟩⟩;(try first | exact ⟨rfl,_,World.drewN_drewN _ _ _⟩ | exact ⟨rfl,_,Eq.trans (World.drewN_drewN _ _ _) (congrArg (World.drewN _) (Nat.add_assoc _ _ _))⟩)))
     repeat (go_quiet (first | (go_at_call 28;(with_reducible refine (pr12_Time.calls (rd l0 x3_1) false _ A4.out).mono ?_);rintro e w' ⟨rfl,⟨nd,rfl⟩⟩;(try first | exact ⟨rfl,_,World.drewN_drewN _ _ _⟩ | exact ⟨rfl,_,Eq.trans (World.drewN_drewN _ _ _) (congrArg (World.drewN _) (Nat.add_assoc _ _ _))⟩)));try go_wp2_with (first | (go_at_call 28;(with_reducible refine (pr12_Time.calls (rd l0 x3_1) false _ A4.out).mono ?_);rintro e w' ⟨rfl,⟨nd,rfl⟩⟩;(try first | exact ⟨rfl,_,World.drewN_drewN _ _ _⟩ | exact ⟨rfl,_,Eq.trans (World.drewN_drewN _ _ _) (congrArg (World.drewN _) (Nat.add_assoc _ _ _))⟩))))
     go_ret
     exact ⟨val_,by repeat (first | exact Drawn0.refl _ | apply Drawn0.step)⟩
   ·obtain rfl:=Option.some.inj H
    go_wp2
    repeat (go_quiet (fail);try go_wp2)
    go_ret
    exact ⟨val_,by repeat (first | exact Drawn0.refl _ | apply Drawn0.step)⟩
end Go.Proofs.YtkgkblmeafhkfaaGreat.PH

-- Written by a program of the session (wip/tools).
import Derived.Test.YtkgkblmeafhkfaaGreatPHx0
import Derived.Test.YtkgkblmeafhkfaaGreatPHx4
namespace Go.Proofs.YtkgkblmeafhkfaaGreat.PH
open Go.RowKit Go.Proofs.YtkgkblmeafhkfaaGreatW.PrintWords Go.Proofs.YtkgkblmeafhkfaaGreatW.PrintLast Go.Proofs.YtkgkblmeafhkfaaGreatW.PrintMore
attribute [local go_sem] max2_int min2_int max_two min_two max_three min_three max_four min_four   -- for this text's walks alone
set_option linter.unusedVariables false
set_option linter.unusedSimpArgs false

def series_zero.f (a0_0 a0_1:Int) (a0_2 a0_3:Int) (l0_4 l0_5:List Int) (l0_6:List (S91)):Option (Bool):=if a0_0=0 then (if a0_1=0 then (if a0_2=0 then (if a0_3=0 then (some ((wrap64 ((wrap64 ((l0_4.length:Int) + (l0_5.length:Int))) + (l0_6.length:Int))) == 0)) else (some false)) else (some false)) else (some false)) else (some false)
set_option maxHeartbeats 8000000 in
set_option maxRecDepth 100000 in
theorem series_zero.calls (a0_0 a0_1:Int) (a0_2 a0_3:Int) (A0_4:Option Addr) (c0_4:Nat) (l0_4:List Int) (A0_5:Option Addr) (c0_5:Nat) (l0_5:List Int) (A0_6:Option Addr) (c0_6:Nat) (l0_6:List (S91)) (r:Bool) (w:World) (hr0_4:Kd.C (Kd.int .i64) w A0_4 l0_4.length l0_4) (hc0_4:l0_4.length≤c0_4) (hr0_5:Kd.C (Kd.int .i64) w A0_5 l0_5.length l0_5) (hc0_5:l0_5.length≤c0_5) (hr0_6:Kd.C k91 w A0_6 l0_6.length l0_6) (hc0_6:l0_6.length≤c0_6) (h:series_zero.f a0_0 a0_1 a0_2 a0_3 l0_4 l0_5 l0_6=some r) :
  Calls Tryz.prog 33 #[.agg #[.int .i64 a0_0,.int .i64 a0_1,.int .i64 a0_2,.int .i64 a0_3,.slice A0_4 l0_4.length c0_4,.slice A0_5 l0_5.length c0_5,.slice A0_6 l0_6.length c0_6]] w fun e w'=>e = .returned (.bool r)∧Below w.heap.size w w':=by
 have hu25:=Tryz.underlying25;have HR0_4:=Aside0.mk hr0_4;have HC0_4:=Aside0.mk hc0_4;clear hr0_4 hc0_4;have HR0_5:=Aside0.mk hr0_5;have HC0_5:=Aside0.mk hc0_5;clear hr0_5 hc0_5;have HR0_6:=Aside0.mk hr0_6;have HC0_6:=Aside0.mk hc0_6;clear hr0_6 hc0_6;have HB:=ad_ (Below.refl w.heap.size w);have H:(if a0_0=0 then (if a0_1=0 then (if a0_2=0 then (if a0_3=0 then (some ((wrap64 ((wrap64 ((l0_4.length:Int) + (l0_5.length:Int))) + (l0_6.length:Int))) == 0)) else (some false)) else (some false)) else (some false)) else (some false))=some r:=h;clear h
 replace H:=de_ H;rcases H with ⟨H,-,c2b0,c2b1⟩|⟨H,c2,c2b0,c2b1⟩
 ·replace H:=de_ H;rcases H with ⟨H,-,c3b0,c3b1⟩|⟨H,c3,c3b0,c3b1⟩
  ·replace H:=de_ H;rcases H with ⟨H,-,c4b0,c4b1⟩|⟨H,c4,c4b0,c4b1⟩
   ·replace H:=de_ H;rcases H with ⟨H,-,c5b0,c5b1⟩|⟨H,c5,c5b0,c5b1⟩
    ·obtain rfl:=Option.some.inj H
     go_enter Tryz.func33,Tryz.ntmps33
     go_wp2_with (first | ((with_reducible refine gate_dst (N:=1) rfl ?_);(try (refine gate_guard (by rfl) ?_;dsimp only));refine bx_ 1 25 ?_;intro gb118 hg w6 hbox hb;have BK118:=ad_ (hbox);have GW118:=gw_ w hg;have GE118:=GW118;replace HB:=hbb_ hb;clear hb hbox hg;have hcz7_:=cells7_ BK118.out))
     go_ret
     exact ⟨ret_,belg_⟩
    ·obtain rfl:=Option.some.inj H
     go_enter Tryz.func33,Tryz.ntmps33
     go_wp2_with (first | ((with_reducible refine gate_dst (N:=1) rfl ?_);(try (refine gate_guard (by rfl) ?_;dsimp only));refine bx_ 1 25 ?_;intro gb118 hg w8 hbox hb;have BK118:=ad_ (hbox);have GW118:=gw_ w hg;have GE118:=GW118;replace HB:=hbb_ hb;clear hb hbox hg;have hcz9_:=cells7_ BK118.out))
     go_ret
     exact ⟨ret_,belg_⟩
   ·obtain rfl:=Option.some.inj H
    go_enter Tryz.func33,Tryz.ntmps33
    go_wp2_with (first | ((with_reducible refine gate_dst (N:=1) rfl ?_);(try (refine gate_guard (by rfl) ?_;dsimp only));refine bx_ 1 25 ?_;intro gb118 hg w10 hbox hb;have BK118:=ad_ (hbox);have GW118:=gw_ w hg;have GE118:=GW118;replace HB:=hbb_ hb;clear hb hbox hg;have hcz11_:=cells7_ BK118.out))
    go_ret
    exact ⟨ret_,belg_⟩
  ·obtain rfl:=Option.some.inj H
   go_enter Tryz.func33,Tryz.ntmps33
   go_wp2_with (first | ((with_reducible refine gate_dst (N:=1) rfl ?_);(try (refine gate_guard (by rfl) ?_;dsimp only));refine bx_ 1 25 ?_;intro gb118 hg w12 hbox hb;have BK118:=ad_ (hbox);have GW118:=gw_ w hg;have GE118:=GW118;replace HB:=hbb_ hb;clear hb hbox hg;have hcz13_:=cells7_ BK118.out))
   go_ret
   exact ⟨ret_,belg_⟩
 ·obtain rfl:=Option.some.inj H
  go_enter Tryz.func33,Tryz.ntmps33
  go_wp2_with (first | ((with_reducible refine gate_dst (N:=1) rfl ?_);(try (refine gate_guard (by rfl) ?_;dsimp only));refine bx_ 1 25 ?_;intro gb118 hg w14 hbox hb;have BK118:=ad_ (hbox);have GW118:=gw_ w hg;have GE118:=GW118;replace HB:=hbb_ hb;clear hb hbox hg;have hcz15_:=cells7_ BK118.out))
  go_ret
  exact ⟨ret_,belg_⟩
def series_isLong.f (a0:Int):Option (Bool):=if a0 ≥ 0 then (some (decide (a0≤604800))) else (some false)
set_option maxHeartbeats 8000000 in
set_option maxRecDepth 100000 in
theorem series_isLong.calls (a0:Int) (r:Bool) (w:World) (h:series_isLong.f a0=some r) :
  Calls Tryz.prog 35 #[.int .i64 a0] w fun e w'=>e = .returned (.bool r)∧Drawn0 w w':=by
 have H:(if a0 ≥ 0 then (some (decide (a0≤604800))) else (some false))=some r:=h;clear h
 replace H:=dh_ H;rcases H with ⟨H,c2b0⟩|⟨H,c2b0⟩
 ·obtain rfl:=Option.some.inj H
  go_enter Tryz.func35,Tryz.ntmps35
  go_wp2
  go_ret
  exact ⟨val_,by repeat (first | exact Drawn0.refl _ | apply Drawn0.step)⟩
 ·obtain rfl:=Option.some.inj H
  go_enter Tryz.func35,Tryz.ntmps35
  go_wp2
  go_ret
  exact ⟨val_,by repeat (first | exact Drawn0.refl _ | apply Drawn0.step)⟩
def series_Change_right.f (a0_0 a0_1 a0_2:Int) (a0_3:Bool):Option (Bool):=if a0_3=true then (if a0_1=0 then (some (a0_2 == 0)) else (some false)) else ((when_Right.f a0_1).bind fun t120=>(if t120=true then ((series_isLong.f a0_2).bind fun t121=>(some t121)) else (some false)))
set_option maxHeartbeats 8000000 in
set_option maxRecDepth 100000 in
theorem series_Change_right.calls (a0_0 a0_1 a0_2:Int) (a0_3 r:Bool) (w:World) (h:series_Change_right.f a0_0 a0_1 a0_2 a0_3=some r) :
  Calls Tryz.prog 34 #[.agg #[.int .i64 a0_0,.int .i64 a0_1,.int .i64 a0_2,.bool a0_3]] w fun e w'=>e = .returned (.bool r)∧Below w.heap.size w w':=by
 have hu64:=Tryz.underlying64;have HB:=ad_ (Below.refl w.heap.size w);have H:(if a0_3=true then (if a0_1=0 then (some (a0_2 == 0)) else (some false)) else ((when_Right.f a0_1).bind fun t120=>(if t120=true then ((series_isLong.f a0_2).bind fun t121=>(some t121)) else (some false))))=some r:=h;clear h
 replace H:=db_ H;rcases H with ⟨rfl,H⟩|⟨rfl,H⟩
 ·replace H:=de_ H;rcases H with ⟨H,-,c3b0,c3b1⟩|⟨H,c3,c3b0,c3b1⟩
  ·obtain rfl:=Option.some.inj H
   go_enter Tryz.func34,Tryz.ntmps34
   go_wp2_with (first | ((with_reducible refine gate_dst (N:=1) rfl ?_);refine bx_ 1 64 ?_;intro gb119 hg w4 hbox hb;have BK119:=ad_ (hbox);have GW119:=gw_ w hg;have GE119:=GW119;replace HB:=hbb_ hb;clear hb hbox hg;have hcz5_:=cells4_ BK119.out))
   go_ret
   exact ⟨ret_,belg_⟩
  ·obtain rfl:=Option.some.inj H
   go_enter Tryz.func34,Tryz.ntmps34
   go_wp2_with (first | ((with_reducible refine gate_dst (N:=1) rfl ?_);refine bx_ 1 64 ?_;intro gb119 hg w6 hbox hb;have BK119:=ad_ (hbox);have GW119:=gw_ w hg;have GE119:=GW119;replace HB:=hbb_ hb;clear hb hbox hg;have hcz7_:=cells4_ BK119.out))
   go_ret
   exact ⟨ret_,belg_⟩
 ·obtain ⟨t120,A80,H⟩:=bnd_ H
  try dsimp only at H
  have A8:=ad_ A80;clear A80
  replace H:=db_ H;rcases H with ⟨rfl,H⟩|⟨rfl,H⟩
  ·obtain ⟨t121,A100,H⟩:=bnd_ H
   try dsimp only at H
   have A10:=ad_ A100;clear A100;obtain rfl:=Option.some.inj H
   go_enter Tryz.func34,Tryz.ntmps34
   go_wp2_with (first | ((with_reducible refine gate_dst (N:=1) rfl ?_);refine bx_ 1 64 ?_;intro gb119 hg w11 hbox hb;have BK119:=ad_ (hbox);have GW119:=gw_ w hg;have GE119:=GW119;replace HB:=hbb_ hb;clear hb hbox hg;have hcz12_:=cells4_ BK119.out) | ((with_reducible refine gate_callee (f:=26) rfl ?_);refine gl_ 15 Tryz.func26 (when_Right.calls a0_1 true _ A8.out) ?_;rintro e w' ⟨rfl,⟨nd,rfl⟩⟩;refine ⟨_,rfl,?_⟩) | (go_at_call 35;(with_reducible refine (series_isLong.calls a0_2 t121 _ A10.out).mono ?_);rintro e w' ⟨rfl,⟨nd,rfl⟩⟩))
   go_ret
   exact ⟨ret_,belg_⟩
  ·obtain rfl:=Option.some.inj H
   go_enter Tryz.func34,Tryz.ntmps34
   go_wp2_with (first | ((with_reducible refine gate_dst (N:=1) rfl ?_);refine bx_ 1 64 ?_;intro gb119 hg w13 hbox hb;have BK119:=ad_ (hbox);have GW119:=gw_ w hg;have GE119:=GW119;replace HB:=hbb_ hb;clear hb hbox hg;have hcz14_:=cells4_ BK119.out) | ((with_reducible refine gate_callee (f:=26) rfl ?_);refine gl_ 15 Tryz.func26 (when_Right.calls a0_1 false _ A8.out) ?_;rintro e w' ⟨rfl,⟨nd,rfl⟩⟩;refine ⟨_,rfl,?_⟩))
   go_ret
   exact ⟨ret_,belg_⟩
def series_rises.l0:Nat→List Int→List Int→Int→Int→Option (Bool)
 | 0,_,_,_,_=>none
 | k + 1,x0,x5,x6,x7=>if x7 < x6 then (if 0≤x7 then (if x7 < (x5.length:Int) then ((when_Right.f (rd x5 x7)).bind fun t123=>(if t123=true then (if x7 > 0 then (if 0≤(wrap64 (x7 - 1)) then (if (wrap64 (x7 - 1)) < (x0.length:Int) then (if (rd x0 (wrap64 (x7 - 1))) ≥ (rd x5 x7) then (some false) else (series_rises.l0 k x0 x5 x6 (wrap64 (x7 + 1)))) else (none)) else (none)) else (series_rises.l0 k x0 x5 x6 (wrap64 (x7 + 1)))) else (some false))) else (none)) else (none)) else (some (decide ((x0.length:Int)≤256)))
def series_rises.f (k:Nat) (l0:List Int):Option (Bool):=series_rises.l0 k l0 l0 (l0.length:Int) 0
set_option maxHeartbeats 8000000 in
set_option maxRecDepth 100000 in
theorem series_rises.calls (k:Nat) (A0:Option Addr) (c0:Nat) (l0:List Int) (r:Bool) (w:World) (hr0:Kd.C (Kd.int .i64) w A0 l0.length l0) (hc0:l0.length≤c0) (h:series_rises.f k l0=some r) :
  Calls Tryz.prog 36 #[.slice A0 l0.length c0] w fun e w'=>e = .returned (.bool r)∧Drawn0 w w':=by
 have HR0:=Aside0.mk hr0;have HC0:=Aside0.mk hc0;clear hr0 hc0;have H:(series_rises.l0 k l0 l0 (l0.length:Int) 0)=some r:=h;clear h;have H':=ad_ H;clear H
 go_enter Tryz.func36,Tryz.ntmps36
 go_wp2
 go_loopg [7] k (fun kq v7 w'=>∃ (x7_1:Int),v7 = .int .i64 x7_1∧Aside0 (series_rises.l0 kq l0 l0 (l0.length:Int) x7_1=some r)∧Aside0 (kq≤k)∧Drawn0 w w')
 case atStart=>exact ⟨(0),val_,H',⟨Nat.le_refl _⟩,by repeat (first | exact Drawn0.refl _ | apply Drawn0.step)⟩
 case round =>
  clear H';obtain ⟨x7_1,rfl,HA,HK1,⟨m1,rfl⟩⟩:=hrel
  cases gk with
  | zero=>exact absurd HA.out (by simp [series_rises.l0])
  | succ k1 =>
   have H:=HA.out;clear HA
   simp only [series_rises.l0] at H
   replace H:=dc_ H;rcases H with ⟨H,c2b0⟩|⟨H,c2b0⟩
   ·replace H:=ind_ H;obtain ⟨c3b0,H⟩:=H
    replace H:=ind_ H;obtain ⟨c4b0,H⟩:=H;obtain ⟨t123,A50,H⟩:=bnd_ H
    try dsimp only at H
    have A5:=ad_ A50;clear A50
    replace H:=db_ H;rcases H with ⟨rfl,H⟩|⟨rfl,H⟩
    ·replace H:=dg_ H;rcases H with ⟨H,c7b0⟩|⟨H,c7b0⟩
     ·obtain ⟨ji8,hji8⟩:∃ j_:Int,(wrap64 (x7_1 - 1))=j_:=⟨_,rfl⟩
      replace H:(if 0≤(ji8) then (if (ji8) < (l0.length:Int) then (if (rd l0 (ji8)) ≥ (rd l0 x7_1) then (some false) else (series_rises.l0 k1 l0 l0 (l0.length:Int) (wrap64 (x7_1 + 1)))) else (none)) else (none))=some r:=by first | (rw [hji8] at H;exact H) | (simp only [hji8] at H ⊢;exact H)
      (try rw [hji8] at A5)
      have hji8w:(IntKind.i64.wrap (x7_1 - 1))=ji8:=(i64_w _).trans hji8
      replace H:=ind_ H;obtain ⟨c9b0,H⟩:=H
      replace H:=ind_ H;obtain ⟨c10b0,H⟩:=H
      replace H:=dh_ H;rcases H with ⟨H,c11b0⟩|⟨H,c11b0⟩
      ·obtain rfl:=Option.some.inj H;have p122:0≤(x7_1:Int):=dec_;have q122:x7_1 < (l0.length:Int):=dec_;obtain ⟨ad122,e122,hx122_0⟩:=Kd.at_int HR0.out x7_1 p122 q122
       cases e122
       replace p122:=eq_true p122;replace q122:=eq_true q122
       go_wp2_with (first | ((with_reducible refine gate_callee (f:=26) rfl ?_);refine gl_ 13 Tryz.func26 (when_Right.calls (rd l0 x7_1) true _ A5.out) ?_;rintro e w' ⟨rfl,⟨nd,rfl⟩⟩;refine ⟨_,rfl,?_⟩;have p124:0≤((ji8):Int):=dec_;have q124:(ji8) < (l0.length:Int):=dec_;obtain ⟨ad124,e124,hx124_0⟩:=Kd.at_int HR0.out (ji8) p124 q124;obtain rfl:ad122=ad124:=(by injection e124);replace p124:=eq_true p124;replace q124:=eq_true q124))
       go_ret
       exact ⟨by first | rfl | (simp;done) | (simp only [← hji8] <;> (first | rfl | simp)) | (simp [*];done),by repeat (first | exact Drawn0.refl _ | apply Drawn0.step)⟩
      ·have H':=ad_ H;clear H;have p122:0≤(x7_1:Int):=dec_;have q122:x7_1 < (l0.length:Int):=dec_;obtain ⟨ad122,e122,hx122_0⟩:=Kd.at_int HR0.out x7_1 p122 q122
       cases e122
       replace p122:=eq_true p122;replace q122:=eq_true q122
       go_wp2_with (first | ((with_reducible refine gate_callee (f:=26) rfl ?_);refine gl_ 13 Tryz.func26 (when_Right.calls (rd l0 x7_1) true _ A5.out) ?_;rintro e w' ⟨rfl,⟨nd,rfl⟩⟩;refine ⟨_,rfl,?_⟩;have p124:0≤((ji8):Int):=dec_;have q124:(ji8) < (l0.length:Int):=dec_;obtain ⟨ad124,e124,hx124_0⟩:=Kd.at_int HR0.out (ji8) p124 q124;obtain rfl:ad122=ad124:=(by injection e124);replace p124:=eq_true p124;replace q124:=eq_true q124))
       go_roundg k1
       case measure=>have:=HK1.out;omega
       case rel=>exact ⟨(wrap64 (x7_1 + 1)),val_,H',⟨by have:=HK1.out;omega⟩,by repeat (first | exact Drawn0.refl _ | apply Drawn0.step)⟩
     ·have H':=ad_ H;clear H;have p122:0≤(x7_1:Int):=dec_;have q122:x7_1 < (l0.length:Int):=dec_;obtain ⟨ad122,e122,hx122_0⟩:=Kd.at_int HR0.out x7_1 p122 q122
      cases e122
      replace p122:=eq_true p122;replace q122:=eq_true q122
      go_wp2_with (first | ((with_reducible refine gate_callee (f:=26) rfl ?_);refine gl_ 13 Tryz.func26 (when_Right.calls (rd l0 x7_1) true _ A5.out) ?_;rintro e w' ⟨rfl,⟨nd,rfl⟩⟩;refine ⟨_,rfl,?_⟩))
      go_roundg k1
      case measure=>have:=HK1.out;omega
      case rel=>exact ⟨(wrap64 (x7_1 + 1)),val_,H',⟨by have:=HK1.out;omega⟩,by repeat (first | exact Drawn0.refl _ | apply Drawn0.step)⟩
    ·obtain rfl:=Option.some.inj H;have p122:0≤(x7_1:Int):=dec_;have q122:x7_1 < (l0.length:Int):=dec_;obtain ⟨ad122,e122,hx122_0⟩:=Kd.at_int HR0.out x7_1 p122 q122
     cases e122
     replace p122:=eq_true p122;replace q122:=eq_true q122
     go_wp2_with (first | ((with_reducible refine gate_callee (f:=26) rfl ?_);refine gl_ 13 Tryz.func26 (when_Right.calls (rd l0 x7_1) false _ A5.out) ?_;rintro e w' ⟨rfl,⟨nd,rfl⟩⟩;refine ⟨_,rfl,?_⟩))
     go_ret
     exact ⟨val_,by repeat (first | exact Drawn0.refl _ | apply Drawn0.step)⟩
   ·obtain rfl:=Option.some.inj H
    go_wp2
    go_ret
    exact ⟨val_,by repeat (first | exact Drawn0.refl _ | apply Drawn0.step)⟩
end Go.Proofs.YtkgkblmeafhkfaaGreat.PH

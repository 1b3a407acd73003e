-- Written by a program of the session (wip/tools).
import Derived.Test.YtkgkblmeafhkfaaGreatPHx0
namespace Go.Proofs.YtkgkblmeafhkfaaGreat.PH
open Go.RowKit Go.Proofs.YtkgkblmeafhkfaaGreatW.PrintWords Go.Proofs.YtkgkblmeafhkfaaGreatW.PrintLast Go.Proofs.YtkgkblmeafhkfaaGreatW.PrintMore
attribute [local go_sem] max2_int min2_int max_two min_two max_three min_three max_four min_four   -- for this text's walks alone
set_option linter.unusedVariables false
set_option linter.unusedSimpArgs false

def pl21_Great.f (a0_0 a0_1:Int) (a0_2 a0_3:Int) (l0_4 l0_5:List Int) (l0_6:List (S91)):Option (Bool):=if (wrap64 ((l0_4.length:Int) + (l0_5.length:Int))) > 100 then (some true) else (some (decide ((l0_6.length:Int) > 100)))
set_option maxHeartbeats 8000000 in
set_option maxRecDepth 100000 in
theorem pl21_Great.calls (a0_0 a0_1:Int) (a0_2 a0_3:Int) (A0_4:Option Addr) (c0_4:Nat) (l0_4:List Int) (A0_5:Option Addr) (c0_5:Nat) (l0_5:List Int) (A0_6:Option Addr) (c0_6:Nat) (l0_6:List (S91)) (r:Bool) (w:World) (hr0_4:Kd.C (Kd.int .i64) w A0_4 l0_4.length l0_4) (hc0_4:l0_4.length≤c0_4) (hr0_5:Kd.C (Kd.int .i64) w A0_5 l0_5.length l0_5) (hc0_5:l0_5.length≤c0_5) (hr0_6:Kd.C k91 w A0_6 l0_6.length l0_6) (hc0_6:l0_6.length≤c0_6) (h:pl21_Great.f a0_0 a0_1 a0_2 a0_3 l0_4 l0_5 l0_6=some r) :
  Calls Tryz.prog 23 #[.agg #[.int .i64 a0_0,.int .i64 a0_1,.int .i64 a0_2,.int .i64 a0_3,.slice A0_4 l0_4.length c0_4,.slice A0_5 l0_5.length c0_5,.slice A0_6 l0_6.length c0_6]] w fun e w'=>e = .returned (.bool r)∧Below w.heap.size w w':=by
 have hu25:=Tryz.underlying25;have HR0_4:=Aside0.mk hr0_4;have HC0_4:=Aside0.mk hc0_4;clear hr0_4 hc0_4;have HR0_5:=Aside0.mk hr0_5;have HC0_5:=Aside0.mk hc0_5;clear hr0_5 hc0_5;have HR0_6:=Aside0.mk hr0_6;have HC0_6:=Aside0.mk hc0_6;clear hr0_6 hc0_6;have HB:=ad_ (Below.refl w.heap.size w);have H:(if (wrap64 ((l0_4.length:Int) + (l0_5.length:Int))) > 100 then (some true) else (some (decide ((l0_6.length:Int) > 100))))=some r:=h;clear h
 replace H:=dg_ H;rcases H with ⟨H,c2b0⟩|⟨H,c2b0⟩
 ·obtain rfl:=Option.some.inj H
  go_enter Tryz.func23,Tryz.ntmps23
  go_wp2_with (first | ((with_reducible refine gate_dst (N:=1) rfl ?_);(try (refine gate_guard (by rfl) ?_;dsimp only));refine bx_ 1 25 ?_;intro gb101 hg w3 hbox hb;have BK101:=ad_ (hbox);have GW101:=gw_ w hg;have GE101:=GW101;replace HB:=hbb_ hb;clear hb hbox hg;have hcz4_:=cells7_ BK101.out))
  go_ret
  exact ⟨ret_,belg_⟩
 ·obtain rfl:=Option.some.inj H
  go_enter Tryz.func23,Tryz.ntmps23
  go_wp2_with (first | ((with_reducible refine gate_dst (N:=1) rfl ?_);(try (refine gate_guard (by rfl) ?_;dsimp only));refine bx_ 1 25 ?_;intro gb101 hg w5 hbox hb;have BK101:=ad_ (hbox);have GW101:=gw_ w hg;have GE101:=GW101;replace HB:=hbb_ hb;clear hb hbox hg;have hcz6_:=cells7_ BK101.out))
  go_ret
  exact ⟨ret_,belg_⟩
def pl23_Great.f (a0_0 a0_1:Int) (a0_2:Bool) (a0_3 a0_4:Int) (a0_5 a0_6:Int) (l0_7 l0_8:List Int) (l0_9:List (S91)) (l0_10 l0_11:List Int) (l0_12:List (S64)) (a1:Int):Option (Bool):=(pl21_Great.f a0_3 a0_4 a0_5 a0_6 l0_7 l0_8 l0_9).bind fun t103=>(if t103=true then (some true) else (if (l0_10.length:Int) > 300 then (some true) else (if (l0_11.length:Int) > 300 then (some true) else (if (l0_12.length:Int) > 300 then (some true) else (if a0_0 > 4294967296 then (some true) else (some (decide (a1 > 4294967296))))))))
set_option maxHeartbeats 8000000 in
set_option maxRecDepth 100000 in
theorem pl23_Great.calls (a0_0 a0_1:Int) (a0_2:Bool) (a0_3 a0_4:Int) (a0_5 a0_6:Int) (A0_7:Option Addr) (c0_7:Nat) (l0_7:List Int) (A0_8:Option Addr) (c0_8:Nat) (l0_8:List Int) (A0_9:Option Addr) (c0_9:Nat) (l0_9:List (S91)) (A0_10:Option Addr) (c0_10:Nat) (l0_10:List Int) (A0_11:Option Addr) (c0_11:Nat) (l0_11:List Int) (A0_12:Option Addr) (c0_12:Nat) (l0_12:List (S64)) (a1:Int) (r:Bool) (w:World) (hr0_7:Kd.C (Kd.int .i64) w A0_7 l0_7.length l0_7) (hc0_7:l0_7.length≤c0_7) (hr0_8:Kd.C (Kd.int .i64) w A0_8 l0_8.length l0_8) (hc0_8:l0_8.length≤c0_8) (hr0_9:Kd.C k91 w A0_9 l0_9.length l0_9) (hc0_9:l0_9.length≤c0_9) (hr0_10:Kd.C (Kd.int .i64) w A0_10 l0_10.length l0_10) (hc0_10:l0_10.length≤c0_10) (hr0_11:Kd.C (Kd.int .i64) w A0_11 l0_11.length l0_11) (hc0_11:l0_11.length≤c0_11) (hr0_12:Kd.C k64 w A0_12 l0_12.length l0_12) (hc0_12:l0_12.length≤c0_12) (h:pl23_Great.f a0_0 a0_1 a0_2 a0_3 a0_4 a0_5 a0_6 l0_7 l0_8 l0_9 l0_10 l0_11 l0_12 a1=some r) :
  Calls Tryz.prog 6 #[.agg #[.int .i64 a0_0,.int .i64 a0_1,.bool a0_2,.int .i64 a0_3,.int .i64 a0_4,.int .i64 a0_5,.int .i64 a0_6,.slice A0_7 l0_7.length c0_7,.slice A0_8 l0_8.length c0_8,.slice A0_9 l0_9.length c0_9,.slice A0_10 l0_10.length c0_10,.slice A0_11 l0_11.length c0_11,.slice A0_12 l0_12.length c0_12],.int .i64 a1] w fun e w'=>e = .returned (.bool r)∧Below w.heap.size w w':=by
 have hu29:=Tryz.underlying29;have hu25:=Tryz.underlying25;have HR0_7:=Aside0.mk hr0_7;have HC0_7:=Aside0.mk hc0_7;clear hr0_7 hc0_7;have HR0_8:=Aside0.mk hr0_8;have HC0_8:=Aside0.mk hc0_8;clear hr0_8 hc0_8;have HR0_9:=Aside0.mk hr0_9;have HC0_9:=Aside0.mk hc0_9;clear hr0_9 hc0_9;have HR0_10:=Aside0.mk hr0_10;have HC0_10:=Aside0.mk hc0_10;clear hr0_10 hc0_10;have HR0_11:=Aside0.mk hr0_11;have HC0_11:=Aside0.mk hc0_11;clear hr0_11 hc0_11;have HR0_12:=Aside0.mk hr0_12;have HC0_12:=Aside0.mk hc0_12;clear hr0_12 hc0_12;have HB:=ad_ (Below.refl w.heap.size w);have H:((pl21_Great.f a0_3 a0_4 a0_5 a0_6 l0_7 l0_8 l0_9).bind fun t103=>(if t103=true then (some true) else (if (l0_10.length:Int) > 300 then (some true) else (if (l0_11.length:Int) > 300 then (some true) else (if (l0_12.length:Int) > 300 then (some true) else (if a0_0 > 4294967296 then (some true) else (some (decide (a1 > 4294967296)))))))))=some r:=h;clear h;obtain ⟨t103,A30,H⟩:=bnd_ H
 try dsimp only at H
 have A3:=ad_ A30;clear A30
 replace H:=db_ H;rcases H with ⟨rfl,H⟩|⟨rfl,H⟩
 ·obtain rfl:=Option.some.inj H
  go_enter Tryz.func6,Tryz.ntmps6
  go_wp2_with (first | ((with_reducible refine gate_dst (N:=2) rfl ?_);(try (refine gate_guard (by rfl) ?_;dsimp only));refine bx_ 2 29 ?_;intro gb102 hg w5 hbox hb;have BK102:=ad_ (hbox);have GW102:=gw_ w hg;have GE102:=GW102;replace HB:=hbb_ hb;clear hb hbox hg;have hcz6_:=cells13_ BK102.out) | ((with_reducible refine gate_callee (f:=23) rfl ?_);refine gl_ 7 Tryz.func23 (pl21_Great.calls a0_3 a0_4 a0_5 a0_6 _ _ l0_7 _ _ l0_8 _ _ l0_9 true _ ?_ ?_ ?_ ?_ ?_ ?_ A3.out) ?_;(iterate 6 exact sc_);rintro e w7 ⟨rfl,hb⟩;refine ⟨_,rfl,?_⟩;replace BK102:=bkb_ BK102 hb;replace HB:=hbb_ hb;clear hb))
  go_ret
  exact ⟨ret_,belg_⟩
 ·by_cases c8:(l0_10.length:Int) > 300
  ·rw [if_pos c8] at H;have c8b0:decide (300 < (l0_10.length:Int))=true:=decide_eq_true c8;have c8b1:decide (300 < l0_10.length)=true:=decide_eq_true (by omega);clear c8;obtain rfl:=Option.some.inj H
   go_enter Tryz.func6,Tryz.ntmps6
   go_wp2_with (first | ((with_reducible refine gate_dst (N:=2) rfl ?_);(try (refine gate_guard (by rfl) ?_;dsimp only));refine bx_ 2 29 ?_;intro gb102 hg w9 hbox hb;have BK102:=ad_ (hbox);have GW102:=gw_ w hg;have GE102:=GW102;replace HB:=hbb_ hb;clear hb hbox hg;have hcz10_:=cells13_ BK102.out) | ((with_reducible refine gate_callee (f:=23) rfl ?_);refine gl_ 7 Tryz.func23 (pl21_Great.calls a0_3 a0_4 a0_5 a0_6 _ _ l0_7 _ _ l0_8 _ _ l0_9 false _ ?_ ?_ ?_ ?_ ?_ ?_ A3.out) ?_;(iterate 6 exact sc_);rintro e w11 ⟨rfl,hb⟩;refine ⟨_,rfl,?_⟩;replace BK102:=bkb_ BK102 hb;replace HB:=hbb_ hb;clear hb;have hcz12_:=cells13_ BK102.out))
   go_ret
   exact ⟨ret_,belg_⟩
  ·rw [if_neg c8] at H;have c8b0:decide (300 < (l0_10.length:Int))=false:=decide_eq_false c8;have c8b1:decide (300 < l0_10.length)=false:=decide_eq_false (by omega);clear c8
   by_cases c13:(l0_11.length:Int) > 300
   ·rw [if_pos c13] at H;have c13b0:decide (300 < (l0_11.length:Int))=true:=decide_eq_true c13;have c13b1:decide (300 < l0_11.length)=true:=decide_eq_true (by omega);clear c13;obtain rfl:=Option.some.inj H
    go_enter Tryz.func6,Tryz.ntmps6
    go_wp2_with (first | ((with_reducible refine gate_dst (N:=2) rfl ?_);(try (refine gate_guard (by rfl) ?_;dsimp only));refine bx_ 2 29 ?_;intro gb102 hg w14 hbox hb;have BK102:=ad_ (hbox);have GW102:=gw_ w hg;have GE102:=GW102;replace HB:=hbb_ hb;clear hb hbox hg;have hcz15_:=cells13_ BK102.out) | ((with_reducible refine gate_callee (f:=23) rfl ?_);refine gl_ 7 Tryz.func23 (pl21_Great.calls a0_3 a0_4 a0_5 a0_6 _ _ l0_7 _ _ l0_8 _ _ l0_9 false _ ?_ ?_ ?_ ?_ ?_ ?_ A3.out) ?_;(iterate 6 exact sc_);rintro e w16 ⟨rfl,hb⟩;refine ⟨_,rfl,?_⟩;replace BK102:=bkb_ BK102 hb;replace HB:=hbb_ hb;clear hb;have hcz17_:=cells13_ BK102.out))
    go_ret
    exact ⟨ret_,belg_⟩
   ·rw [if_neg c13] at H;have c13b0:decide (300 < (l0_11.length:Int))=false:=decide_eq_false c13;have c13b1:decide (300 < l0_11.length)=false:=decide_eq_false (by omega);clear c13
    by_cases c18:(l0_12.length:Int) > 300
    ·rw [if_pos c18] at H;have c18b0:decide (300 < (l0_12.length:Int))=true:=decide_eq_true c18;have c18b1:decide (300 < l0_12.length)=true:=decide_eq_true (by omega);clear c18;obtain rfl:=Option.some.inj H
     go_enter Tryz.func6,Tryz.ntmps6
     go_wp2_with (first | ((with_reducible refine gate_dst (N:=2) rfl ?_);(try (refine gate_guard (by rfl) ?_;dsimp only));refine bx_ 2 29 ?_;intro gb102 hg w19 hbox hb;have BK102:=ad_ (hbox);have GW102:=gw_ w hg;have GE102:=GW102;replace HB:=hbb_ hb;clear hb hbox hg;have hcz20_:=cells13_ BK102.out) | ((with_reducible refine gate_callee (f:=23) rfl ?_);refine gl_ 7 Tryz.func23 (pl21_Great.calls a0_3 a0_4 a0_5 a0_6 _ _ l0_7 _ _ l0_8 _ _ l0_9 false _ ?_ ?_ ?_ ?_ ?_ ?_ A3.out) ?_;(iterate 6 exact sc_);rintro e w21 ⟨rfl,hb⟩;refine ⟨_,rfl,?_⟩;replace BK102:=bkb_ BK102 hb;replace HB:=hbb_ hb;clear hb;have hcz22_:=cells13_ BK102.out))
     go_ret
     exact ⟨ret_,belg_⟩
    ·rw [if_neg c18] at H;have c18b0:decide (300 < (l0_12.length:Int))=false:=decide_eq_false c18;have c18b1:decide (300 < l0_12.length)=false:=decide_eq_false (by omega);clear c18
     replace H:=dg_ H;rcases H with ⟨H,c23b0⟩|⟨H,c23b0⟩
     ·obtain rfl:=Option.some.inj H
      go_enter Tryz.func6,Tryz.ntmps6
      go_wp2_with (first | ((with_reducible refine gate_dst (N:=2) rfl ?_);(try (refine gate_guard (by rfl) ?_;dsimp only));refine bx_ 2 29 ?_;intro gb102 hg w24 hbox hb;have BK102:=ad_ (hbox);have GW102:=gw_ w hg;have GE102:=GW102;replace HB:=hbb_ hb;clear hb hbox hg;have hcz25_:=cells13_ BK102.out) | ((with_reducible refine gate_callee (f:=23) rfl ?_);refine gl_ 7 Tryz.func23 (pl21_Great.calls a0_3 a0_4 a0_5 a0_6 _ _ l0_7 _ _ l0_8 _ _ l0_9 false _ ?_ ?_ ?_ ?_ ?_ ?_ A3.out) ?_;(iterate 6 exact sc_);rintro e w26 ⟨rfl,hb⟩;refine ⟨_,rfl,?_⟩;replace BK102:=bkb_ BK102 hb;replace HB:=hbb_ hb;clear hb;have hcz27_:=cells13_ BK102.out))
      go_ret
      exact ⟨ret_,belg_⟩
     ·obtain rfl:=Option.some.inj H
      go_enter Tryz.func6,Tryz.ntmps6
      go_wp2_with (first | ((with_reducible refine gate_dst (N:=2) rfl ?_);(try (refine gate_guard (by rfl) ?_;dsimp only));refine bx_ 2 29 ?_;intro gb102 hg w28 hbox hb;have BK102:=ad_ (hbox);have GW102:=gw_ w hg;have GE102:=GW102;replace HB:=hbb_ hb;clear hb hbox hg;have hcz29_:=cells13_ BK102.out) | ((with_reducible refine gate_callee (f:=23) rfl ?_);refine gl_ 7 Tryz.func23 (pl21_Great.calls a0_3 a0_4 a0_5 a0_6 _ _ l0_7 _ _ l0_8 _ _ l0_9 false _ ?_ ?_ ?_ ?_ ?_ ?_ A3.out) ?_;(iterate 6 exact sc_);rintro e w30 ⟨rfl,hb⟩;refine ⟨_,rfl,?_⟩;replace BK102:=bkb_ BK102 hb;replace HB:=hbb_ hb;clear hb;have hcz31_:=cells13_ BK102.out))
      go_ret
      exact ⟨ret_,belg_⟩
def when_Right.f (a0:Int):Option (Bool):=if a0 ≥ 0 then (some (decide (a0≤253402300799))) else (some false)
set_option maxHeartbeats 8000000 in
set_option maxRecDepth 100000 in
theorem when_Right.calls (a0:Int) (r:Bool) (w:World) (h:when_Right.f a0=some r) :
  Calls Tryz.prog 26 #[.int .i64 a0] w fun e w'=>e = .returned (.bool r)∧Drawn0 w w':=by
 have H:(if a0 ≥ 0 then (some (decide (a0≤253402300799))) else (some false))=some r:=h;clear h
 replace H:=dh_ H;rcases H with ⟨H,c2b0⟩|⟨H,c2b0⟩
 ·obtain rfl:=Option.some.inj H
  go_enter Tryz.func26,Tryz.ntmps26
  go_wp2
  go_ret
  exact ⟨val_,by repeat (first | exact Drawn0.refl _ | apply Drawn0.step)⟩
 ·obtain rfl:=Option.some.inj H
  go_enter Tryz.func26,Tryz.ntmps26
  go_wp2
  go_ret
  exact ⟨val_,by repeat (first | exact Drawn0.refl _ | apply Drawn0.step)⟩
def recur_rises.l0:Nat→List Int→Int→Int→List Int→Int→Int→Option (Bool)
 | 0,_,_,_,_,_,_=>none
 | k + 1,x0,x1,x2,x9,x10,x11=>if x11 < x10 then (if 0≤x11 then (if x11 < (x9.length:Int) then (if (rd x9 x11) < x1 then (some false) else (if (rd x9 x11) > x2 then (some false) else (if (rd x9 x11)=0 then (some false) else (if x11 > 0 then (if 0≤(wrap64 (x11 - 1)) then (if (wrap64 (x11 - 1)) < (x0.length:Int) then (if (rd x0 (wrap64 (x11 - 1))) ≥ (rd x9 x11) then (some false) else (recur_rises.l0 k x0 x1 x2 x9 x10 (wrap64 (x11 + 1)))) else (none)) else (none)) else (recur_rises.l0 k x0 x1 x2 x9 x10 (wrap64 (x11 + 1))))))) else (none)) else (none)) else (some true)
def recur_rises.f (k:Nat) (l0:List Int) (a1 a2:Int):Option (Bool):=recur_rises.l0 k l0 a1 a2 l0 (l0.length:Int) 0
set_option maxHeartbeats 8000000 in
set_option maxRecDepth 100000 in
theorem recur_rises.calls (k:Nat) (A0:Option Addr) (c0:Nat) (l0:List Int) (a1 a2:Int) (r:Bool) (w:World) (hr0:Kd.C (Kd.int .i64) w A0 l0.length l0) (hc0:l0.length≤c0) (h:recur_rises.f k l0 a1 a2=some r) :
  Calls Tryz.prog 52 #[.slice A0 l0.length c0,.int .i64 a1,.int .i64 a2] w fun e w'=>e = .returned (.bool r)∧Drawn0 w w':=by
 have HR0:=Aside0.mk hr0;have HC0:=Aside0.mk hc0;clear hr0 hc0;have H:(recur_rises.l0 k l0 a1 a2 l0 (l0.length:Int) 0)=some r:=h;clear h;have H':=ad_ H;clear H
 go_enter Tryz.func52,Tryz.ntmps52
 go_wp2
 go_loopg [11] k (fun kq v11 w'=>∃ (x11_1:Int),v11 = .int .i64 x11_1∧Aside0 (recur_rises.l0 kq l0 a1 a2 l0 (l0.length:Int) x11_1=some r)∧Aside0 (kq≤k)∧Drawn0 w w')
 case atStart=>exact ⟨(0),val_,H',⟨Nat.le_refl _⟩,by repeat (first | exact Drawn0.refl _ | apply Drawn0.step)⟩
 case round =>
  clear H';obtain ⟨x11_1,rfl,HA,HK1,⟨m1,rfl⟩⟩:=hrel
  cases gk with
  | zero=>exact absurd HA.out (by simp [recur_rises.l0])
  | succ k1 =>
   have H:=HA.out;clear HA
   simp only [recur_rises.l0] at H
   replace H:=dc_ H;rcases H with ⟨H,c4b0⟩|⟨H,c4b0⟩
   ·replace H:=ind_ H;obtain ⟨c5b0,H⟩:=H
    replace H:=ind_ H;obtain ⟨c6b0,H⟩:=H
    replace H:=dc_ H;rcases H with ⟨H,c7b0⟩|⟨H,c7b0⟩
    ·obtain rfl:=Option.some.inj H;have p104:0≤(x11_1:Int):=dec_;have q104:x11_1 < (l0.length:Int):=dec_;obtain ⟨ad104,e104,hx104_0⟩:=Kd.at_int HR0.out x11_1 p104 q104
     cases e104
     replace p104:=eq_true p104;replace q104:=eq_true q104
     go_wp2
     go_ret
     exact ⟨val_,by repeat (first | exact Drawn0.refl _ | apply Drawn0.step)⟩
    ·replace H:=dg_ H;rcases H with ⟨H,c8b0⟩|⟨H,c8b0⟩
     ·obtain rfl:=Option.some.inj H;have p104:0≤(x11_1:Int):=dec_;have q104:x11_1 < (l0.length:Int):=dec_;obtain ⟨ad104,e104,hx104_0⟩:=Kd.at_int HR0.out x11_1 p104 q104
      cases e104
      replace p104:=eq_true p104;replace q104:=eq_true q104
      go_wp2
      go_ret
      exact ⟨val_,by repeat (first | exact Drawn0.refl _ | apply Drawn0.step)⟩
     ·replace H:=de_ H;rcases H with ⟨H,-,c9b0,c9b1⟩|⟨H,c9,c9b0,c9b1⟩
      ·obtain rfl:=Option.some.inj H;have p104:0≤(x11_1:Int):=dec_;have q104:x11_1 < (l0.length:Int):=dec_;obtain ⟨ad104,e104,hx104_0⟩:=Kd.at_int HR0.out x11_1 p104 q104
       cases e104
       replace p104:=eq_true p104;replace q104:=eq_true q104
       go_wp2
       go_ret
       exact ⟨val_,by repeat (first | exact Drawn0.refl _ | apply Drawn0.step)⟩
      ·replace H:=dg_ H;rcases H with ⟨H,c10b0⟩|⟨H,c10b0⟩
       ·obtain ⟨ji11,hji11⟩:∃ j_:Int,(wrap64 (x11_1 - 1))=j_:=⟨_,rfl⟩
        replace H:(if 0≤(ji11) then (if (ji11) < (l0.length:Int) then (if (rd l0 (ji11)) ≥ (rd l0 x11_1) then (some false) else (recur_rises.l0 k1 l0 a1 a2 l0 (l0.length:Int) (wrap64 (x11_1 + 1)))) else (none)) else (none))=some r:=by first | (rw [hji11] at H;exact H) | (simp only [hji11] at H ⊢;exact H)
        have hji11w:(IntKind.i64.wrap (x11_1 - 1))=ji11:=(i64_w _).trans hji11
        replace H:=ind_ H;obtain ⟨c12b0,H⟩:=H
        replace H:=ind_ H;obtain ⟨c13b0,H⟩:=H
        replace H:=dh_ H;rcases H with ⟨H,c14b0⟩|⟨H,c14b0⟩
        ·obtain rfl:=Option.some.inj H;have p104:0≤(x11_1:Int):=dec_;have q104:x11_1 < (l0.length:Int):=dec_;obtain ⟨ad104,e104,hx104_0⟩:=Kd.at_int HR0.out x11_1 p104 q104
         cases e104
         replace p104:=eq_true p104;replace q104:=eq_true q104;have p105:0≤((ji11):Int):=dec_;have q105:(ji11) < (l0.length:Int):=dec_;obtain ⟨ad105,e105,hx105_0⟩:=Kd.at_int HR0.out (ji11) p105 q105;obtain rfl:ad104=ad105:=(by injection e105);replace p105:=eq_true p105;replace q105:=eq_true q105
         go_wp2
         go_ret
         exact ⟨by first | rfl | (simp;done) | (simp only [← hji11] <;> (first | rfl | simp)) | (simp [*];done),by repeat (first | exact Drawn0.refl _ | apply Drawn0.step)⟩
        ·have H':=ad_ H;clear H;have p104:0≤(x11_1:Int):=dec_;have q104:x11_1 < (l0.length:Int):=dec_;obtain ⟨ad104,e104,hx104_0⟩:=Kd.at_int HR0.out x11_1 p104 q104
         cases e104
         replace p104:=eq_true p104;replace q104:=eq_true q104;have p105:0≤((ji11):Int):=dec_;have q105:(ji11) < (l0.length:Int):=dec_;obtain ⟨ad105,e105,hx105_0⟩:=Kd.at_int HR0.out (ji11) p105 q105;obtain rfl:ad104=ad105:=(by injection e105);replace p105:=eq_true p105;replace q105:=eq_true q105
         go_wp2
         go_roundg k1
         case measure=>have:=HK1.out;omega
         case rel=>exact ⟨(wrap64 (x11_1 + 1)),val_,H',⟨by have:=HK1.out;omega⟩,by repeat (first | exact Drawn0.refl _ | apply Drawn0.step)⟩
       ·have H':=ad_ H;clear H;have p104:0≤(x11_1:Int):=dec_;have q104:x11_1 < (l0.length:Int):=dec_;obtain ⟨ad104,e104,hx104_0⟩:=Kd.at_int HR0.out x11_1 p104 q104
        cases e104
        replace p104:=eq_true p104;replace q104:=eq_true q104
        go_wp2
        go_roundg k1
        case measure=>have:=HK1.out;omega
        case rel=>exact ⟨(wrap64 (x11_1 + 1)),val_,H',⟨by have:=HK1.out;omega⟩,by repeat (first | exact Drawn0.refl _ | apply Drawn0.step)⟩
   ·obtain rfl:=Option.some.inj H
    go_wp2
    go_ret
    exact ⟨val_,by repeat (first | exact Drawn0.refl _ | apply Drawn0.step)⟩
def recur_order.f (a0_0 a0_1:Int) (a1_0 a1_1:Int):Option (Int):=if a0_0=a1_0 then (some (wrap64 (a0_1 - a1_1))) else (some (wrap64 (a0_0 - a1_0)))
set_option maxHeartbeats 8000000 in
set_option maxRecDepth 100000 in
theorem recur_order.calls (a0_0 a0_1:Int) (a1_0 a1_1 r:Int) (w:World) (h:recur_order.f a0_0 a0_1 a1_0 a1_1=some r) :
  Calls Tryz.prog 53 #[.agg #[.int .i64 a0_0,.int .i64 a0_1],.agg #[.int .i64 a1_0,.int .i64 a1_1]] w fun e w'=>e = .returned (.int .i64 r)∧Below w.heap.size w w':=by
 have hu91:=Tryz.underlying91;have HB:=ad_ (Below.refl w.heap.size w);have H:(if a0_0=a1_0 then (some (wrap64 (a0_1 - a1_1))) else (some (wrap64 (a0_0 - a1_0))))=some r:=h;clear h
 replace H:=de_ H;rcases H with ⟨H,-,c3b0,c3b1⟩|⟨H,c3,c3b0,c3b1⟩
 ·obtain rfl:=Option.some.inj H
  go_enter Tryz.func53,Tryz.ntmps53
  go_wp2_with (first | ((with_reducible refine gate_dst (N:=2) rfl ?_);refine bx_ 2 91 ?_;intro gb106 hg w4 hbox hb;have BK106:=ad_ (hbox);have GW106:=gw_ w hg;have GE106:=GW106;replace HB:=hbb_ hb;clear hb hbox hg) | ((with_reducible refine gate_dst (N:=3) rfl ?_);refine bx_ 3 91 ?_;intro gb107 hg w5 hbox hb;have BK107:=ad_ (hbox);have GW107:=gw_ w hg;have GE107:=GW107;replace HB:=hbb_ hb;have NB106_107:=nlt_ hg BK106;have NB107_106:=ngt_ hg BK106;replace BK106:=bkb_ BK106 hb;clear hb hbox hg;have hnb6:=NB106_107.out;have hnc6:=NB107_106.out;have hcz7_:=cells2_ BK106.out;have hcz8_:=cells2_ BK107.out))
  go_ret
  exact ⟨ret_,belg_⟩
 ·obtain rfl:=Option.some.inj H
  go_enter Tryz.func53,Tryz.ntmps53
  go_wp2_with (first | ((with_reducible refine gate_dst (N:=2) rfl ?_);refine bx_ 2 91 ?_;intro gb106 hg w9 hbox hb;have BK106:=ad_ (hbox);have GW106:=gw_ w hg;have GE106:=GW106;replace HB:=hbb_ hb;clear hb hbox hg) | ((with_reducible refine gate_dst (N:=3) rfl ?_);refine bx_ 3 91 ?_;intro gb107 hg w10 hbox hb;have BK107:=ad_ (hbox);have GW107:=gw_ w hg;have GE107:=GW107;replace HB:=hbb_ hb;have NB106_107:=nlt_ hg BK106;have NB107_106:=ngt_ hg BK106;replace BK106:=bkb_ BK106 hb;clear hb hbox hg;have hnb11:=NB106_107.out;have hnc11:=NB107_106.out;have hcz12_:=cells2_ BK106.out;have hcz13_:=cells2_ BK107.out))
  go_ret
  exact ⟨ret_,belg_⟩
end Go.Proofs.YtkgkblmeafhkfaaGreat.PH

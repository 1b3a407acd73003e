-- Written by a program of the session (wip/tools).
import Derived.Test.YtbeihceeliifeaaGreatDoorPRx0
namespace Go.Proofs.YtbeihceeliifeaaGreatDoor.PR
open Go.RowKit Go.Proofs.YtbeihceeliifeaaGreatDoorW.PrintWords Go.Proofs.YtbeihceeliifeaaGreatDoorW.PrintLast Go.Proofs.YtbeihceeliifeaaGreatDoorW.PrintMore
attribute [local go_sem] max2_int min2_int max_two min_two max_three min_three max_four min_four   -- for this text's walks alone
set_option linter.unusedVariables false
set_option linter.unusedSimpArgs false

/-! ### posthornlaw21_Great: function 8 -/
def posthornlaw21_Great.f (a0_0:Int) (a0_1:Int) (a0_2:Int) (a0_3:Int) (l0_4:List Int) (l0_5:List Int) (l0_6:List (S53)):Option (Bool):=if (wrap64 ((l0_4.length:Int) + (l0_5.length:Int))) > 100 then (some true) else (some (decide ((l0_6.length:Int) > 100)))
set_option maxHeartbeats 8000000 in
set_option maxRecDepth 100000 in
theorem posthornlaw21_Great.calls (a0_0:Int) (a0_1:Int) (a0_2:Int) (a0_3:Int) (A0_4:Option Addr) (c0_4:Nat) (l0_4:List Int) (A0_5:Option Addr) (c0_5:Nat) (l0_5:List Int) (A0_6:Option Addr) (c0_6:Nat) (l0_6:List (S53)) (r:Bool) (w:World) (hr0_4:Kd.C (Kd.int .i64) w A0_4 l0_4.length l0_4) (hc0_4:l0_4.length≤c0_4) (hr0_5:Kd.C (Kd.int .i64) w A0_5 l0_5.length l0_5) (hc0_5:l0_5.length≤c0_5) (hr0_6:Kd.C k53 w A0_6 l0_6.length l0_6) (hc0_6:l0_6.length≤c0_6) (h:posthornlaw21_Great.f a0_0 a0_1 a0_2 a0_3 l0_4 l0_5 l0_6=some r) :
  Calls Tryz.prog 8 #[.agg #[.int .i64 a0_0,.int .i64 a0_1,.int .i64 a0_2,.int .i64 a0_3,.slice A0_4 l0_4.length c0_4,.slice A0_5 l0_5.length c0_5,.slice A0_6 l0_6.length c0_6]] w fun e w'=>e = .returned (.bool r)∧Below w.heap.size w w':=by
 have hu25:=Tryz.underlying25;have HR0_4:=Aside0.mk hr0_4;have HC0_4:=Aside0.mk hc0_4;clear hr0_4 hc0_4;have HR0_5:=Aside0.mk hr0_5;have HC0_5:=Aside0.mk hc0_5;clear hr0_5 hc0_5;have HR0_6:=Aside0.mk hr0_6;have HC0_6:=Aside0.mk hc0_6;clear hr0_6 hc0_6;have HB:=ad_ (Below.refl w.heap.size w);have H:(if (wrap64 ((l0_4.length:Int) + (l0_5.length:Int))) > 100 then (some true) else (some (decide ((l0_6.length:Int) > 100))))=some r:=h;clear h
 by_cases c2:(wrap64 ((l0_4.length:Int) + (l0_5.length:Int))) > 100
 ·rw [if_pos c2] at H;have c2b0:decide (100 < (wrap64 ((l0_4.length:Int) + (l0_5.length:Int))))=true:=decide_eq_true c2;clear c2;obtain rfl:=Option.some.inj H
  go_enter Tryz.func8,Tryz.ntmps8
  go_wp2_with (first | ((with_reducible refine gate_dst (N:=1) rfl ?_);(try (refine gate_guard (by rfl) ?_;dsimp only));refine box_event ?hg (N:=1) ?hd (cs:=#[.int .i64 a0_0,.int .i64 a0_1,.int .i64 a0_2,.int .i64 a0_3,.slice A0_4 l0_4.length c0_4,.slice A0_5 l0_5.length c0_5,.slice A0_6 l0_6.length c0_6]) (t:=25) ?hr ?_;(case hd=>rfl);(case hg=>rfl);(case hr=>first | (go_simp;done) | (go_simp;rfl));intro gb101 hg w3 hbox hb;have BK101:=ad_ (hbox);have GW101:=ad_ ((by rw [hg];exact (below_size bel_):w.heap.size≤gb101));have GE101:=ad_ ((by rw [hg];exact (below_size bel_):w.heap.size≤gb101));replace HB:=hbb_ hb;clear hb hbox hg;have hcz4_:=cells7_ BK101.out))
  go_ret
  exact ⟨ret_,belg_⟩
 ·rw [if_neg c2] at H;have c2b0:decide (100 < (wrap64 ((l0_4.length:Int) + (l0_5.length:Int))))=false:=decide_eq_false c2;clear c2;obtain rfl:=Option.some.inj H
  go_enter Tryz.func8,Tryz.ntmps8
  go_wp2_with (first | ((with_reducible refine gate_dst (N:=1) rfl ?_);(try (refine gate_guard (by rfl) ?_;dsimp only));refine box_event ?hg (N:=1) ?hd (cs:=#[.int .i64 a0_0,.int .i64 a0_1,.int .i64 a0_2,.int .i64 a0_3,.slice A0_4 l0_4.length c0_4,.slice A0_5 l0_5.length c0_5,.slice A0_6 l0_6.length c0_6]) (t:=25) ?hr ?_;(case hd=>rfl);(case hg=>rfl);(case hr=>first | (go_simp;done) | (go_simp;rfl));intro gb101 hg w5 hbox hb;have BK101:=ad_ (hbox);have GW101:=ad_ ((by rw [hg];exact (below_size bel_):w.heap.size≤gb101));have GE101:=ad_ ((by rw [hg];exact (below_size bel_):w.heap.size≤gb101));replace HB:=hbb_ hb;clear hb hbox hg;have hcz6_:=cells7_ BK101.out))
  go_ret
  exact ⟨ret_,belg_⟩

/-! ### when_Right: function 24 -/
def when_Right.f (a0:Int):Option (Bool):=if a0 ≥ 0 then (some (decide (a0≤253402300799))) else (some false)
set_option maxHeartbeats 8000000 in
set_option maxRecDepth 100000 in
theorem when_Right.calls (a0:Int) (r:Bool) (w:World) (h:when_Right.f a0=some r) :
  Calls Tryz.prog 24 #[.int .i64 a0] w fun e w'=>e = .returned (.bool r)∧Drawn0 w w':=by
 have H:(if a0 ≥ 0 then (some (decide (a0≤253402300799))) else (some false))=some r:=h;clear h
 by_cases c2:a0 ≥ 0
 ·rw [if_pos c2] at H;have c2b0:decide (0≤a0)=true:=decide_eq_true c2;clear c2;obtain rfl:=Option.some.inj H
  go_enter Tryz.func24,Tryz.ntmps24
  go_wp2
  go_ret
  exact ⟨val_,by repeat (first | exact Drawn0.refl _ | apply Drawn0.step)⟩
 ·rw [if_neg c2] at H;have c2b0:decide (0≤a0)=false:=decide_eq_false c2;clear c2;obtain rfl:=Option.some.inj H
  go_enter Tryz.func24,Tryz.ntmps24
  go_wp2
  go_ret
  exact ⟨val_,by repeat (first | exact Drawn0.refl _ | apply Drawn0.step)⟩

/-! ### recur_rises: function 32 -/
def recur_rises.l0:Nat→List Int→Int→Int→List Int→Int→Int→Option (Bool)
 | 0,_,_,_,_,_,_=>none
 | k + 1,x0,x1,x2,x9,x10,x11=>if x11 < x10 then (if 0≤x11 then (if x11 < (x9.length:Int) then (if (rd x9 x11) < x1 then (some false) else (if (rd x9 x11) > x2 then (some false) else (if (rd x9 x11)=0 then (some false) else (if x11 > 0 then (if 0≤(wrap64 (x11 - 1)) then (if (wrap64 (x11 - 1)) < (x0.length:Int) then (if (rd x0 (wrap64 (x11 - 1))) ≥ (rd x9 x11) then (some false) else (recur_rises.l0 k x0 x1 x2 x9 x10 (wrap64 (x11 + 1)))) else (none)) else (none)) else (recur_rises.l0 k x0 x1 x2 x9 x10 (wrap64 (x11 + 1))))))) else (none)) else (none)) else (some true)
def recur_rises.f (k:Nat) (l0:List Int) (a1:Int) (a2:Int):Option (Bool):=recur_rises.l0 k l0 a1 a2 l0 (l0.length:Int) 0
set_option maxHeartbeats 8000000 in
set_option maxRecDepth 100000 in
theorem recur_rises.calls (k:Nat) (A0:Option Addr) (c0:Nat) (l0:List Int) (a1:Int) (a2:Int) (r:Bool) (w:World) (hr0:Kd.C (Kd.int .i64) w A0 l0.length l0) (hc0:l0.length≤c0) (h:recur_rises.f k l0 a1 a2=some r) :
  Calls Tryz.prog 32 #[.slice A0 l0.length c0,.int .i64 a1,.int .i64 a2] w fun e w'=>e = .returned (.bool r)∧Drawn0 w w':=by
 have HR0:=Aside0.mk hr0;have HC0:=Aside0.mk hc0;clear hr0 hc0;have H:(recur_rises.l0 k l0 a1 a2 l0 (l0.length:Int) 0)=some r:=h;clear h;have H':=ad_ H;clear H
 go_enter Tryz.func32,Tryz.ntmps32
 go_wp2
 go_loopg [11] k (fun kq v11 w'=>∃ (x11_1:Int),v11 = .int .i64 x11_1∧Aside0 (recur_rises.l0 kq l0 a1 a2 l0 (l0.length:Int) x11_1=some r)∧Aside0 (kq≤k)∧Drawn0 w w')
 case atStart=>exact ⟨(0),val_,H',⟨Nat.le_refl _⟩,by repeat (first | exact Drawn0.refl _ | apply Drawn0.step)⟩
 case round =>
  clear H';(try clear p2);(try clear c3);obtain ⟨x11_1,rfl,HA,HK1,⟨m1,rfl⟩⟩:=hrel
  cases gk with
  | zero=>exact absurd HA.out (by simp [recur_rises.l0])
  | succ k1 =>
   have H:=HA.out;clear HA
   simp only [recur_rises.l0] at H
   by_cases c4:x11_1 < (l0.length:Int)
   ·rw [if_pos c4] at H;have c4b0:decide (x11_1 < (l0.length:Int))=true:=decide_eq_true c4;clear c4
    by_cases c5:0≤x11_1
    ·rw [if_pos c5] at H;have c5b0:decide (0≤x11_1)=true:=decide_eq_true c5;clear c5
     by_cases c6:x11_1 < (l0.length:Int)
     ·rw [if_pos c6] at H;have c6b0:decide (x11_1 < (l0.length:Int))=true:=decide_eq_true c6;clear c6
      by_cases c7:(rd l0 x11_1) < a1
      ·rw [if_pos c7] at H;have c7b0:decide ((rd l0 x11_1) < a1)=true:=decide_eq_true c7;clear c7;obtain rfl:=Option.some.inj H;have p102:0≤(x11_1:Int):=dec_;have q102:x11_1 < (l0.length:Int):=dec_;obtain ⟨ad102,e102,hx102_0⟩:=Kd.at_int HR0.out x11_1 p102 q102
       cases e102
       replace p102:=eq_true p102;replace q102:=eq_true q102
       go_wp2
       go_ret
       exact ⟨val_,by repeat (first | exact Drawn0.refl _ | apply Drawn0.step)⟩
      ·rw [if_neg c7] at H;have c7b0:decide ((rd l0 x11_1) < a1)=false:=decide_eq_false c7;clear c7
       by_cases c8:(rd l0 x11_1) > a2
       ·rw [if_pos c8] at H;have c8b0:decide (a2 < (rd l0 x11_1))=true:=decide_eq_true c8;clear c8;obtain rfl:=Option.some.inj H;have p102:0≤(x11_1:Int):=dec_;have q102:x11_1 < (l0.length:Int):=dec_;obtain ⟨ad102,e102,hx102_0⟩:=Kd.at_int HR0.out x11_1 p102 q102
        cases e102
        replace p102:=eq_true p102;replace q102:=eq_true q102
        go_wp2
        go_ret
        exact ⟨val_,by repeat (first | exact Drawn0.refl _ | apply Drawn0.step)⟩
       ·rw [if_neg c8] at H;have c8b0:decide (a2 < (rd l0 x11_1))=false:=decide_eq_false c8;clear c8
        by_cases c9:(rd l0 x11_1)=0
        ·rw [if_pos c9] at H;have c9b0:((rd l0 x11_1) == 0)=true:=beq_iff_eq.mpr c9;have c9b1:((rd l0 x11_1) != 0)=false:=bne_eq_false_iff_eq.mpr c9;clear c9;obtain rfl:=Option.some.inj H;have p102:0≤(x11_1:Int):=dec_;have q102:x11_1 < (l0.length:Int):=dec_;obtain ⟨ad102,e102,hx102_0⟩:=Kd.at_int HR0.out x11_1 p102 q102
         cases e102
         replace p102:=eq_true p102;replace q102:=eq_true q102
         go_wp2
         go_ret
         exact ⟨val_,by repeat (first | exact Drawn0.refl _ | apply Drawn0.step)⟩
        ·rw [if_neg c9] at H;have c9b0:((rd l0 x11_1) == 0)=false:=beq_eq_false_iff_ne.mpr c9;have c9b1:((rd l0 x11_1) != 0)=true:=bne_iff_ne.mpr c9
         by_cases c10:x11_1 > 0
         ·rw [if_pos c10] at H;have c10b0:decide (0 < x11_1)=true:=decide_eq_true c10;clear c10;obtain ⟨ji11,hji11⟩:∃ j_:Int,(wrap64 (x11_1 - 1))=j_:=⟨_,rfl⟩
          replace H:(if 0≤(ji11) then (if (ji11) < (l0.length:Int) then (if (rd l0 (ji11)) ≥ (rd l0 x11_1) then (some false) else (recur_rises.l0 k1 l0 a1 a2 l0 (l0.length:Int) (wrap64 (x11_1 + 1)))) else (none)) else (none))=some r:=by first | (rw [hji11] at H;exact H) | (simp only [hji11] at H ⊢;exact H)
          have hji11w:(IntKind.i64.wrap (x11_1 - 1))=ji11:=(i64_w _).trans hji11
          by_cases c12:0≤(ji11)
          ·rw [if_pos c12] at H;have c12b0:decide (0≤(ji11))=true:=decide_eq_true c12;clear c12
           by_cases c13:(ji11) < (l0.length:Int)
           ·rw [if_pos c13] at H;have c13b0:decide ((ji11) < (l0.length:Int))=true:=decide_eq_true c13;clear c13
            by_cases c14:(rd l0 (ji11)) ≥ (rd l0 x11_1)
            ·rw [if_pos c14] at H;have c14b0:decide ((rd l0 x11_1)≤(rd l0 (ji11)))=true:=decide_eq_true c14;clear c14;obtain rfl:=Option.some.inj H;have p102:0≤(x11_1:Int):=dec_;have q102:x11_1 < (l0.length:Int):=dec_;obtain ⟨ad102,e102,hx102_0⟩:=Kd.at_int HR0.out x11_1 p102 q102
             cases e102
             replace p102:=eq_true p102;replace q102:=eq_true q102;have p103:0≤((ji11):Int):=dec_;have q103:(ji11) < (l0.length:Int):=dec_;obtain ⟨ad103,e103,hx103_0⟩:=Kd.at_int HR0.out (ji11) p103 q103;obtain rfl:ad102=ad103:=(by injection e103);replace p103:=eq_true p103;replace q103:=eq_true q103
             go_wp2
             go_ret
             exact ⟨by first | rfl | (simp;done) | (simp only [← hji11] <;> (first | rfl | simp)) | (simp [*];done),by repeat (first | exact Drawn0.refl _ | apply Drawn0.step)⟩
            ·rw [if_neg c14] at H;have c14b0:decide ((rd l0 x11_1)≤(rd l0 (ji11)))=false:=decide_eq_false c14;clear c14;have H':=ad_ H;clear H;have p102:0≤(x11_1:Int):=dec_;have q102:x11_1 < (l0.length:Int):=dec_;obtain ⟨ad102,e102,hx102_0⟩:=Kd.at_int HR0.out x11_1 p102 q102
             cases e102
             replace p102:=eq_true p102;replace q102:=eq_true q102;have p103:0≤((ji11):Int):=dec_;have q103:(ji11) < (l0.length:Int):=dec_;obtain ⟨ad103,e103,hx103_0⟩:=Kd.at_int HR0.out (ji11) p103 q103;obtain rfl:ad102=ad103:=(by injection e103);replace p103:=eq_true p103;replace q103:=eq_true q103
             go_wp2
             go_roundg k1
             case measure=>have:=HK1.out;omega
             case rel=>exact ⟨(wrap64 (x11_1 + 1)),val_,H',⟨by have:=HK1.out;omega⟩,by repeat (first | exact Drawn0.refl _ | apply Drawn0.step)⟩
           ·rw [if_neg c13] at H;exact absurd H (by simp)
          ·rw [if_neg c12] at H;exact absurd H (by simp)
         ·rw [if_neg c10] at H;have c10b0:decide (0 < x11_1)=false:=decide_eq_false c10;clear c10;have H':=ad_ H;clear H;have p102:0≤(x11_1:Int):=dec_;have q102:x11_1 < (l0.length:Int):=dec_;obtain ⟨ad102,e102,hx102_0⟩:=Kd.at_int HR0.out x11_1 p102 q102
          cases e102
          replace p102:=eq_true p102;replace q102:=eq_true q102
          go_wp2
          go_roundg k1
          case measure=>have:=HK1.out;omega
          case rel=>exact ⟨(wrap64 (x11_1 + 1)),val_,H',⟨by have:=HK1.out;omega⟩,by repeat (first | exact Drawn0.refl _ | apply Drawn0.step)⟩
     ·rw [if_neg c6] at H;exact absurd H (by simp)
    ·rw [if_neg c5] at H;exact absurd H (by simp)
   ·rw [if_neg c4] at H;have c4b0:decide (x11_1 < (l0.length:Int))=false:=decide_eq_false c4;clear c4;obtain rfl:=Option.some.inj H
    go_wp2
    go_ret
    exact ⟨val_,by repeat (first | exact Drawn0.refl _ | apply Drawn0.step)⟩

/-! ### recur_order: function 33 -/
def recur_order.f (a0_0:Int) (a0_1:Int) (a1_0:Int) (a1_1:Int):Option (Int):=if a0_0=a1_0 then (some (wrap64 (a0_1 - a1_1))) else (some (wrap64 (a0_0 - a1_0)))
set_option maxHeartbeats 8000000 in
set_option maxRecDepth 100000 in
theorem recur_order.calls (a0_0:Int) (a0_1:Int) (a1_0:Int) (a1_1:Int) (r:Int) (w:World) (h:recur_order.f a0_0 a0_1 a1_0 a1_1=some r) :
  Calls Tryz.prog 33 #[.agg #[.int .i64 a0_0,.int .i64 a0_1],.agg #[.int .i64 a1_0,.int .i64 a1_1]] w fun e w'=>e = .returned (.int .i64 r)∧Below w.heap.size w w':=by
 have hu53:=Tryz.underlying53;have HB:=ad_ (Below.refl w.heap.size w);have H:(if a0_0=a1_0 then (some (wrap64 (a0_1 - a1_1))) else (some (wrap64 (a0_0 - a1_0))))=some r:=h;clear h
 by_cases c3:a0_0=a1_0
 ·rw [if_pos c3] at H;have c3b0:(a0_0 == a1_0)=true:=beq_iff_eq.mpr c3;have c3b1:(a0_0 != a1_0)=false:=bne_eq_false_iff_eq.mpr c3;clear c3;obtain rfl:=Option.some.inj H
  go_enter Tryz.func33,Tryz.ntmps33
  go_wp2_with (first | ((with_reducible refine gate_dst (N:=2) rfl ?_);refine box_event ?hg (N:=2) ?hd (cs:=#[.int .i64 a0_0,.int .i64 a0_1]) (t:=53) ?hr ?_;(case hd=>rfl);(case hg=>rfl);(case hr=>first | (go_simp;done) | (go_simp;rfl));intro gb104 hg w4 hbox hb;have BK104:=ad_ (hbox);have GW104:=ad_ ((by rw [hg];exact (below_size bel_):w.heap.size≤gb104));have GE104:=ad_ ((by rw [hg];exact (below_size bel_):w.heap.size≤gb104));replace HB:=hbb_ hb;clear hb hbox hg) | ((with_reducible refine gate_dst (N:=3) rfl ?_);refine box_event ?hg (N:=3) ?hd (cs:=#[.int .i64 a1_0,.int .i64 a1_1]) (t:=53) ?hr ?_;(case hd=>rfl);(case hg=>rfl);(case hr=>first | (go_simp;done) | (go_simp;rfl));intro gb105 hg w5 hbox hb;have BK105:=ad_ (hbox);have GW105:=ad_ ((by rw [hg];exact (below_size belg_):w.heap.size≤gb105));have GE105:=ad_ ((by rw [hg];exact (below_size belg_):w.heap.size≤gb105));replace HB:=hbb_ hb;have NB104_105:=ad_ ((by rw [hg];exact Nat.ne_of_lt (blk_lt (g:=gb104) (o:=.cells #[.int .i64 a0_0,.int .i64 a0_1] 53 (0,0)) (blo_ BK104.out)):gb104≠gb105));have NB105_104:=ad_ ((by rw [hg];exact Nat.ne_of_gt (blk_lt (g:=gb104) (o:=.cells #[.int .i64 a0_0,.int .i64 a0_1] 53 (0,0)) (blo_ BK104.out)):gb105≠gb104));replace BK104:=ad_ (blk_below (g:=gb104) (o:=.cells #[.int .i64 a0_0,.int .i64 a0_1] 53 (0,0)) (blo_ BK104.out) hb);clear hb hbox hg;have hnb6:=NB104_105.out;have hnc6:=NB105_104.out;have hcz7_:=cells2_ BK104.out;have hcz8_:=cells2_ BK105.out))
  go_ret
  exact ⟨ret_,belg_⟩
 ·rw [if_neg c3] at H;have c3b0:(a0_0 == a1_0)=false:=beq_eq_false_iff_ne.mpr c3;have c3b1:(a0_0 != a1_0)=true:=bne_iff_ne.mpr c3;obtain rfl:=Option.some.inj H
  go_enter Tryz.func33,Tryz.ntmps33
  go_wp2_with (first | ((with_reducible refine gate_dst (N:=2) rfl ?_);refine box_event ?hg (N:=2) ?hd (cs:=#[.int .i64 a0_0,.int .i64 a0_1]) (t:=53) ?hr ?_;(case hd=>rfl);(case hg=>rfl);(case hr=>first | (go_simp;done) | (go_simp;rfl));intro gb104 hg w9 hbox hb;have BK104:=ad_ (hbox);have GW104:=ad_ ((by rw [hg];exact (below_size bel_):w.heap.size≤gb104));have GE104:=ad_ ((by rw [hg];exact (below_size bel_):w.heap.size≤gb104));replace HB:=hbb_ hb;clear hb hbox hg) | ((with_reducible refine gate_dst (N:=3) rfl ?_);refine box_event ?hg (N:=3) ?hd (cs:=#[.int .i64 a1_0,.int .i64 a1_1]) (t:=53) ?hr ?_;(case hd=>rfl);(case hg=>rfl);(case hr=>first | (go_simp;done) | (go_simp;rfl));intro gb105 hg w10 hbox hb;have BK105:=ad_ (hbox);have GW105:=ad_ ((by rw [hg];exact (below_size belg_):w.heap.size≤gb105));have GE105:=ad_ ((by rw [hg];exact (below_size belg_):w.heap.size≤gb105));replace HB:=hbb_ hb;have NB104_105:=ad_ ((by rw [hg];exact Nat.ne_of_lt (blk_lt (g:=gb104) (o:=.cells #[.int .i64 a0_0,.int .i64 a0_1] 53 (0,0)) (blo_ BK104.out)):gb104≠gb105));have NB105_104:=ad_ ((by rw [hg];exact Nat.ne_of_gt (blk_lt (g:=gb104) (o:=.cells #[.int .i64 a0_0,.int .i64 a0_1] 53 (0,0)) (blo_ BK104.out)):gb105≠gb104));replace BK104:=ad_ (blk_below (g:=gb104) (o:=.cells #[.int .i64 a0_0,.int .i64 a0_1] 53 (0,0)) (blo_ BK104.out) hb);clear hb hbox hg;have hnb11:=NB104_105.out;have hnc11:=NB105_104.out;have hcz12_:=cells2_ BK104.out;have hcz13_:=cells2_ BK105.out))
  go_ret
  exact ⟨ret_,belg_⟩

/-! ### posthornlaw21_Far: function 13 -/
def posthornlaw21_Far.f (a0:Int) (a1:Int):Option (Bool):=if a0 > 8589934592 then (if a1 > a0 then (some (decide ((wrap64 (a1 - a0)) > 67108864))) else (some false)) else (some false)
set_option maxHeartbeats 8000000 in
set_option maxRecDepth 100000 in
theorem posthornlaw21_Far.calls (a0:Int) (a1:Int) (r:Bool) (w:World) (h:posthornlaw21_Far.f a0 a1=some r) :
  Calls Tryz.prog 13 #[.int .i64 a0,.int .i64 a1] w fun e w'=>e = .returned (.bool r)∧Drawn0 w w':=by
 have H:(if a0 > 8589934592 then (if a1 > a0 then (some (decide ((wrap64 (a1 - a0)) > 67108864))) else (some false)) else (some false))=some r:=h;clear h
 by_cases c3:a0 > 8589934592
 ·rw [if_pos c3] at H;have c3b0:decide (8589934592 < a0)=true:=decide_eq_true c3;clear c3
  by_cases c4:a1 > a0
  ·rw [if_pos c4] at H;have c4b0:decide (a0 < a1)=true:=decide_eq_true c4;clear c4;obtain rfl:=Option.some.inj H
   go_enter Tryz.func13,Tryz.ntmps13
   go_wp2
   go_ret
   exact ⟨val_,by repeat (first | exact Drawn0.refl _ | apply Drawn0.step)⟩
  ·rw [if_neg c4] at H;have c4b0:decide (a0 < a1)=false:=decide_eq_false c4;clear c4;obtain rfl:=Option.some.inj H
   go_enter Tryz.func13,Tryz.ntmps13
   go_wp2
   go_ret
   exact ⟨val_,by repeat (first | exact Drawn0.refl _ | apply Drawn0.step)⟩
 ·rw [if_neg c3] at H;have c3b0:decide (8589934592 < a0)=false:=decide_eq_false c3;clear c3;obtain rfl:=Option.some.inj H
  go_enter Tryz.func13,Tryz.ntmps13
  go_wp2
  go_ret
  exact ⟨val_,by repeat (first | exact Drawn0.refl _ | apply Drawn0.step)⟩

end Go.Proofs.YtbeihceeliifeaaGreatDoor.PR

-- Written by a program of the session (wip/tools).
import Derived.Test.YtkgkblmeafhkfaaGreatPHx0
import Derived.Test.YtkgkblmeafhkfaaGreatPHx4
import Derived.Test.YtkgkblmeafhkfaaGreatPHx5
import Derived.Test.YtkgkblmeafhkfaaGreatPHx8
import Derived.Test.YtkgkblmeafhkfaaGreatPHx9
namespace Go.Proofs.YtkgkblmeafhkfaaGreat.PH
open Go.RowKit Go.Proofs.YtkgkblmeafhkfaaGreatW.PrintWords Go.Proofs.YtkgkblmeafhkfaaGreatW.PrintLast Go.Proofs.YtkgkblmeafhkfaaGreatW.PrintMore
attribute [local go_sem] max2_int min2_int max_two min_two max_three min_three max_four min_four   -- for this text's walks alone
set_option linter.unusedVariables false
set_option linter.unusedSimpArgs false

def recur_match.j0:Nat→Int→Int→Int→Int→Int→Int→Int→Int→Int→Int→Int→Bool→Int→Int→Int→Int→List Int→List Int→List (S91)→Option (Bool)
 | 0,_,_,_,_,_,_,_,_,_,_,_,_,_,_,_,_,_,_,_=>none
 | k + 1,x1,x2,x7,x8,x9,x11,x12,x13,x15,x17,x19,x62,y0,y1,y2,y3,y4,y5,y6=>if x62=true then (some false) else (if y0=1 then (if x19=0 then (none) else (if (Int.tmod (wrap64 (x2 - x1)) x19)=0 then ((recur_Rule_on.f k y0 y1 y2 y3 y4 y5 y6 x15).bind fun t170=>(some t170)) else (some false))) else (if y0=2 then (if x19=0 then (none) else (if (Int.tmod (wrap64 (Int.tdiv (wrap64 ((wrap64 ((wrap64 (x2 - x15)) - x1)) + x17)) 7)) x19)=0 then (if (y6.length:Int) > 0 then ((recur_Rule_on.f k y0 y1 y2 y3 y4 y5 y6 x15).bind fun t171=>(if t171=true then (some true) else (if (y6.length:Int)=0 then (some (x15 == x17)) else (some false)))) else (if (y6.length:Int)=0 then (some (x15 == x17)) else (some false))) else (some false))) else (if y0=3 then (if x19=0 then (none) else (if (Int.tmod (wrap64 ((wrap64 ((wrap64 (12 * (wrap64 (x11 - x7)))) + x12)) - x8)) x19)=0 then ((recur_Rule_may.f k y0 y1 y2 y3 y4 y5 y6 x11 x12 x13 x15 x9).bind fun t172=>(some t172)) else (some false))) else (if x19=0 then (none) else (if (Int.tmod (wrap64 (x11 - x7)) x19)=0 then (if (y4.length:Int) > 0 then ((recur_Rule_may.f k y0 y1 y2 y3 y4 y5 y6 x11 x12 x13 x15 x9).bind fun t173=>(some t173)) else (if x12=x8 then ((recur_Rule_may.f k y0 y1 y2 y3 y4 y5 y6 x11 x12 x13 x15 x9).bind fun t174=>(some t174)) else (some false))) else (some false))))))
def recur_match.f (k:Nat) (a0_0 a0_1:Int) (a0_2 a0_3:Int) (l0_4 l0_5:List Int) (l0_6:List (S91)) (a1 a2:Int):Option (Bool):=(when_Civil.f k a1).bind fun bt157=>((when_Civil.f k a2).bind fun bt161=>((date_Weekday.f a2).bind fun bt165=>((date_Weekday.f a1).bind fun bt167=>(if a2 < a1 then (recur_match.j0 k a1 a2 bt157.1 bt157.2.1 bt157.2.2.1 bt161.1 bt161.2.1 bt161.2.2.1 bt165.1 bt167.1 a0_1 true a0_0 a0_1 a0_2 a0_3 l0_4 l0_5 l0_6) else (if (l0_4.length:Int) > 0 then ((slices_Contains_int_int.f k l0_4 bt161.2.1).bind fun t169=>(recur_match.j0 k a1 a2 bt157.1 bt157.2.1 bt157.2.2.1 bt161.1 bt161.2.1 bt161.2.2.1 bt165.1 bt167.1 a0_1 (!t169) a0_0 a0_1 a0_2 a0_3 l0_4 l0_5 l0_6)) else (recur_match.j0 k a1 a2 bt157.1 bt157.2.1 bt157.2.2.1 bt161.1 bt161.2.1 bt161.2.2.1 bt165.1 bt167.1 a0_1 false a0_0 a0_1 a0_2 a0_3 l0_4 l0_5 l0_6))))))
set_option maxHeartbeats 8000000 in
set_option maxRecDepth 100000 in
theorem recur_match.calls (k:Nat) (a0_0 a0_1:Int) (a0_2 a0_3:Int) (A0_4:Option Addr) (c0_4:Nat) (l0_4:List Int) (A0_5:Option Addr) (c0_5:Nat) (l0_5:List Int) (A0_6:Option Addr) (c0_6:Nat) (l0_6:List (S91)) (a1 a2:Int) (r:Bool) (w:World) (hr0_4:Kd.C (Kd.int .i64) w A0_4 l0_4.length l0_4) (hc0_4:l0_4.length≤c0_4) (hr0_5:Kd.C (Kd.int .i64) w A0_5 l0_5.length l0_5) (hc0_5:l0_5.length≤c0_5) (hr0_6:Kd.C k91 w A0_6 l0_6.length l0_6) (hc0_6:l0_6.length≤c0_6) (h:recur_match.f k a0_0 a0_1 a0_2 a0_3 l0_4 l0_5 l0_6 a1 a2=some r) :
  Calls Tryz.prog 85 #[.agg #[.int .i64 a0_0,.int .i64 a0_1,.int .i64 a0_2,.int .i64 a0_3,.slice A0_4 l0_4.length c0_4,.slice A0_5 l0_5.length c0_5,.slice A0_6 l0_6.length c0_6],.int .i64 a1,.int .i64 a2] w fun e w'=>e = .returned (.bool r)∧Below w.heap.size w w':=by
 have hu25:=Tryz.underlying25;have HR0_4:=Aside0.mk hr0_4;have HC0_4:=Aside0.mk hc0_4;clear hr0_4 hc0_4;have HR0_5:=Aside0.mk hr0_5;have HC0_5:=Aside0.mk hc0_5;clear hr0_5 hc0_5;have HR0_6:=Aside0.mk hr0_6;have HC0_6:=Aside0.mk hc0_6;clear hr0_6 hc0_6;have HB:=ad_ (Below.refl w.heap.size w);have H:((when_Civil.f k a1).bind fun bt157=>((when_Civil.f k a2).bind fun bt161=>((date_Weekday.f a2).bind fun bt165=>((date_Weekday.f a1).bind fun bt167=>(if a2 < a1 then (recur_match.j0 k a1 a2 bt157.1 bt157.2.1 bt157.2.2.1 bt161.1 bt161.2.1 bt161.2.2.1 bt165.1 bt167.1 a0_1 true a0_0 a0_1 a0_2 a0_3 l0_4 l0_5 l0_6) else (if (l0_4.length:Int) > 0 then ((slices_Contains_int_int.f k l0_4 bt161.2.1).bind fun t169=>(recur_match.j0 k a1 a2 bt157.1 bt157.2.1 bt157.2.2.1 bt161.1 bt161.2.1 bt161.2.2.1 bt165.1 bt167.1 a0_1 (!t169) a0_0 a0_1 a0_2 a0_3 l0_4 l0_5 l0_6)) else (recur_match.j0 k a1 a2 bt157.1 bt157.2.1 bt157.2.2.1 bt161.1 bt161.2.1 bt161.2.2.1 bt165.1 bt167.1 a0_1 false a0_0 a0_1 a0_2 a0_3 l0_4 l0_5 l0_6)))))))=some r:=h;clear h;replace H:=Option.bind_eq_some_iff.mp H;obtain ⟨⟨t157,t158,t159,t160⟩,A40,H⟩:=H
 try dsimp only at H
 have A4:=ad_ A40;clear A40;replace H:=Option.bind_eq_some_iff.mp H;obtain ⟨⟨t161,t162,t163,t164⟩,A50,H⟩:=H
 try dsimp only at H
 have A5:=ad_ A50;clear A50;replace H:=Option.bind_eq_some_iff.mp H;obtain ⟨⟨t165,t166⟩,A60,H⟩:=H
 try dsimp only at H
 have A6:=ad_ A60;clear A60;replace H:=Option.bind_eq_some_iff.mp H;obtain ⟨⟨t167,t168⟩,A70,H⟩:=H
 try dsimp only at H
 have A7:=ad_ A70;clear A70;have HC8:=Aside0.mk H;clear H
 go_enter Tryz.func85,Tryz.ntmps85
 go_upto_region 6 with (first | ((with_reducible refine gate_dst (N:=3) rfl ?_);(try (refine gate_guard (by rfl) ?_;dsimp only));refine bx_ 3 25 ?_;intro gb156 hg w9 hbox hb;have BK156:=ad_ (hbox);have GW156:=gw_ w hg;have GE156:=GW156;replace HB:=hbb_ hb;clear hb hbox hg) | ((with_reducible refine gate_callee (f:=104) rfl ?_);refine gl_ 23 Tryz.func104 (when_Civil.calls k a1 t157 t158 t159 t160 _ A4.out) ?_;rintro e w10 ⟨rfl,hb⟩;refine ⟨_,rfl,?_⟩;replace BK156:=bkb_ BK156 hb;replace HB:=hbb_ hb;clear hb) | ((with_reducible refine gate_callee (f:=104) rfl ?_);refine gl_ 30 Tryz.func104 (when_Civil.calls k a2 t161 t162 t163 t164 _ A5.out) ?_;rintro e w11 ⟨rfl,hb⟩;refine ⟨_,rfl,?_⟩;replace BK156:=bkb_ BK156 hb;replace HB:=hbb_ hb;clear hb) | ((with_reducible refine gate_callee (f:=105) rfl ?_);refine gl_ 37 Tryz.func105 (date_Weekday.calls a2 t165 t166 _ A6.out) ?_;rintro e w' ⟨rfl,⟨nd,rfl⟩⟩;refine ⟨_,rfl,?_⟩) | ((with_reducible refine gate_callee (f:=105) rfl ?_);refine gl_ 42 Tryz.func105 (date_Weekday.calls a1 t167 t168 _ A7.out) ?_;rintro e w' ⟨rfl,⟨nd,rfl⟩⟩;refine ⟨_,rfl,?_⟩;have hcz12_:=cells7_ BK156.out))
 (try simp only [Act.put,List.setIfInBounds_toArray,List.set_cons_zero,List.set_cons_succ])
 go_cut [62] (fun v62 wc=>∃ (kq:Nat) (x62_7:Bool),v62 = .bool x62_7∧Aside0 (recur_match.j0 kq a1 a2 t157 t158 t159 t161 t162 t163 t165 t167 a0_1 x62_7 a0_0 a0_1 a0_2 a0_3 l0_4 l0_5 l0_6=some r)∧Aside0 (kq≤k)∧Aside0 (wc.heap[gb156]? = some (.cells #[.int .i64 a0_0,.int .i64 a0_1,.int .i64 a0_2,.int .i64 a0_3,(.slice A0_4 l0_4.length c0_4),(.slice A0_5 l0_5.length c0_5),(.slice A0_6 l0_6.length c0_6)] 25 (0,0)))∧Aside0 (Below w.heap.size w wc))
 case first =>
  have H:=HC8.out;clear HC8
  replace H:=dc_ H;rcases H with ⟨H,c13b0⟩|⟨H,c13b0⟩
  ·(first | rw [c13b0] | (simp only [i64_w,i32_w];rw [c13b0]) | skip)
   have H':=ad_ H;clear H
   go_wp2
   go_meet
   case rel=>exact ⟨_,(true),val_,H',⟨by first | omega | exact Nat.le_refl _⟩,⟨blo_ BK156.out⟩,⟨belg_⟩⟩
  ·(first | rw [c13b0] | (simp only [i64_w,i32_w];rw [c13b0]) | skip)
   by_cases c14:(l0_4.length:Int) > 0
   ·rw [if_pos c14] at H;have c14b0:decide (0 < (l0_4.length:Int))=true:=decide_eq_true c14;have c14b1:decide (0 < l0_4.length)=true:=decide_eq_true (by omega);clear c14;obtain ⟨t169,A150,H⟩:=bnd_ H
    try dsimp only at H
    have A15:=ad_ A150;clear A150;have H':=ad_ H;clear H;have hcz16_:=cells7_ BK156.out
    go_wp2_with (first | (go_at_call 106;(with_reducible refine (slices_Contains_int_int.calls k _ _ l0_4 t162 t169 _ ?_ ?_ A15.out).mono ?_);(iterate 2 exact sc_);rintro e w' ⟨rfl,⟨nd,rfl⟩⟩))
    go_meet
    case rel=>exact ⟨_,(!t169),val_,H',⟨by first | omega | exact Nat.le_refl _⟩,⟨blo_ BK156.out⟩,⟨belg_⟩⟩
   ·rw [if_neg c14] at H;have c14b0:decide (0 < (l0_4.length:Int))=false:=decide_eq_false c14;have c14b1:decide (0 < l0_4.length)=false:=decide_eq_false (by omega);clear c14;have H':=ad_ H;clear H;have hcz17_:=cells7_ BK156.out
    go_wp2
    go_meet
    case rel=>exact ⟨_,(false),val_,H',⟨by first | omega | exact Nat.le_refl _⟩,⟨blo_ BK156.out⟩,⟨belg_⟩⟩
 case rest =>
  clear HC8;clear hcz12_;obtain ⟨kq,x62_7,rfl,HA,HJ7,BK156,HB⟩:=hcut
  cases kq with
  | zero=>exact absurd HA.out (by simp [recur_match.j0])
  | succ kj7 =>
   have H:=HA.out;clear HA
   simp only [recur_match.j0] at H
   replace H:=db_ H;rcases H with ⟨rfl,H⟩|⟨rfl,H⟩
   ·obtain rfl:=Option.some.inj H
    go_wp2
    go_ret
    exact ⟨ret_,belg_⟩
   ·replace H:=de_ H;rcases H with ⟨H,-,c19b0,c19b1⟩|⟨H,c19,c19b0,c19b1⟩
    ·by_cases c20:a0_1=0
     ·rw [if_pos c20] at H;exact absurd H (by simp)
     ·rw [if_neg c20] at H;have c20b0:(a0_1 == 0)=false:=beq_eq_false_iff_ne.mpr c20;have c20b1:(a0_1 != 0)=true:=bne_iff_ne.mpr c20
      replace H:=de_ H;rcases H with ⟨H,-,c21b0,c21b1⟩|⟨H,c21,c21b0,c21b1⟩
      ·obtain ⟨t170,A220,H⟩:=bnd_ H
       try dsimp only at H
       have A22:=ad_ A220;clear A220;obtain rfl:=Option.some.inj H;have hcz23_:=cells7_ BK156.out
       go_wp2_with (first | (go_at_call 107;(with_reducible refine (recur_Rule_on.calls kj7 a0_0 a0_1 a0_2 a0_3 _ _ l0_4 _ _ l0_5 _ _ l0_6 t165 t170 _ ?_ ?_ ?_ ?_ ?_ ?_ A22.out).mono ?_);(iterate 6 exact sc_);rintro e w24 ⟨rfl,hb⟩;replace BK156:=bkb_ BK156 hb;replace HB:=hbb_ hb;clear hb))
       go_ret
       exact ⟨ret_,belg_⟩
      ·obtain rfl:=Option.some.inj H;have hcz25_:=cells7_ BK156.out
       go_wp2
       go_ret
       exact ⟨ret_,belg_⟩
    ·replace H:=de_ H;rcases H with ⟨H,-,c26b0,c26b1⟩|⟨H,c26,c26b0,c26b1⟩
     ·by_cases c27:a0_1=0
      ·rw [if_pos c27] at H;exact absurd H (by simp)
      ·rw [if_neg c27] at H;have c27b0:(a0_1 == 0)=false:=beq_eq_false_iff_ne.mpr c27;have c27b1:(a0_1 != 0)=true:=bne_iff_ne.mpr c27
       replace H:=de_ H;rcases H with ⟨H,-,c28b0,c28b1⟩|⟨H,c28,c28b0,c28b1⟩
       ·by_cases c29:(l0_6.length:Int) > 0
        ·rw [if_pos c29] at H;have c29b0:decide (0 < (l0_6.length:Int))=true:=decide_eq_true c29;have c29b1:decide (0 < l0_6.length)=true:=decide_eq_true (by omega);clear c29;obtain ⟨t171,A300,H⟩:=bnd_ H
         try dsimp only at H
         have A30:=ad_ A300;clear A300
         replace H:=db_ H;rcases H with ⟨rfl,H⟩|⟨rfl,H⟩
         ·obtain rfl:=Option.some.inj H;have hcz32_:=cells7_ BK156.out
          go_wp2_with (first | (go_at_call 107;(with_reducible refine (recur_Rule_on.calls kj7 a0_0 a0_1 a0_2 a0_3 _ _ l0_4 _ _ l0_5 _ _ l0_6 t165 true _ ?_ ?_ ?_ ?_ ?_ ?_ A30.out).mono ?_);(iterate 6 exact sc_);rintro e w33 ⟨rfl,hb⟩;replace BK156:=bkb_ BK156 hb;replace HB:=hbb_ hb;clear hb))
          go_ret
          exact ⟨ret_,belg_⟩
         ·replace H:=de_ H;rcases H with ⟨H,-,c34b0,c34b1⟩|⟨H,c34,c34b0,c34b1⟩
          ·obtain rfl:=Option.some.inj H;have hcz35_:=cells7_ BK156.out
           go_wp2_with (first | (go_at_call 107;(with_reducible refine (recur_Rule_on.calls kj7 a0_0 a0_1 a0_2 a0_3 _ _ l0_4 _ _ l0_5 _ _ l0_6 t165 false _ ?_ ?_ ?_ ?_ ?_ ?_ A30.out).mono ?_);(iterate 6 exact sc_);rintro e w36 ⟨rfl,hb⟩;replace BK156:=bkb_ BK156 hb;replace HB:=hbb_ hb;clear hb;have hcz37_:=cells7_ BK156.out))
           go_ret
           exact ⟨ret_,belg_⟩
          ·have c34b2:¬(l0_6 = []):=fun h_=>c34 (by rw [h_];rfl)
           obtain rfl:=Option.some.inj H;have hcz38_:=cells7_ BK156.out
           go_wp2_with (first | (go_at_call 107;(with_reducible refine (recur_Rule_on.calls kj7 a0_0 a0_1 a0_2 a0_3 _ _ l0_4 _ _ l0_5 _ _ l0_6 t165 false _ ?_ ?_ ?_ ?_ ?_ ?_ A30.out).mono ?_);(iterate 6 exact sc_);rintro e w39 ⟨rfl,hb⟩;replace BK156:=bkb_ BK156 hb;replace HB:=hbb_ hb;clear hb;have hcz40_:=cells7_ BK156.out))
           go_ret
           exact ⟨ret_,belg_⟩
        ·rw [if_neg c29] at H;have c29b0:decide (0 < (l0_6.length:Int))=false:=decide_eq_false c29;have c29b1:decide (0 < l0_6.length)=false:=decide_eq_false (by omega);clear c29
         replace H:=de_ H;rcases H with ⟨H,-,c41b0,c41b1⟩|⟨H,c41,c41b0,c41b1⟩
         ·obtain rfl:=Option.some.inj H;have hcz42_:=cells7_ BK156.out
          go_wp2
          go_ret
          exact ⟨ret_,belg_⟩
         ·have c41b2:¬(l0_6 = []):=fun h_=>c41 (by rw [h_];rfl)
          obtain rfl:=Option.some.inj H;have hcz43_:=cells7_ BK156.out
          go_wp2
          go_ret
          exact ⟨ret_,belg_⟩
       ·obtain rfl:=Option.some.inj H;have hcz44_:=cells7_ BK156.out
        go_wp2
        go_ret
        exact ⟨ret_,belg_⟩
     ·replace H:=de_ H;rcases H with ⟨H,-,c45b0,c45b1⟩|⟨H,c45,c45b0,c45b1⟩
      ·by_cases c46:a0_1=0
       ·rw [if_pos c46] at H;exact absurd H (by simp)
       ·rw [if_neg c46] at H;have c46b0:(a0_1 == 0)=false:=beq_eq_false_iff_ne.mpr c46;have c46b1:(a0_1 != 0)=true:=bne_iff_ne.mpr c46
        replace H:=de_ H;rcases H with ⟨H,-,c47b0,c47b1⟩|⟨H,c47,c47b0,c47b1⟩
        ·obtain ⟨t172,A480,H⟩:=bnd_ H
         try dsimp only at H
         have A48:=ad_ A480;clear A480;obtain rfl:=Option.some.inj H;have hcz49_:=cells7_ BK156.out
         go_wp2_with (first | (go_at_call 108;(with_reducible refine (recur_Rule_may.calls kj7 a0_0 a0_1 a0_2 a0_3 _ _ l0_4 _ _ l0_5 _ _ l0_6 t161 t162 t163 t165 t159 t172 _ ?_ ?_ ?_ ?_ ?_ ?_ A48.out).mono ?_);(iterate 6 exact sc_);rintro e w50 ⟨rfl,hb⟩;replace BK156:=bkb_ BK156 hb;replace HB:=hbb_ hb;clear hb))
         go_ret
         exact ⟨ret_,belg_⟩
        ·obtain rfl:=Option.some.inj H;have hcz51_:=cells7_ BK156.out
         go_wp2
         go_ret
         exact ⟨ret_,belg_⟩
      ·by_cases c52:a0_1=0
       ·rw [if_pos c52] at H;exact absurd H (by simp)
       ·rw [if_neg c52] at H;have c52b0:(a0_1 == 0)=false:=beq_eq_false_iff_ne.mpr c52;have c52b1:(a0_1 != 0)=true:=bne_iff_ne.mpr c52
        replace H:=de_ H;rcases H with ⟨H,-,c53b0,c53b1⟩|⟨H,c53,c53b0,c53b1⟩
        ·by_cases c54:(l0_4.length:Int) > 0
         ·rw [if_pos c54] at H;have c54b0:decide (0 < (l0_4.length:Int))=true:=decide_eq_true c54;have c54b1:decide (0 < l0_4.length)=true:=decide_eq_true (by omega);clear c54;obtain ⟨t173,A550,H⟩:=bnd_ H
          try dsimp only at H
          have A55:=ad_ A550;clear A550;obtain rfl:=Option.some.inj H;have hcz56_:=cells7_ BK156.out
          go_wp2_with (first | (go_at_call 108;(with_reducible refine (recur_Rule_may.calls kj7 a0_0 a0_1 a0_2 a0_3 _ _ l0_4 _ _ l0_5 _ _ l0_6 t161 t162 t163 t165 t159 t173 _ ?_ ?_ ?_ ?_ ?_ ?_ A55.out).mono ?_);(iterate 6 exact sc_);rintro e w57 ⟨rfl,hb⟩;replace BK156:=bkb_ BK156 hb;replace HB:=hbb_ hb;clear hb))
          go_ret
          exact ⟨ret_,belg_⟩
         ·rw [if_neg c54] at H;have c54b0:decide (0 < (l0_4.length:Int))=false:=decide_eq_false c54;have c54b1:decide (0 < l0_4.length)=false:=decide_eq_false (by omega);clear c54
          replace H:=de_ H;rcases H with ⟨H,-,c58b0,c58b1⟩|⟨H,c58,c58b0,c58b1⟩
          ·obtain ⟨t174,A590,H⟩:=bnd_ H
           try dsimp only at H
           have A59:=ad_ A590;clear A590;obtain rfl:=Option.some.inj H;have hcz60_:=cells7_ BK156.out
           go_wp2_with (first | (go_at_call 108;(with_reducible refine (recur_Rule_may.calls kj7 a0_0 a0_1 a0_2 a0_3 _ _ l0_4 _ _ l0_5 _ _ l0_6 t161 t162 t163 t165 t159 t174 _ ?_ ?_ ?_ ?_ ?_ ?_ A59.out).mono ?_);(iterate 6 exact sc_);rintro e w61 ⟨rfl,hb⟩;replace BK156:=bkb_ BK156 hb;replace HB:=hbb_ hb;clear hb))
           go_ret
           exact ⟨ret_,belg_⟩
          ·obtain rfl:=Option.some.inj H;have hcz62_:=cells7_ BK156.out
           go_wp2
           go_ret
           exact ⟨ret_,belg_⟩
        ·obtain rfl:=Option.some.inj H;have hcz63_:=cells7_ BK156.out
         go_wp2
         go_ret
         exact ⟨ret_,belg_⟩
def recur_Expand.f (k:Nat) (a0_0 a0_1 a0_2 a0_3:Int) (l0_4 l0_5:List Int) (l0_6:List S91) (a1 a2 a3 a4:Int):Option (List Int×Int) :=
 (recur_Right.f k a0_0 a0_1 a0_2 a0_3 l0_4 l0_5 l0_6).bind fun ok =>
 if ok=true∧(0≤a1∧a1≤253402300799)∧(0≤a2∧a2≤253402300799)∧(0≤a3∧a3≤253402300799)∧a3 - a1≤631152000∧(1≤a4∧a4≤1000)∧(1≤a0_1∧a0_1≤1000) then
  (Expand.exDays (fun kq d=>recur_match.f kq a0_0 a0_1 a0_2 a0_3 l0_4 l0_5 l0_6 (a1 / 86400) d) (a1 / 86400) (min (a3 / 86400) 2932896) (if a0_0=1 then a0_1 else 1) k (a1 / 86400)).bind fun xs=>some (Expand.exRun a0_2 a0_3 a1 a2 a3 a4 0 [] xs,0)
 else none
theorem recur_Expand.calls (k:Nat) (a0_0 a0_1:Int) (a0_2 a0_3:Int) (A0_4:Option Addr) (c0_4:Nat) (l0_4:List Int) (A0_5:Option Addr) (c0_5:Nat) (l0_5:List Int) (A0_6:Option Addr) (c0_6:Nat) (l0_6:List (S91)) (a1 a2 a3 a4:Int) (r1:List Int) (r2:Int) (w:World) (hr0_4:Kd.C (Kd.int .i64) w A0_4 l0_4.length l0_4) (hc0_4:l0_4.length≤c0_4) (hr0_5:Kd.C (Kd.int .i64) w A0_5 l0_5.length l0_5) (hc0_5:l0_5.length≤c0_5) (hr0_6:Kd.C k91 w A0_6 l0_6.length l0_6) (hc0_6:l0_6.length≤c0_6) (h:recur_Expand.f k a0_0 a0_1 a0_2 a0_3 l0_4 l0_5 l0_6 a1 a2 a3 a4=some (r1,r2)) :
  Calls Tryz.prog 46 #[.agg #[.int .i64 a0_0,.int .i64 a0_1,.int .i64 a0_2,.int .i64 a0_3,.slice A0_4 l0_4.length c0_4,.slice A0_5 l0_5.length c0_5,.slice A0_6 l0_6.length c0_6],.int .i64 a1,.int .i64 a2,.int .i64 a3,.int .i64 a4] w fun e w'=>∃ v0_:Value,e = .returned (.tuple #[v0_,.int .i64 r2])∧Kd.R (Kd.int .i64) 2 w' w.heap.size (fun _=>True) v0_ r1∧Below w.heap.size w w':=by
 unfold recur_Expand.f at h
 obtain ⟨ok,hok,h⟩:=Option.bind_eq_some_iff.mp h
 by_cases c:ok=true∧(0≤a1∧a1≤253402300799)∧(0≤a2∧a2≤253402300799)∧(0≤a3∧a3≤253402300799)∧a3 - a1≤631152000∧(1≤a4∧a4≤1000)∧(1≤a0_1∧a0_1≤1000)
 ·rw [if_pos c] at h;obtain ⟨xs,hx,h⟩:=Option.bind_eq_some_iff.mp h;obtain ⟨rfl,rfl⟩:=Prod.mk.inj (Option.some.inj h);obtain ⟨rfl,c1,c2,c3,c4,c5,c6⟩:=c
  refine (Expand.expand_main w a0_0 a0_1 a0_2 a0_3 (if a0_0=1 then a0_1 else 1) (.slice A0_4 l0_4.length c0_4) (.slice A0_5 l0_5.length c0_5) (.slice A0_6 l0_6.length c0_6) a1 a2 a3 a4 (fun kq d=>recur_match.f kq a0_0 a0_1 a0_2 a0_3 l0_4 l0_5 l0_6 (a1 / 86400) d) k xs
   (by by_cases e:a0_0=1;(· rw [if_pos e];exact .inl ⟨e,rfl⟩);(· rw [if_neg e];exact .inr ⟨e,rfl⟩)) (by split <;> omega) (by split <;> omega) rfl rfl rfl
   (fun W hb=>recur_Right.calls k a0_0 a0_1 a0_2 a0_3 A0_4 c0_4 l0_4 A0_5 c0_5 l0_5 A0_6 c0_6 l0_6 true W (Kd.C_below hr0_4 hb) hc0_4 (Kd.C_below hr0_5 hb) hc0_5 (Kd.C_below hr0_6 hb) hc0_6 hok)
   (fun t W ht=>(when_Right.calls t true W (by unfold when_Right.f;simp [ht.1,ht.2])).mono fun e w' h=>⟨h.1,h.2.below⟩)
   (fun kq d b W hm hb=>recur_match.calls kq a0_0 a0_1 a0_2 a0_3 A0_4 c0_4 l0_4 A0_5 c0_5 l0_5 A0_6 c0_6 l0_6 (a1 / 86400) d b W (Kd.C_below hr0_4 hb) hc0_4 (Kd.C_below hr0_5 hb) hc0_5 (Kd.C_below hr0_6 hb) hc0_6 hm)
   c1 c2 c3 c4 c5 hx).mono ?_
  rintro e w' ⟨v,rfl,ho,hb⟩;exact ⟨v,rfl,Kd.R_of_own ho (fun _ _=>trivial),hb⟩
 ·rw [if_neg c] at h
  cases h
end Go.Proofs.YtkgkblmeafhkfaaGreat.PH

-- Written by a program of the session (wip/tools).
import Derived.Test.YtkgkblmeafhkfaaGreatPHx0
import Derived.Test.YtkgkblmeafhkfaaGreatPHx21
import Derived.Test.YtkgkblmeafhkfaaGreatPHx22
namespace Go.Proofs.YtkgkblmeafhkfaaGreat.PH
open Go.RowKit Go.Proofs.YtkgkblmeafhkfaaGreatW.PrintWords Go.Proofs.YtkgkblmeafhkfaaGreatW.PrintLast Go.Proofs.YtkgkblmeafhkfaaGreatW.PrintMore
attribute [local go_sem] max2_int min2_int max_two min_two max_three min_three max_four min_four   -- for this text's walks alone
set_option linter.unusedVariables false
set_option linter.unusedSimpArgs false

def pr21_Matches.j0:Nat→Int→Int→Int→Int→Int→Int→Int→Int→Int→Int→Bool→Int→Int→Int→Int→List Int→List Int→List (S92)→Option (Bool)
 | 0,_,_,_,_,_,_,_,_,_,_,_,_,_,_,_,_,_,_=>none
 | k + 1,x1,x2,x7,x8,x9,x11,x12,x13,x15,x17,x57,y0,y1,y2,y3,y4,y5,y6=>if x57=true then (some false) else (if y0=1 then (if y1=0 then (none) else (if (Int.tmod (wrap64 (x2 - x1)) y1)=0 then (if (y6.length:Int)=0 then (some true) else ((pr21_on.f k y0 y1 y2 y3 y4 y5 y6 x15).bind fun t393=>(some t393))) else (some false))) else (if y0=2 then (if y1=0 then (none) else (if (Int.tmod (wrap64 (Int.tdiv (wrap64 ((wrap64 ((wrap64 (x2 - x15)) - x1)) + x17)) 7)) y1)=0 then ((pr21_on.f k y0 y1 y2 y3 y4 y5 y6 x15).bind fun t394=>(if t394=true then (some true) else (if (y6.length:Int)=0 then (some (x15 == x17)) else (some false)))) else (some false))) else (if y0=3 then (if y1=0 then (none) else (if (Int.tmod (wrap64 ((wrap64 ((wrap64 ((wrap64 (12 * x7)) + x8)) - (wrap64 (12 * x11)))) - x12)) y1)=0 then ((pr21_month.f k y0 y1 y2 y3 y4 y5 y6 x7 x8 x9 x15 x13).bind fun t395=>(some t395)) else (some false))) else (if y1=0 then (none) else (if (Int.tmod (wrap64 (x7 - x11)) y1)=0 then (if (y4.length:Int) > 0 then ((pr21_month.f k y0 y1 y2 y3 y4 y5 y6 x7 x8 x9 x15 x13).bind fun t396=>(some t396)) else (if x8=x12 then ((pr21_month.f k y0 y1 y2 y3 y4 y5 y6 x7 x8 x9 x15 x13).bind fun t397=>(some t397)) else (some false))) else (some false))))))
def pr21_Matches.f (k:Nat) (a0_0 a0_1:Int) (a0_2 a0_3:Int) (l0_4 l0_5:List Int) (l0_6:List (S92)) (a1 a2:Int):Option (Bool):=if a2 < a1 then (some false) else ((pr12_Civil.f k a2).bind fun bt380=>((pr12_Civil.f k a1).bind fun bt384=>((pr20_Weekday.f k a2).bind fun bt388=>((pr20_Weekday.f k a1).bind fun bt390=>(if (l0_4.length:Int) > 0 then ((pr21_has.f k l0_4 bt380.2.1).bind fun t392=>(pr21_Matches.j0 k a1 a2 bt380.1 bt380.2.1 bt380.2.2.1 bt384.1 bt384.2.1 bt384.2.2.1 bt388.1 bt390.1 (!t392) a0_0 a0_1 a0_2 a0_3 l0_4 l0_5 l0_6)) else (pr21_Matches.j0 k a1 a2 bt380.1 bt380.2.1 bt380.2.2.1 bt384.1 bt384.2.1 bt384.2.2.1 bt388.1 bt390.1 false a0_0 a0_1 a0_2 a0_3 l0_4 l0_5 l0_6))))))
set_option maxHeartbeats 8000000 in
set_option maxRecDepth 100000 in
theorem pr21_Matches.calls (k:Nat) (a0_0 a0_1:Int) (a0_2 a0_3:Int) (A0_4:Option Addr) (c0_4:Nat) (l0_4:List Int) (A0_5:Option Addr) (c0_5:Nat) (l0_5:List Int) (A0_6:Option Addr) (c0_6:Nat) (l0_6:List (S92)) (a1 a2:Int) (r:Bool) (w:World) (hr0_4:Kd.C (Kd.int .i64) w A0_4 l0_4.length l0_4) (hc0_4:l0_4.length≤c0_4) (hr0_5:Kd.C (Kd.int .i64) w A0_5 l0_5.length l0_5) (hc0_5:l0_5.length≤c0_5) (hr0_6:Kd.C k92 w A0_6 l0_6.length l0_6) (hc0_6:l0_6.length≤c0_6) (h:pr21_Matches.f k a0_0 a0_1 a0_2 a0_3 l0_4 l0_5 l0_6 a1 a2=some r) :
  Calls Tryz.prog 51 #[.agg #[.int .i64 a0_0,.int .i64 a0_1,.int .i64 a0_2,.int .i64 a0_3,.slice A0_4 l0_4.length c0_4,.slice A0_5 l0_5.length c0_5,.slice A0_6 l0_6.length c0_6],.int .i64 a1,.int .i64 a2] w fun e w'=>e = .returned (.bool r)∧Below w.heap.size w w':=by
 have hu34:=Tryz.underlying34;have HR0_4:=Aside0.mk hr0_4;have HC0_4:=Aside0.mk hc0_4;clear hr0_4 hc0_4;have HR0_5:=Aside0.mk hr0_5;have HC0_5:=Aside0.mk hc0_5;clear hr0_5 hc0_5;have HR0_6:=Aside0.mk hr0_6;have HC0_6:=Aside0.mk hc0_6;clear hr0_6 hc0_6;have HB:=ad_ (Below.refl w.heap.size w);have H:(if a2 < a1 then (some false) else ((pr12_Civil.f k a2).bind fun bt380=>((pr12_Civil.f k a1).bind fun bt384=>((pr20_Weekday.f k a2).bind fun bt388=>((pr20_Weekday.f k a1).bind fun bt390=>(if (l0_4.length:Int) > 0 then ((pr21_has.f k l0_4 bt380.2.1).bind fun t392=>(pr21_Matches.j0 k a1 a2 bt380.1 bt380.2.1 bt380.2.2.1 bt384.1 bt384.2.1 bt384.2.2.1 bt388.1 bt390.1 (!t392) a0_0 a0_1 a0_2 a0_3 l0_4 l0_5 l0_6)) else (pr21_Matches.j0 k a1 a2 bt380.1 bt380.2.1 bt380.2.2.1 bt384.1 bt384.2.1 bt384.2.2.1 bt388.1 bt390.1 false a0_0 a0_1 a0_2 a0_3 l0_4 l0_5 l0_6)))))))=some r:=h;clear h
 replace H:=dc_ H;rcases H with ⟨H,c4b0⟩|⟨H,c4b0⟩
 ·obtain rfl:=Option.some.inj H
  go_enter Tryz.func51,Tryz.ntmps51
  go_wp2_with (first | ((with_reducible refine gate_dst (N:=3) rfl ?_);(try (refine gate_guard (by rfl) ?_;dsimp only));refine bx_ 3 34 ?_;intro gb379 hg w5 hbox hb;have BK379:=ad_ (hbox);have GW379:=gw_ w hg;have GE379:=GW379;replace HB:=hbb_ hb;clear hb hbox hg))
  go_ret
  exact ⟨ret_,belg_⟩
 ·replace H:=Option.bind_eq_some_iff.mp H;obtain ⟨⟨t380,t381,t382,t383⟩,A60,H⟩:=H
  try dsimp only at H
  have A6:=ad_ A60;clear A60;replace H:=Option.bind_eq_some_iff.mp H;obtain ⟨⟨t384,t385,t386,t387⟩,A70,H⟩:=H
  try dsimp only at H
  have A7:=ad_ A70;clear A70;replace H:=Option.bind_eq_some_iff.mp H;obtain ⟨⟨t388,t389⟩,A80,H⟩:=H
  try dsimp only at H
  have A8:=ad_ A80;clear A80;replace H:=Option.bind_eq_some_iff.mp H;obtain ⟨⟨t390,t391⟩,A90,H⟩:=H
  try dsimp only at H
  have A9:=ad_ A90;clear A90;have HC10:=Aside0.mk H;clear H
  go_enter Tryz.func51,Tryz.ntmps51
  go_upto_region 7 with (first | ((with_reducible refine gate_dst (N:=3) rfl ?_);(try (refine gate_guard (by rfl) ?_;dsimp only));refine bx_ 3 34 ?_;intro gb379 hg w11 hbox hb;have BK379:=ad_ (hbox);have GW379:=gw_ w hg;have GE379:=GW379;replace HB:=hbb_ hb;clear hb hbox hg) | ((with_reducible refine gate_callee (f:=64) rfl ?_);refine gl_ 25 Tryz.func64 (pr12_Civil.calls k a2 t380 t381 t382 t383 _ A6.out) ?_;rintro e w' ⟨rfl,⟨nd,rfl⟩⟩;refine ⟨_,rfl,?_⟩) | ((with_reducible refine gate_callee (f:=64) rfl ?_);refine gl_ 32 Tryz.func64 (pr12_Civil.calls k a1 t384 t385 t386 t387 _ A7.out) ?_;rintro e w' ⟨rfl,⟨nd,rfl⟩⟩;refine ⟨_,rfl,?_⟩) | ((with_reducible refine gate_callee (f:=65) rfl ?_);refine gl_ 39 Tryz.func65 (pr20_Weekday.calls k a2 t388 t389 _ A8.out) ?_;rintro e w' ⟨rfl,⟨nd,rfl⟩⟩;refine ⟨_,rfl,?_⟩) | ((with_reducible refine gate_callee (f:=65) rfl ?_);refine gl_ 44 Tryz.func65 (pr20_Weekday.calls k a1 t390 t391 _ A9.out) ?_;rintro e w' ⟨rfl,⟨nd,rfl⟩⟩;refine ⟨_,rfl,?_⟩))
  (try simp only [Act.put,List.setIfInBounds_toArray,List.set_cons_zero,List.set_cons_succ])
  go_cut [57] (fun v57 wc=>∃ (kq:Nat) (x57_9:Bool),v57 = .bool x57_9∧Aside0 (pr21_Matches.j0 kq a1 a2 t380 t381 t382 t384 t385 t386 t388 t390 x57_9 a0_0 a0_1 a0_2 a0_3 l0_4 l0_5 l0_6=some r)∧Aside0 (kq≤k)∧Aside0 (wc.heap[gb379]? = some (.cells #[.int .i64 a0_0,.int .i64 a0_1,.int .i64 a0_2,.int .i64 a0_3,(.slice A0_4 l0_4.length c0_4),(.slice A0_5 l0_5.length c0_5),(.slice A0_6 l0_6.length c0_6)] 34 (0,0)))∧Aside0 (Below w.heap.size w wc))
  case first =>
   have H:=HC10.out;clear HC10
   by_cases c12:(l0_4.length:Int) > 0
   ·rw [if_pos c12] at H;have c12b0:decide (0 < (l0_4.length:Int))=true:=decide_eq_true c12;have c12b1:decide (0 < l0_4.length)=true:=decide_eq_true (by omega);clear c12
    (first | rw [c12b0] | (simp only [i64_w,i32_w];rw [c12b0]) | skip)
    obtain ⟨t392,A130,H⟩:=bnd_ H
    try dsimp only at H
    have A13:=ad_ A130;clear A130;have H':=ad_ H;clear H;have hcz14_:=cells7_ BK379.out
    go_wp2_with (first | (go_at_call 66;(with_reducible refine (pr21_has.calls k _ _ l0_4 t381 t392 _ ?_ ?_ A13.out).mono ?_);(iterate 2 exact sc_);rintro e w' ⟨rfl,⟨nd,rfl⟩⟩))
    go_meet
    case rel=>exact ⟨_,(!t392),val_,H',⟨by first | omega | exact Nat.le_refl _⟩,⟨blo_ BK379.out⟩,⟨belg_⟩⟩
   ·rw [if_neg c12] at H;have c12b0:decide (0 < (l0_4.length:Int))=false:=decide_eq_false c12;have c12b1:decide (0 < l0_4.length)=false:=decide_eq_false (by omega);clear c12
    (first | rw [c12b0] | (simp only [i64_w,i32_w];rw [c12b0]) | skip)
    have H':=ad_ H;clear H;have hcz15_:=cells7_ BK379.out
    go_wp2
    go_meet
    case rel=>exact ⟨_,(false),val_,H',⟨by first | omega | exact Nat.le_refl _⟩,⟨blo_ BK379.out⟩,⟨belg_⟩⟩
  case rest =>
   clear HC10;clear c4b0;obtain ⟨kq,x57_9,rfl,HA,HJ9,BK379,HB⟩:=hcut
   cases kq with
   | zero=>exact absurd HA.out (by simp [pr21_Matches.j0])
   | succ kj9 =>
    have H:=HA.out;clear HA
    simp only [pr21_Matches.j0] at H
    replace H:=db_ H;rcases H with ⟨rfl,H⟩|⟨rfl,H⟩
    ·obtain rfl:=Option.some.inj H
     go_wp2
     go_ret
     exact ⟨ret_,belg_⟩
    ·replace H:=de_ H;rcases H with ⟨H,-,c17b0,c17b1⟩|⟨H,c17,c17b0,c17b1⟩
     ·by_cases c18:a0_1=0
      ·rw [if_pos c18] at H;exact absurd H (by simp)
      ·rw [if_neg c18] at H;have c18b0:(a0_1 == 0)=false:=beq_eq_false_iff_ne.mpr c18;have c18b1:(a0_1 != 0)=true:=bne_iff_ne.mpr c18
       replace H:=de_ H;rcases H with ⟨H,-,c19b0,c19b1⟩|⟨H,c19,c19b0,c19b1⟩
       ·replace H:=de_ H;rcases H with ⟨H,-,c20b0,c20b1⟩|⟨H,c20,c20b0,c20b1⟩
        ·obtain rfl:=Option.some.inj H;have hcz21_:=cells7_ BK379.out
         go_wp2
         go_ret
         exact ⟨ret_,belg_⟩
        ·have c20b2:¬(l0_6 = []):=fun h_=>c20 (by rw [h_];rfl)
         obtain ⟨t393,A220,H⟩:=bnd_ H
         try dsimp only at H
         have A22:=ad_ A220;clear A220;obtain rfl:=Option.some.inj H;have hcz23_:=cells7_ BK379.out
         go_wp2_with (first | (go_at_call 67;(with_reducible refine (pr21_on.calls kj9 a0_0 a0_1 a0_2 a0_3 _ _ l0_4 _ _ l0_5 _ _ l0_6 t388 t393 _ ?_ ?_ ?_ ?_ ?_ ?_ A22.out).mono ?_);(iterate 6 exact sc_);rintro e w24 ⟨rfl,hb⟩;replace BK379:=bkb_ BK379 hb;replace HB:=hbb_ hb;clear hb))
         go_ret
         exact ⟨ret_,belg_⟩
       ·obtain rfl:=Option.some.inj H;have hcz25_:=cells7_ BK379.out
        go_wp2
        go_ret
        exact ⟨ret_,belg_⟩
     ·replace H:=de_ H;rcases H with ⟨H,-,c26b0,c26b1⟩|⟨H,c26,c26b0,c26b1⟩
      ·by_cases c27:a0_1=0
       ·rw [if_pos c27] at H;exact absurd H (by simp)
       ·rw [if_neg c27] at H;have c27b0:(a0_1 == 0)=false:=beq_eq_false_iff_ne.mpr c27;have c27b1:(a0_1 != 0)=true:=bne_iff_ne.mpr c27
        replace H:=de_ H;rcases H with ⟨H,-,c28b0,c28b1⟩|⟨H,c28,c28b0,c28b1⟩
        ·obtain ⟨t394,A290,H⟩:=bnd_ H
         try dsimp only at H
         have A29:=ad_ A290;clear A290
         replace H:=db_ H;rcases H with ⟨rfl,H⟩|⟨rfl,H⟩
         ·obtain rfl:=Option.some.inj H;have hcz31_:=cells7_ BK379.out
          go_wp2_with (first | (go_at_call 67;(with_reducible refine (pr21_on.calls kj9 a0_0 a0_1 a0_2 a0_3 _ _ l0_4 _ _ l0_5 _ _ l0_6 t388 true _ ?_ ?_ ?_ ?_ ?_ ?_ A29.out).mono ?_);(iterate 6 exact sc_);rintro e w32 ⟨rfl,hb⟩;replace BK379:=bkb_ BK379 hb;replace HB:=hbb_ hb;clear hb))
          go_ret
          exact ⟨ret_,belg_⟩
         ·replace H:=de_ H;rcases H with ⟨H,-,c33b0,c33b1⟩|⟨H,c33,c33b0,c33b1⟩
          ·obtain rfl:=Option.some.inj H;have hcz34_:=cells7_ BK379.out
           go_wp2_with (first | (go_at_call 67;(with_reducible refine (pr21_on.calls kj9 a0_0 a0_1 a0_2 a0_3 _ _ l0_4 _ _ l0_5 _ _ l0_6 t388 false _ ?_ ?_ ?_ ?_ ?_ ?_ A29.out).mono ?_);(iterate 6 exact sc_);rintro e w35 ⟨rfl,hb⟩;replace BK379:=bkb_ BK379 hb;replace HB:=hbb_ hb;clear hb;have hcz36_:=cells7_ BK379.out))
           go_ret
           exact ⟨ret_,belg_⟩
          ·have c33b2:¬(l0_6 = []):=fun h_=>c33 (by rw [h_];rfl)
           obtain rfl:=Option.some.inj H;have hcz37_:=cells7_ BK379.out
           go_wp2_with (first | (go_at_call 67;(with_reducible refine (pr21_on.calls kj9 a0_0 a0_1 a0_2 a0_3 _ _ l0_4 _ _ l0_5 _ _ l0_6 t388 false _ ?_ ?_ ?_ ?_ ?_ ?_ A29.out).mono ?_);(iterate 6 exact sc_);rintro e w38 ⟨rfl,hb⟩;replace BK379:=bkb_ BK379 hb;replace HB:=hbb_ hb;clear hb;have hcz39_:=cells7_ BK379.out))
           go_ret
           exact ⟨ret_,belg_⟩
        ·obtain rfl:=Option.some.inj H;have hcz40_:=cells7_ BK379.out
         go_wp2
         go_ret
         exact ⟨ret_,belg_⟩
      ·replace H:=de_ H;rcases H with ⟨H,-,c41b0,c41b1⟩|⟨H,c41,c41b0,c41b1⟩
       ·by_cases c42:a0_1=0
        ·rw [if_pos c42] at H;exact absurd H (by simp)
        ·rw [if_neg c42] at H;have c42b0:(a0_1 == 0)=false:=beq_eq_false_iff_ne.mpr c42;have c42b1:(a0_1 != 0)=true:=bne_iff_ne.mpr c42
         replace H:=de_ H;rcases H with ⟨H,-,c43b0,c43b1⟩|⟨H,c43,c43b0,c43b1⟩
         ·obtain ⟨t395,A440,H⟩:=bnd_ H
          try dsimp only at H
          have A44:=ad_ A440;clear A440;obtain rfl:=Option.some.inj H;have hcz45_:=cells7_ BK379.out
          go_wp2_with (first | (go_at_call 68;(with_reducible refine (pr21_month.calls kj9 a0_0 a0_1 a0_2 a0_3 _ _ l0_4 _ _ l0_5 _ _ l0_6 t380 t381 t382 t388 t386 t395 _ ?_ ?_ ?_ ?_ ?_ ?_ A44.out).mono ?_);(iterate 6 exact sc_);rintro e w46 ⟨rfl,hb⟩;replace BK379:=bkb_ BK379 hb;replace HB:=hbb_ hb;clear hb))
          go_ret
          exact ⟨ret_,belg_⟩
         ·obtain rfl:=Option.some.inj H;have hcz47_:=cells7_ BK379.out
          go_wp2
          go_ret
          exact ⟨ret_,belg_⟩
       ·by_cases c48:a0_1=0
        ·rw [if_pos c48] at H;exact absurd H (by simp)
        ·rw [if_neg c48] at H;have c48b0:(a0_1 == 0)=false:=beq_eq_false_iff_ne.mpr c48;have c48b1:(a0_1 != 0)=true:=bne_iff_ne.mpr c48
         replace H:=de_ H;rcases H with ⟨H,-,c49b0,c49b1⟩|⟨H,c49,c49b0,c49b1⟩
         ·by_cases c50:(l0_4.length:Int) > 0
          ·rw [if_pos c50] at H;have c50b0:decide (0 < (l0_4.length:Int))=true:=decide_eq_true c50;have c50b1:decide (0 < l0_4.length)=true:=decide_eq_true (by omega);clear c50;obtain ⟨t396,A510,H⟩:=bnd_ H
           try dsimp only at H
           have A51:=ad_ A510;clear A510;obtain rfl:=Option.some.inj H;have hcz52_:=cells7_ BK379.out
           go_wp2_with (first | (go_at_call 68;(with_reducible refine (pr21_month.calls kj9 a0_0 a0_1 a0_2 a0_3 _ _ l0_4 _ _ l0_5 _ _ l0_6 t380 t381 t382 t388 t386 t396 _ ?_ ?_ ?_ ?_ ?_ ?_ A51.out).mono ?_);(iterate 6 exact sc_);rintro e w53 ⟨rfl,hb⟩;replace BK379:=bkb_ BK379 hb;replace HB:=hbb_ hb;clear hb))
           go_ret
           exact ⟨ret_,belg_⟩
          ·rw [if_neg c50] at H;have c50b0:decide (0 < (l0_4.length:Int))=false:=decide_eq_false c50;have c50b1:decide (0 < l0_4.length)=false:=decide_eq_false (by omega);clear c50
           replace H:=de_ H;rcases H with ⟨H,-,c54b0,c54b1⟩|⟨H,c54,c54b0,c54b1⟩
           ·obtain ⟨t397,A550,H⟩:=bnd_ H
            try dsimp only at H
            have A55:=ad_ A550;clear A550;obtain rfl:=Option.some.inj H;have hcz56_:=cells7_ BK379.out
            go_wp2_with (first | (go_at_call 68;(with_reducible refine (pr21_month.calls kj9 a0_0 a0_1 a0_2 a0_3 _ _ l0_4 _ _ l0_5 _ _ l0_6 t380 t381 t382 t388 t386 t397 _ ?_ ?_ ?_ ?_ ?_ ?_ A55.out).mono ?_);(iterate 6 exact sc_);rintro e w57 ⟨rfl,hb⟩;replace BK379:=bkb_ BK379 hb;replace HB:=hbb_ hb;clear hb))
            go_ret
            exact ⟨ret_,belg_⟩
           ·obtain rfl:=Option.some.inj H;have hcz58_:=cells7_ BK379.out
            go_wp2
            go_ret
            exact ⟨ret_,belg_⟩
         ·obtain rfl:=Option.some.inj H;have hcz59_:=cells7_ BK379.out
          go_wp2
          go_ret
          exact ⟨ret_,belg_⟩
end Go.Proofs.YtkgkblmeafhkfaaGreat.PH

-- Written by a program of the session (wip/tools).
import Derived.Test.YtbeihceeliifeaaGreatDoorPRx0
import Derived.Test.YtbeihceeliifeaaGreatDoorPRx11
import Derived.Test.YtbeihceeliifeaaGreatDoorPRx12
import Derived.Test.YtbeihceeliifeaaGreatDoorPRx13
namespace Go.Proofs.YtbeihceeliifeaaGreatDoor.PR
open Go.RowKit Go.Proofs.YtbeihceeliifeaaGreatDoorW.PrintWords Go.Proofs.YtbeihceeliifeaaGreatDoorW.PrintLast Go.Proofs.YtbeihceeliifeaaGreatDoorW.PrintMore
attribute [local go_sem] max2_int min2_int max_two min_two max_three min_three max_four min_four   -- for this text's walks alone
set_option linter.unusedVariables false
set_option linter.unusedSimpArgs false

/-! ### posthornref21_Matches: function 23 -/
def posthornref21_Matches.j0:Nat→Int→Int→Int→Int→Int→Int→Int→Int→Int→Int→Bool→Int→Int→Int→Int→List Int→List Int→List (S54)→Option (Bool)
 | 0,_,_,_,_,_,_,_,_,_,_,_,_,_,_,_,_,_,_=>none
 | k + 1,x1,x2,x7,x8,x9,x11,x12,x13,x15,x17,x57,x247000,x247001,x247002,x247003,x247004,x247005,x247006=>if x57=true then (some false) else (if x247000=1 then (if x247001=0 then (none) else (if (Int.tmod (wrap64 (x2 - x1)) x247001)=0 then (if (x247006.length:Int)=0 then (some true) else ((posthornref21_on.f k x247000 x247001 x247002 x247003 x247004 x247005 x247006 x15).bind fun t260=>(some t260))) else (some false))) else (if x247000=2 then (if x247001=0 then (none) else (if (Int.tmod (wrap64 (Int.tdiv (wrap64 ((wrap64 ((wrap64 (x2 - x15)) - x1)) + x17)) 7)) x247001)=0 then ((posthornref21_on.f k x247000 x247001 x247002 x247003 x247004 x247005 x247006 x15).bind fun t261=>(if t261=true then (some true) else (if (x247006.length:Int)=0 then (some (x15 == x17)) else (some false)))) else (some false))) else (if x247000=3 then (if x247001=0 then (none) else (if (Int.tmod (wrap64 ((wrap64 ((wrap64 ((wrap64 (12 * x7)) + x8)) - (wrap64 (12 * x11)))) - x12)) x247001)=0 then ((posthornref21_month.f k x247000 x247001 x247002 x247003 x247004 x247005 x247006 x7 x8 x9 x15 x13).bind fun t262=>(some t262)) else (some false))) else (if x247001=0 then (none) else (if (Int.tmod (wrap64 (x7 - x11)) x247001)=0 then (if (x247004.length:Int) > 0 then ((posthornref21_month.f k x247000 x247001 x247002 x247003 x247004 x247005 x247006 x7 x8 x9 x15 x13).bind fun t263=>(some t263)) else (if x8=x12 then ((posthornref21_month.f k x247000 x247001 x247002 x247003 x247004 x247005 x247006 x7 x8 x9 x15 x13).bind fun t264=>(some t264)) else (some false))) else (some false))))))
def posthornref21_Matches.f (k:Nat) (a0_0:Int) (a0_1:Int) (a0_2:Int) (a0_3:Int) (l0_4:List Int) (l0_5:List Int) (l0_6:List (S54)) (a1:Int) (a2:Int):Option (Bool):=if a2 < a1 then (some false) else ((posthornref12_Civil.f k a2).bind fun bt247=>((posthornref12_Civil.f k a1).bind fun bt251=>((posthornref20_Weekday.f k a2).bind fun bt255=>((posthornref20_Weekday.f k a1).bind fun bt257=>(if (l0_4.length:Int) > 0 then ((posthornref21_has.f k l0_4 bt247.2.1).bind fun t259=>(posthornref21_Matches.j0 k a1 a2 bt247.1 bt247.2.1 bt247.2.2.1 bt251.1 bt251.2.1 bt251.2.2.1 bt255.1 bt257.1 (!t259) a0_0 a0_1 a0_2 a0_3 l0_4 l0_5 l0_6)) else (posthornref21_Matches.j0 k a1 a2 bt247.1 bt247.2.1 bt247.2.2.1 bt251.1 bt251.2.1 bt251.2.2.1 bt255.1 bt257.1 false a0_0 a0_1 a0_2 a0_3 l0_4 l0_5 l0_6))))))
set_option maxHeartbeats 8000000 in
set_option maxRecDepth 100000 in
theorem posthornref21_Matches.calls (k:Nat) (a0_0:Int) (a0_1:Int) (a0_2:Int) (a0_3:Int) (A0_4:Option Addr) (c0_4:Nat) (l0_4:List Int) (A0_5:Option Addr) (c0_5:Nat) (l0_5:List Int) (A0_6:Option Addr) (c0_6:Nat) (l0_6:List (S54)) (a1:Int) (a2:Int) (r:Bool) (w:World) (hr0_4:Kd.C (Kd.int .i64) w A0_4 l0_4.length l0_4) (hc0_4:l0_4.length≤c0_4) (hr0_5:Kd.C (Kd.int .i64) w A0_5 l0_5.length l0_5) (hc0_5:l0_5.length≤c0_5) (hr0_6:Kd.C k54 w A0_6 l0_6.length l0_6) (hc0_6:l0_6.length≤c0_6) (h:posthornref21_Matches.f k a0_0 a0_1 a0_2 a0_3 l0_4 l0_5 l0_6 a1 a2=some r) :
  Calls Tryz.prog 23 #[.agg #[.int .i64 a0_0,.int .i64 a0_1,.int .i64 a0_2,.int .i64 a0_3,.slice A0_4 l0_4.length c0_4,.slice A0_5 l0_5.length c0_5,.slice A0_6 l0_6.length c0_6],.int .i64 a1,.int .i64 a2] w fun e w'=>e = .returned (.bool r)∧Below w.heap.size w w':=by
 have hu34:=Tryz.underlying34;have HR0_4:=Aside0.mk hr0_4;have HC0_4:=Aside0.mk hc0_4;clear hr0_4 hc0_4;have HR0_5:=Aside0.mk hr0_5;have HC0_5:=Aside0.mk hc0_5;clear hr0_5 hc0_5;have HR0_6:=Aside0.mk hr0_6;have HC0_6:=Aside0.mk hc0_6;clear hr0_6 hc0_6;have HB:=ad_ (Below.refl w.heap.size w);have H:(if a2 < a1 then (some false) else ((posthornref12_Civil.f k a2).bind fun bt247=>((posthornref12_Civil.f k a1).bind fun bt251=>((posthornref20_Weekday.f k a2).bind fun bt255=>((posthornref20_Weekday.f k a1).bind fun bt257=>(if (l0_4.length:Int) > 0 then ((posthornref21_has.f k l0_4 bt247.2.1).bind fun t259=>(posthornref21_Matches.j0 k a1 a2 bt247.1 bt247.2.1 bt247.2.2.1 bt251.1 bt251.2.1 bt251.2.2.1 bt255.1 bt257.1 (!t259) a0_0 a0_1 a0_2 a0_3 l0_4 l0_5 l0_6)) else (posthornref21_Matches.j0 k a1 a2 bt247.1 bt247.2.1 bt247.2.2.1 bt251.1 bt251.2.1 bt251.2.2.1 bt255.1 bt257.1 false a0_0 a0_1 a0_2 a0_3 l0_4 l0_5 l0_6)))))))=some r:=h;clear h
 by_cases c4:a2 < a1
 ·rw [if_pos c4] at H;have c4b0:decide (a2 < a1)=true:=decide_eq_true c4;clear c4;obtain rfl:=Option.some.inj H
  go_enter Tryz.func23,Tryz.ntmps23
  go_wp2_with (first | ((with_reducible refine gate_dst (N:=3) rfl ?_);(try (refine gate_guard (by rfl) ?_;dsimp only));refine box_event ?hg (N:=3) ?hd (cs:=#[.int .i64 a0_0,.int .i64 a0_1,.int .i64 a0_2,.int .i64 a0_3,.slice A0_4 l0_4.length c0_4,.slice A0_5 l0_5.length c0_5,.slice A0_6 l0_6.length c0_6]) (t:=34) ?hr ?_;(case hd=>rfl);(case hg=>rfl);(case hr=>first | (go_simp;done) | (go_simp;rfl));intro gb246 hg w5 hbox hb;have BK246:=ad_ (hbox);have GW246:=ad_ ((by rw [hg];exact (below_size bel_):w.heap.size≤gb246));have GE246:=ad_ ((by rw [hg];exact (below_size bel_):w.heap.size≤gb246));replace HB:=hbb_ hb;clear hb hbox hg))
  go_ret
  exact ⟨ret_,belg_⟩
 ·rw [if_neg c4] at H;have c4b0:decide (a2 < a1)=false:=decide_eq_false c4;clear c4;replace H:=Option.bind_eq_some_iff.mp H;obtain ⟨⟨t247,t248,t249,t250⟩,A60,H⟩:=H
  try dsimp only at H
  have A6:=ad_ A60;clear A60;replace H:=Option.bind_eq_some_iff.mp H;obtain ⟨⟨t251,t252,t253,t254⟩,A70,H⟩:=H
  try dsimp only at H
  have A7:=ad_ A70;clear A70;replace H:=Option.bind_eq_some_iff.mp H;obtain ⟨⟨t255,t256⟩,A80,H⟩:=H
  try dsimp only at H
  have A8:=ad_ A80;clear A80;replace H:=Option.bind_eq_some_iff.mp H;obtain ⟨⟨t257,t258⟩,A90,H⟩:=H
  try dsimp only at H
  have A9:=ad_ A90;clear A90;have HC10:=Aside0.mk H;clear H
  go_enter Tryz.func23,Tryz.ntmps23
  go_upto_region 7 with (first | ((with_reducible refine gate_dst (N:=3) rfl ?_);(try (refine gate_guard (by rfl) ?_;dsimp only));refine box_event ?hg (N:=3) ?hd (cs:=#[.int .i64 a0_0,.int .i64 a0_1,.int .i64 a0_2,.int .i64 a0_3,.slice A0_4 l0_4.length c0_4,.slice A0_5 l0_5.length c0_5,.slice A0_6 l0_6.length c0_6]) (t:=34) ?hr ?_;(case hd=>rfl);(case hg=>rfl);(case hr=>first | (go_simp;done) | (go_simp;rfl));intro gb246 hg w11 hbox hb;have BK246:=ad_ (hbox);have GW246:=ad_ ((by rw [hg];exact (below_size bel_):w.heap.size≤gb246));have GE246:=ad_ ((by rw [hg];exact (below_size bel_):w.heap.size≤gb246));replace HB:=hbb_ hb;clear hb hbox hg) | ((with_reducible refine gate_callee (f:=41) rfl ?_);refine goesL_ (some 25) rfl rfl Tryz.func41 (by kernel_rfl) rfl #[.int .i64 a2] rfl arg_ ?_;(with_reducible refine (posthornref12_Civil.calls k a2 t247 t248 t249 t250 _ A6.out).mono ?_);rintro e w' ⟨rfl,⟨nd,rfl⟩⟩;refine ⟨_,rfl,?_⟩) | ((with_reducible refine gate_callee (f:=41) rfl ?_);refine goesL_ (some 32) rfl rfl Tryz.func41 (by kernel_rfl) rfl #[.int .i64 a1] rfl arg_ ?_;(with_reducible refine (posthornref12_Civil.calls k a1 t251 t252 t253 t254 _ A7.out).mono ?_);rintro e w' ⟨rfl,⟨nd,rfl⟩⟩;refine ⟨_,rfl,?_⟩) | ((with_reducible refine gate_callee (f:=42) rfl ?_);refine goesL_ (some 39) rfl rfl Tryz.func42 (by kernel_rfl) rfl #[.int .i64 a2] rfl arg_ ?_;(with_reducible refine (posthornref20_Weekday.calls k a2 t255 t256 _ A8.out).mono ?_);rintro e w' ⟨rfl,⟨nd,rfl⟩⟩;refine ⟨_,rfl,?_⟩) | ((with_reducible refine gate_callee (f:=42) rfl ?_);refine goesL_ (some 44) rfl rfl Tryz.func42 (by kernel_rfl) rfl #[.int .i64 a1] rfl arg_ ?_;(with_reducible refine (posthornref20_Weekday.calls k a1 t257 t258 _ A9.out).mono ?_);rintro e w' ⟨rfl,⟨nd,rfl⟩⟩;refine ⟨_,rfl,?_⟩))
  (try simp only [Act.put,List.setIfInBounds_toArray,List.set_cons_zero,List.set_cons_succ])
  go_cut [57] (fun v57 wc=>∃ (kq:Nat) (x57_9:Bool),v57 = .bool x57_9∧Aside0 (posthornref21_Matches.j0 kq a1 a2 t247 t248 t249 t251 t252 t253 t255 t257 x57_9 a0_0 a0_1 a0_2 a0_3 l0_4 l0_5 l0_6=some r)∧Aside0 (kq≤k)∧Aside0 (wc.heap[gb246]? = some (.cells #[.int .i64 a0_0,.int .i64 a0_1,.int .i64 a0_2,.int .i64 a0_3,(.slice A0_4 l0_4.length c0_4),(.slice A0_5 l0_5.length c0_5),(.slice A0_6 l0_6.length c0_6)] 34 (0,0)))∧Aside0 (Below w.heap.size w wc))
  case first =>
   have H:=HC10.out;clear HC10
   by_cases c12:(l0_4.length:Int) > 0
   ·rw [if_pos c12] at H;have c12b0:decide (0 < (l0_4.length:Int))=true:=decide_eq_true c12;have c12b1:decide (0 < l0_4.length)=true:=decide_eq_true (by omega);clear c12
    (first | rw [c12b0] | (simp only [i64_w,i32_w];rw [c12b0]) | skip)
    obtain ⟨t259,A130,H⟩:=bnd_ H
    try dsimp only at H
    have A13:=ad_ A130;clear A130;have H':=ad_ H;clear H;have hcz14_:=cells7_ BK246.out
    go_wp2_with (first | (go_at_call 43;(with_reducible refine (posthornref21_has.calls k _ _ l0_4 t248 t259 _ ?_ ?_ A13.out).mono ?_);(iterate 2 exact sc_);rintro e w' ⟨rfl,⟨nd,rfl⟩⟩))
    go_meet
    case rel=>exact ⟨_,(!t259),val_,H',⟨by first | omega | exact Nat.le_refl _⟩,⟨blo_ BK246.out⟩,⟨belg_⟩⟩
   ·rw [if_neg c12] at H;have c12b0:decide (0 < (l0_4.length:Int))=false:=decide_eq_false c12;have c12b1:decide (0 < l0_4.length)=false:=decide_eq_false (by omega);clear c12
    (first | rw [c12b0] | (simp only [i64_w,i32_w];rw [c12b0]) | skip)
    have H':=ad_ H;clear H;have hcz15_:=cells7_ BK246.out
    go_wp2
    go_meet
    case rel=>exact ⟨_,(false),val_,H',⟨by first | omega | exact Nat.le_refl _⟩,⟨blo_ BK246.out⟩,⟨belg_⟩⟩
  case rest =>
   clear HC10;(try clear c1);(try clear c2);(try clear p2);(try clear c4);(try clear c4b0);(try clear c12);(try clear c12b0);(try clear c12b1);(try clear hcz14_);(try clear hcz15_);obtain ⟨kq,x57_9,rfl,HA,HJ9,BK246,HB⟩:=hcut
   cases kq with
   | zero=>exact absurd HA.out (by simp [posthornref21_Matches.j0])
   | succ kj9 =>
    have H:=HA.out;clear HA
    simp only [posthornref21_Matches.j0] at H
    by_cases c16:x57_9=true
    ·subst c16;replace H:=ifp_ H;obtain rfl:=Option.some.inj H
     go_wp2
     go_ret
     exact ⟨ret_,belg_⟩
    ·replace c16:=Bool.eq_false_iff.mpr c16;subst c16;replace H:=ifn_ H
     by_cases c17:a0_0=1
     ·rw [if_pos c17] at H;have c17b0:(a0_0 == 1)=true:=beq_iff_eq.mpr c17;have c17b1:(a0_0 != 1)=false:=bne_eq_false_iff_eq.mpr c17;clear c17
      by_cases c18:a0_1=0
      ·rw [if_pos c18] at H;exact absurd H (by simp)
      ·rw [if_neg c18] at H;have c18b0:(a0_1 == 0)=false:=beq_eq_false_iff_ne.mpr c18;have c18b1:(a0_1 != 0)=true:=bne_iff_ne.mpr c18
       by_cases c19:(Int.tmod (wrap64 (a2 - a1)) a0_1)=0
       ·rw [if_pos c19] at H;have c19b0:((Int.tmod (wrap64 (a2 - a1)) a0_1) == 0)=true:=beq_iff_eq.mpr c19;have c19b1:((Int.tmod (wrap64 (a2 - a1)) a0_1) != 0)=false:=bne_eq_false_iff_eq.mpr c19;clear c19
        by_cases c20:(l0_6.length:Int)=0
        ·rw [if_pos c20] at H;have c20b0:((l0_6.length:Int) == 0)=true:=beq_iff_eq.mpr c20;have c20b1:((l0_6.length:Int) != 0)=false:=bne_eq_false_iff_eq.mpr c20;clear c20;obtain rfl:=Option.some.inj H;have hcz21_:=cells7_ BK246.out
         go_wp2
         go_ret
         exact ⟨ret_,belg_⟩
        ·rw [if_neg c20] at H;have c20b0:((l0_6.length:Int) == 0)=false:=beq_eq_false_iff_ne.mpr c20;have c20b1:((l0_6.length:Int) != 0)=true:=bne_iff_ne.mpr c20
         have c20b2:¬(l0_6 = []):=fun h_=>c20 (by rw [h_];rfl)
         obtain ⟨t260,A220,H⟩:=bnd_ H
         try dsimp only at H
         have A22:=ad_ A220;clear A220;obtain rfl:=Option.some.inj H;have hcz23_:=cells7_ BK246.out
         go_wp2_with (first | (go_at_call 44;(with_reducible refine (posthornref21_on.calls kj9 a0_0 a0_1 a0_2 a0_3 _ _ l0_4 _ _ l0_5 _ _ l0_6 t255 t260 _ ?_ ?_ ?_ ?_ ?_ ?_ A22.out).mono ?_);(iterate 6 exact sc_);rintro e w24 ⟨rfl,hb⟩;replace BK246:=ad_ (blk_below (g:=gb246) (o:=.cells #[.int .i64 a0_0,.int .i64 a0_1,.int .i64 a0_2,.int .i64 a0_3,.slice A0_4 l0_4.length c0_4,.slice A0_5 l0_5.length c0_5,.slice A0_6 l0_6.length c0_6] 34 (0,0)) (blo_ BK246.out) hb);replace HB:=hbb_ hb;clear hb))
         go_ret
         exact ⟨ret_,belg_⟩
       ·rw [if_neg c19] at H;have c19b0:((Int.tmod (wrap64 (a2 - a1)) a0_1) == 0)=false:=beq_eq_false_iff_ne.mpr c19;have c19b1:((Int.tmod (wrap64 (a2 - a1)) a0_1) != 0)=true:=bne_iff_ne.mpr c19;obtain rfl:=Option.some.inj H;have hcz25_:=cells7_ BK246.out
        go_wp2
        go_ret
        exact ⟨ret_,belg_⟩
     ·rw [if_neg c17] at H;have c17b0:(a0_0 == 1)=false:=beq_eq_false_iff_ne.mpr c17;have c17b1:(a0_0 != 1)=true:=bne_iff_ne.mpr c17
      by_cases c26:a0_0=2
      ·rw [if_pos c26] at H;have c26b0:(a0_0 == 2)=true:=beq_iff_eq.mpr c26;have c26b1:(a0_0 != 2)=false:=bne_eq_false_iff_eq.mpr c26;clear c26
       by_cases c27:a0_1=0
       ·rw [if_pos c27] at H;exact absurd H (by simp)
       ·rw [if_neg c27] at H;have c27b0:(a0_1 == 0)=false:=beq_eq_false_iff_ne.mpr c27;have c27b1:(a0_1 != 0)=true:=bne_iff_ne.mpr c27
        by_cases c28:(Int.tmod (wrap64 (Int.tdiv (wrap64 ((wrap64 ((wrap64 (a2 - t255)) - a1)) + t257)) 7)) a0_1)=0
        ·rw [if_pos c28] at H;have c28b0:((Int.tmod (wrap64 (Int.tdiv (wrap64 ((wrap64 ((wrap64 (a2 - t255)) - a1)) + t257)) 7)) a0_1) == 0)=true:=beq_iff_eq.mpr c28;have c28b1:((Int.tmod (wrap64 (Int.tdiv (wrap64 ((wrap64 ((wrap64 (a2 - t255)) - a1)) + t257)) 7)) a0_1) != 0)=false:=bne_eq_false_iff_eq.mpr c28;clear c28;obtain ⟨t261,A290,H⟩:=bnd_ H
         try dsimp only at H
         have A29:=ad_ A290;clear A290
         by_cases c30:t261=true
         ·subst c30;replace H:=ifp_ H;obtain rfl:=Option.some.inj H;have hcz31_:=cells7_ BK246.out
          go_wp2_with (first | (go_at_call 44;(with_reducible refine (posthornref21_on.calls kj9 a0_0 a0_1 a0_2 a0_3 _ _ l0_4 _ _ l0_5 _ _ l0_6 t255 true _ ?_ ?_ ?_ ?_ ?_ ?_ A29.out).mono ?_);(iterate 6 exact sc_);rintro e w32 ⟨rfl,hb⟩;replace BK246:=ad_ (blk_below (g:=gb246) (o:=.cells #[.int .i64 a0_0,.int .i64 a0_1,.int .i64 a0_2,.int .i64 a0_3,.slice A0_4 l0_4.length c0_4,.slice A0_5 l0_5.length c0_5,.slice A0_6 l0_6.length c0_6] 34 (0,0)) (blo_ BK246.out) hb);replace HB:=hbb_ hb;clear hb))
          go_ret
          exact ⟨ret_,belg_⟩
         ·replace c30:=Bool.eq_false_iff.mpr c30;subst c30;replace H:=ifn_ H
          by_cases c33:(l0_6.length:Int)=0
          ·rw [if_pos c33] at H;have c33b0:((l0_6.length:Int) == 0)=true:=beq_iff_eq.mpr c33;have c33b1:((l0_6.length:Int) != 0)=false:=bne_eq_false_iff_eq.mpr c33;clear c33;obtain rfl:=Option.some.inj H;have hcz34_:=cells7_ BK246.out
           go_wp2_with (first | (go_at_call 44;(with_reducible refine (posthornref21_on.calls kj9 a0_0 a0_1 a0_2 a0_3 _ _ l0_4 _ _ l0_5 _ _ l0_6 t255 false _ ?_ ?_ ?_ ?_ ?_ ?_ A29.out).mono ?_);(iterate 6 exact sc_);rintro e w35 ⟨rfl,hb⟩;replace BK246:=ad_ (blk_below (g:=gb246) (o:=.cells #[.int .i64 a0_0,.int .i64 a0_1,.int .i64 a0_2,.int .i64 a0_3,.slice A0_4 l0_4.length c0_4,.slice A0_5 l0_5.length c0_5,.slice A0_6 l0_6.length c0_6] 34 (0,0)) (blo_ BK246.out) hb);replace HB:=hbb_ hb;clear hb;have hcz36_:=cells7_ BK246.out))
           go_ret
           exact ⟨ret_,belg_⟩
          ·rw [if_neg c33] at H;have c33b0:((l0_6.length:Int) == 0)=false:=beq_eq_false_iff_ne.mpr c33;have c33b1:((l0_6.length:Int) != 0)=true:=bne_iff_ne.mpr c33
           have c33b2:¬(l0_6 = []):=fun h_=>c33 (by rw [h_];rfl)
           obtain rfl:=Option.some.inj H;have hcz37_:=cells7_ BK246.out
           go_wp2_with (first | (go_at_call 44;(with_reducible refine (posthornref21_on.calls kj9 a0_0 a0_1 a0_2 a0_3 _ _ l0_4 _ _ l0_5 _ _ l0_6 t255 false _ ?_ ?_ ?_ ?_ ?_ ?_ A29.out).mono ?_);(iterate 6 exact sc_);rintro e w38 ⟨rfl,hb⟩;replace BK246:=ad_ (blk_below (g:=gb246) (o:=.cells #[.int .i64 a0_0,.int .i64 a0_1,.int .i64 a0_2,.int .i64 a0_3,.slice A0_4 l0_4.length c0_4,.slice A0_5 l0_5.length c0_5,.slice A0_6 l0_6.length c0_6] 34 (0,0)) (blo_ BK246.out) hb);replace HB:=hbb_ hb;clear hb;have hcz39_:=cells7_ BK246.out))
           go_ret
           exact ⟨ret_,belg_⟩
        ·rw [if_neg c28] at H;have c28b0:((Int.tmod (wrap64 (Int.tdiv (wrap64 ((wrap64 ((wrap64 (a2 - t255)) - a1)) + t257)) 7)) a0_1) == 0)=false:=beq_eq_false_iff_ne.mpr c28;have c28b1:((Int.tmod (wrap64 (Int.tdiv (wrap64 ((wrap64 ((wrap64 (a2 - t255)) - a1)) + t257)) 7)) a0_1) != 0)=true:=bne_iff_ne.mpr c28;obtain rfl:=Option.some.inj H;have hcz40_:=cells7_ BK246.out
         go_wp2
         go_ret
         exact ⟨ret_,belg_⟩
      ·rw [if_neg c26] at H;have c26b0:(a0_0 == 2)=false:=beq_eq_false_iff_ne.mpr c26;have c26b1:(a0_0 != 2)=true:=bne_iff_ne.mpr c26
       by_cases c41:a0_0=3
       ·rw [if_pos c41] at H;have c41b0:(a0_0 == 3)=true:=beq_iff_eq.mpr c41;have c41b1:(a0_0 != 3)=false:=bne_eq_false_iff_eq.mpr c41;clear c41
        by_cases c42:a0_1=0
        ·rw [if_pos c42] at H;exact absurd H (by simp)
        ·rw [if_neg c42] at H;have c42b0:(a0_1 == 0)=false:=beq_eq_false_iff_ne.mpr c42;have c42b1:(a0_1 != 0)=true:=bne_iff_ne.mpr c42
         by_cases c43:(Int.tmod (wrap64 ((wrap64 ((wrap64 ((wrap64 (12 * t247)) + t248)) - (wrap64 (12 * t251)))) - t252)) a0_1)=0
         ·rw [if_pos c43] at H;have c43b0:((Int.tmod (wrap64 ((wrap64 ((wrap64 ((wrap64 (12 * t247)) + t248)) - (wrap64 (12 * t251)))) - t252)) a0_1) == 0)=true:=beq_iff_eq.mpr c43;have c43b1:((Int.tmod (wrap64 ((wrap64 ((wrap64 ((wrap64 (12 * t247)) + t248)) - (wrap64 (12 * t251)))) - t252)) a0_1) != 0)=false:=bne_eq_false_iff_eq.mpr c43;clear c43;obtain ⟨t262,A440,H⟩:=bnd_ H
          try dsimp only at H
          have A44:=ad_ A440;clear A440;obtain rfl:=Option.some.inj H;have hcz45_:=cells7_ BK246.out
          go_wp2_with (first | (go_at_call 45;(with_reducible refine (posthornref21_month.calls kj9 a0_0 a0_1 a0_2 a0_3 _ _ l0_4 _ _ l0_5 _ _ l0_6 t247 t248 t249 t255 t253 t262 _ ?_ ?_ ?_ ?_ ?_ ?_ A44.out).mono ?_);(iterate 6 exact sc_);rintro e w46 ⟨rfl,hb⟩;replace BK246:=ad_ (blk_below (g:=gb246) (o:=.cells #[.int .i64 a0_0,.int .i64 a0_1,.int .i64 a0_2,.int .i64 a0_3,.slice A0_4 l0_4.length c0_4,.slice A0_5 l0_5.length c0_5,.slice A0_6 l0_6.length c0_6] 34 (0,0)) (blo_ BK246.out) hb);replace HB:=hbb_ hb;clear hb))
          go_ret
          exact ⟨ret_,belg_⟩
         ·rw [if_neg c43] at H;have c43b0:((Int.tmod (wrap64 ((wrap64 ((wrap64 ((wrap64 (12 * t247)) + t248)) - (wrap64 (12 * t251)))) - t252)) a0_1) == 0)=false:=beq_eq_false_iff_ne.mpr c43;have c43b1:((Int.tmod (wrap64 ((wrap64 ((wrap64 ((wrap64 (12 * t247)) + t248)) - (wrap64 (12 * t251)))) - t252)) a0_1) != 0)=true:=bne_iff_ne.mpr c43;obtain rfl:=Option.some.inj H;have hcz47_:=cells7_ BK246.out
          go_wp2
          go_ret
          exact ⟨ret_,belg_⟩
       ·rw [if_neg c41] at H;have c41b0:(a0_0 == 3)=false:=beq_eq_false_iff_ne.mpr c41;have c41b1:(a0_0 != 3)=true:=bne_iff_ne.mpr c41
        by_cases c48:a0_1=0
        ·rw [if_pos c48] at H;exact absurd H (by simp)
        ·rw [if_neg c48] at H;have c48b0:(a0_1 == 0)=false:=beq_eq_false_iff_ne.mpr c48;have c48b1:(a0_1 != 0)=true:=bne_iff_ne.mpr c48
         by_cases c49:(Int.tmod (wrap64 (t247 - t251)) a0_1)=0
         ·rw [if_pos c49] at H;have c49b0:((Int.tmod (wrap64 (t247 - t251)) a0_1) == 0)=true:=beq_iff_eq.mpr c49;have c49b1:((Int.tmod (wrap64 (t247 - t251)) a0_1) != 0)=false:=bne_eq_false_iff_eq.mpr c49;clear c49
          by_cases c50:(l0_4.length:Int) > 0
          ·rw [if_pos c50] at H;have c50b0:decide (0 < (l0_4.length:Int))=true:=decide_eq_true c50;have c50b1:decide (0 < l0_4.length)=true:=decide_eq_true (by omega);clear c50;obtain ⟨t263,A510,H⟩:=bnd_ H
           try dsimp only at H
           have A51:=ad_ A510;clear A510;obtain rfl:=Option.some.inj H;have hcz52_:=cells7_ BK246.out
           go_wp2_with (first | (go_at_call 45;(with_reducible refine (posthornref21_month.calls kj9 a0_0 a0_1 a0_2 a0_3 _ _ l0_4 _ _ l0_5 _ _ l0_6 t247 t248 t249 t255 t253 t263 _ ?_ ?_ ?_ ?_ ?_ ?_ A51.out).mono ?_);(iterate 6 exact sc_);rintro e w53 ⟨rfl,hb⟩;replace BK246:=ad_ (blk_below (g:=gb246) (o:=.cells #[.int .i64 a0_0,.int .i64 a0_1,.int .i64 a0_2,.int .i64 a0_3,.slice A0_4 l0_4.length c0_4,.slice A0_5 l0_5.length c0_5,.slice A0_6 l0_6.length c0_6] 34 (0,0)) (blo_ BK246.out) hb);replace HB:=hbb_ hb;clear hb))
           go_ret
           exact ⟨ret_,belg_⟩
          ·rw [if_neg c50] at H;have c50b0:decide (0 < (l0_4.length:Int))=false:=decide_eq_false c50;have c50b1:decide (0 < l0_4.length)=false:=decide_eq_false (by omega);clear c50
           by_cases c54:t248=t252
           ·rw [if_pos c54] at H;have c54b0:(t248 == t252)=true:=beq_iff_eq.mpr c54;have c54b1:(t248 != t252)=false:=bne_eq_false_iff_eq.mpr c54;clear c54;obtain ⟨t264,A550,H⟩:=bnd_ H
            try dsimp only at H
            have A55:=ad_ A550;clear A550;obtain rfl:=Option.some.inj H;have hcz56_:=cells7_ BK246.out
            go_wp2_with (first | (go_at_call 45;(with_reducible refine (posthornref21_month.calls kj9 a0_0 a0_1 a0_2 a0_3 _ _ l0_4 _ _ l0_5 _ _ l0_6 t247 t248 t249 t255 t253 t264 _ ?_ ?_ ?_ ?_ ?_ ?_ A55.out).mono ?_);(iterate 6 exact sc_);rintro e w57 ⟨rfl,hb⟩;replace BK246:=ad_ (blk_below (g:=gb246) (o:=.cells #[.int .i64 a0_0,.int .i64 a0_1,.int .i64 a0_2,.int .i64 a0_3,.slice A0_4 l0_4.length c0_4,.slice A0_5 l0_5.length c0_5,.slice A0_6 l0_6.length c0_6] 34 (0,0)) (blo_ BK246.out) hb);replace HB:=hbb_ hb;clear hb))
            go_ret
            exact ⟨ret_,belg_⟩
           ·rw [if_neg c54] at H;have c54b0:(t248 == t252)=false:=beq_eq_false_iff_ne.mpr c54;have c54b1:(t248 != t252)=true:=bne_iff_ne.mpr c54;obtain rfl:=Option.some.inj H;have hcz58_:=cells7_ BK246.out
            go_wp2
            go_ret
            exact ⟨ret_,belg_⟩
         ·rw [if_neg c49] at H;have c49b0:((Int.tmod (wrap64 (t247 - t251)) a0_1) == 0)=false:=beq_eq_false_iff_ne.mpr c49;have c49b1:((Int.tmod (wrap64 (t247 - t251)) a0_1) != 0)=true:=bne_iff_ne.mpr c49;obtain rfl:=Option.some.inj H;have hcz59_:=cells7_ BK246.out
          go_wp2
          go_ret
          exact ⟨ret_,belg_⟩

/-! ### posthornref21_Match: function 11 -/
def posthornref21_Match.f (k:Nat) (a0_0:Int) (a0_1:Int) (a0_2:Int) (a0_3:Int) (l0_4:List Int) (l0_5:List Int) (l0_6:List (S54)) (a1:Int) (a2:Int):Option (Bool×Int):=(posthornref21_Right.f k a0_0 a0_1 a0_2 a0_3 l0_4 l0_5 l0_6).bind fun t266=>(if t266=true then (if a1 < 0 then (some (false,110)) else (if a1 > 2932896 then (some (false,110)) else (if a2 < 0 then (some (false,110)) else (if a2 > 2932896 then (some (false,110)) else ((posthornref21_Matches.f k a0_0 a0_1 a0_2 a0_3 l0_4 l0_5 l0_6 a1 a2).bind fun t267=>(some (t267,0))))))) else (some (false,3)))
set_option maxHeartbeats 8000000 in
set_option maxRecDepth 100000 in
theorem posthornref21_Match.calls (k:Nat) (a0_0:Int) (a0_1:Int) (a0_2:Int) (a0_3:Int) (A0_4:Option Addr) (c0_4:Nat) (l0_4:List Int) (A0_5:Option Addr) (c0_5:Nat) (l0_5:List Int) (A0_6:Option Addr) (c0_6:Nat) (l0_6:List (S54)) (a1:Int) (a2:Int) (r1:Bool) (r2:Int) (w:World) (hr0_4:Kd.C (Kd.int .i64) w A0_4 l0_4.length l0_4) (hc0_4:l0_4.length≤c0_4) (hr0_5:Kd.C (Kd.int .i64) w A0_5 l0_5.length l0_5) (hc0_5:l0_5.length≤c0_5) (hr0_6:Kd.C k54 w A0_6 l0_6.length l0_6) (hc0_6:l0_6.length≤c0_6) (h:posthornref21_Match.f k a0_0 a0_1 a0_2 a0_3 l0_4 l0_5 l0_6 a1 a2=some (r1,r2)) :
  Calls Tryz.prog 11 #[.agg #[.int .i64 a0_0,.int .i64 a0_1,.int .i64 a0_2,.int .i64 a0_3,.slice A0_4 l0_4.length c0_4,.slice A0_5 l0_5.length c0_5,.slice A0_6 l0_6.length c0_6],.int .i64 a1,.int .i64 a2] w fun e w'=>e = .returned (.tuple #[.bool r1,.int .i64 r2])∧Below w.heap.size w w':=by
 have hu34:=Tryz.underlying34;have HR0_4:=Aside0.mk hr0_4;have HC0_4:=Aside0.mk hc0_4;clear hr0_4 hc0_4;have HR0_5:=Aside0.mk hr0_5;have HC0_5:=Aside0.mk hc0_5;clear hr0_5 hc0_5;have HR0_6:=Aside0.mk hr0_6;have HC0_6:=Aside0.mk hc0_6;clear hr0_6 hc0_6;have HB:=ad_ (Below.refl w.heap.size w);have H:((posthornref21_Right.f k a0_0 a0_1 a0_2 a0_3 l0_4 l0_5 l0_6).bind fun t266=>(if t266=true then (if a1 < 0 then (some (false,110)) else (if a1 > 2932896 then (some (false,110)) else (if a2 < 0 then (some (false,110)) else (if a2 > 2932896 then (some (false,110)) else ((posthornref21_Matches.f k a0_0 a0_1 a0_2 a0_3 l0_4 l0_5 l0_6 a1 a2).bind fun t267=>(some (t267,0))))))) else (some (false,3))))=some (r1,r2):=h;clear h;obtain ⟨t266,A40,H⟩:=bnd_ H
 try dsimp only at H
 have A4:=ad_ A40;clear A40
 by_cases c5:t266=true
 ·subst c5;replace H:=ifp_ H
  by_cases c6:a1 < 0
  ·rw [if_pos c6] at H;have c6b0:decide (a1 < 0)=true:=decide_eq_true c6;clear c6
   simp only [Option.some.injEq,Prod.mk.injEq] at H
   obtain ⟨rfl,rfl⟩:=H
   go_enter Tryz.func11,Tryz.ntmps11
   go_wp2_with (first | ((with_reducible refine gate_dst (N:=3) rfl ?_);refine box_event ?hg (N:=3) ?hd (cs:=#[.int .i64 a0_0,.int .i64 a0_1,.int .i64 a0_2,.int .i64 a0_3,.slice A0_4 l0_4.length c0_4,.slice A0_5 l0_5.length c0_5,.slice A0_6 l0_6.length c0_6]) (t:=34) ?hr ?_;(case hd=>rfl);(case hg=>rfl);(case hr=>first | (go_simp;done) | (go_simp;rfl));intro gb265 hg w7 hbox hb;have BK265:=ad_ (hbox);have GW265:=ad_ ((by rw [hg];exact (below_size bel_):w.heap.size≤gb265));have GE265:=ad_ ((by rw [hg];exact (below_size bel_):w.heap.size≤gb265));replace HB:=hbb_ hb;clear hb hbox hg;have hcz8_:=cells7_ BK265.out) | ((with_reducible refine gate_callee (f:=22) rfl ?_);refine goesL_ (some 9) rfl rfl Tryz.func22 (by kernel_rfl) rfl #[.agg #[.int .i64 a0_0,.int .i64 a0_1,.int .i64 a0_2,.int .i64 a0_3,.slice A0_4 l0_4.length c0_4,.slice A0_5 l0_5.length c0_5,.slice A0_6 l0_6.length c0_6]] rfl arg_ ?_;(with_reducible refine (posthornref21_Right.calls k a0_0 a0_1 a0_2 a0_3 _ _ l0_4 _ _ l0_5 _ _ l0_6 true _ ?_ ?_ ?_ ?_ ?_ ?_ A4.out).mono ?_);(iterate 6 exact sc_);rintro e w9 ⟨rfl,hb⟩;refine ⟨_,rfl,?_⟩;replace BK265:=ad_ (blk_below (g:=gb265) (o:=.cells #[.int .i64 a0_0,.int .i64 a0_1,.int .i64 a0_2,.int .i64 a0_3,.slice A0_4 l0_4.length c0_4,.slice A0_5 l0_5.length c0_5,.slice A0_6 l0_6.length c0_6] 34 (0,0)) (blo_ BK265.out) hb);replace HB:=hbb_ hb;clear hb))
   go_ret2
   exact ⟨ret_,belg_⟩
  ·rw [if_neg c6] at H;have c6b0:decide (a1 < 0)=false:=decide_eq_false c6;clear c6
   by_cases c10:a1 > 2932896
   ·rw [if_pos c10] at H;have c10b0:decide (2932896 < a1)=true:=decide_eq_true c10;clear c10
    simp only [Option.some.injEq,Prod.mk.injEq] at H
    obtain ⟨rfl,rfl⟩:=H
    go_enter Tryz.func11,Tryz.ntmps11
    go_wp2_with (first | ((with_reducible refine gate_dst (N:=3) rfl ?_);refine box_event ?hg (N:=3) ?hd (cs:=#[.int .i64 a0_0,.int .i64 a0_1,.int .i64 a0_2,.int .i64 a0_3,.slice A0_4 l0_4.length c0_4,.slice A0_5 l0_5.length c0_5,.slice A0_6 l0_6.length c0_6]) (t:=34) ?hr ?_;(case hd=>rfl);(case hg=>rfl);(case hr=>first | (go_simp;done) | (go_simp;rfl));intro gb265 hg w11 hbox hb;have BK265:=ad_ (hbox);have GW265:=ad_ ((by rw [hg];exact (below_size bel_):w.heap.size≤gb265));have GE265:=ad_ ((by rw [hg];exact (below_size bel_):w.heap.size≤gb265));replace HB:=hbb_ hb;clear hb hbox hg;have hcz12_:=cells7_ BK265.out) | ((with_reducible refine gate_callee (f:=22) rfl ?_);refine goesL_ (some 9) rfl rfl Tryz.func22 (by kernel_rfl) rfl #[.agg #[.int .i64 a0_0,.int .i64 a0_1,.int .i64 a0_2,.int .i64 a0_3,.slice A0_4 l0_4.length c0_4,.slice A0_5 l0_5.length c0_5,.slice A0_6 l0_6.length c0_6]] rfl arg_ ?_;(with_reducible refine (posthornref21_Right.calls k a0_0 a0_1 a0_2 a0_3 _ _ l0_4 _ _ l0_5 _ _ l0_6 true _ ?_ ?_ ?_ ?_ ?_ ?_ A4.out).mono ?_);(iterate 6 exact sc_);rintro e w13 ⟨rfl,hb⟩;refine ⟨_,rfl,?_⟩;replace BK265:=ad_ (blk_below (g:=gb265) (o:=.cells #[.int .i64 a0_0,.int .i64 a0_1,.int .i64 a0_2,.int .i64 a0_3,.slice A0_4 l0_4.length c0_4,.slice A0_5 l0_5.length c0_5,.slice A0_6 l0_6.length c0_6] 34 (0,0)) (blo_ BK265.out) hb);replace HB:=hbb_ hb;clear hb))
    go_ret2
    exact ⟨ret_,belg_⟩
   ·rw [if_neg c10] at H;have c10b0:decide (2932896 < a1)=false:=decide_eq_false c10;clear c10
    by_cases c14:a2 < 0
    ·rw [if_pos c14] at H;have c14b0:decide (a2 < 0)=true:=decide_eq_true c14;clear c14
     simp only [Option.some.injEq,Prod.mk.injEq] at H
     obtain ⟨rfl,rfl⟩:=H
     go_enter Tryz.func11,Tryz.ntmps11
     go_wp2_with (first | ((with_reducible refine gate_dst (N:=3) rfl ?_);refine box_event ?hg (N:=3) ?hd (cs:=#[.int .i64 a0_0,.int .i64 a0_1,.int .i64 a0_2,.int .i64 a0_3,.slice A0_4 l0_4.length c0_4,.slice A0_5 l0_5.length c0_5,.slice A0_6 l0_6.length c0_6]) (t:=34) ?hr ?_;(case hd=>rfl);(case hg=>rfl);(case hr=>first | (go_simp;done) | (go_simp;rfl));intro gb265 hg w15 hbox hb;have BK265:=ad_ (hbox);have GW265:=ad_ ((by rw [hg];exact (below_size bel_):w.heap.size≤gb265));have GE265:=ad_ ((by rw [hg];exact (below_size bel_):w.heap.size≤gb265));replace HB:=hbb_ hb;clear hb hbox hg;have hcz16_:=cells7_ BK265.out) | ((with_reducible refine gate_callee (f:=22) rfl ?_);refine goesL_ (some 9) rfl rfl Tryz.func22 (by kernel_rfl) rfl #[.agg #[.int .i64 a0_0,.int .i64 a0_1,.int .i64 a0_2,.int .i64 a0_3,.slice A0_4 l0_4.length c0_4,.slice A0_5 l0_5.length c0_5,.slice A0_6 l0_6.length c0_6]] rfl arg_ ?_;(with_reducible refine (posthornref21_Right.calls k a0_0 a0_1 a0_2 a0_3 _ _ l0_4 _ _ l0_5 _ _ l0_6 true _ ?_ ?_ ?_ ?_ ?_ ?_ A4.out).mono ?_);(iterate 6 exact sc_);rintro e w17 ⟨rfl,hb⟩;refine ⟨_,rfl,?_⟩;replace BK265:=ad_ (blk_below (g:=gb265) (o:=.cells #[.int .i64 a0_0,.int .i64 a0_1,.int .i64 a0_2,.int .i64 a0_3,.slice A0_4 l0_4.length c0_4,.slice A0_5 l0_5.length c0_5,.slice A0_6 l0_6.length c0_6] 34 (0,0)) (blo_ BK265.out) hb);replace HB:=hbb_ hb;clear hb))
     go_ret2
     exact ⟨ret_,belg_⟩
    ·rw [if_neg c14] at H;have c14b0:decide (a2 < 0)=false:=decide_eq_false c14;clear c14
     by_cases c18:a2 > 2932896
     ·rw [if_pos c18] at H;have c18b0:decide (2932896 < a2)=true:=decide_eq_true c18;clear c18
      simp only [Option.some.injEq,Prod.mk.injEq] at H
      obtain ⟨rfl,rfl⟩:=H
      go_enter Tryz.func11,Tryz.ntmps11
      go_wp2_with (first | ((with_reducible refine gate_dst (N:=3) rfl ?_);refine box_event ?hg (N:=3) ?hd (cs:=#[.int .i64 a0_0,.int .i64 a0_1,.int .i64 a0_2,.int .i64 a0_3,.slice A0_4 l0_4.length c0_4,.slice A0_5 l0_5.length c0_5,.slice A0_6 l0_6.length c0_6]) (t:=34) ?hr ?_;(case hd=>rfl);(case hg=>rfl);(case hr=>first | (go_simp;done) | (go_simp;rfl));intro gb265 hg w19 hbox hb;have BK265:=ad_ (hbox);have GW265:=ad_ ((by rw [hg];exact (below_size bel_):w.heap.size≤gb265));have GE265:=ad_ ((by rw [hg];exact (below_size bel_):w.heap.size≤gb265));replace HB:=hbb_ hb;clear hb hbox hg;have hcz20_:=cells7_ BK265.out) | ((with_reducible refine gate_callee (f:=22) rfl ?_);refine goesL_ (some 9) rfl rfl Tryz.func22 (by kernel_rfl) rfl #[.agg #[.int .i64 a0_0,.int .i64 a0_1,.int .i64 a0_2,.int .i64 a0_3,.slice A0_4 l0_4.length c0_4,.slice A0_5 l0_5.length c0_5,.slice A0_6 l0_6.length c0_6]] rfl arg_ ?_;(with_reducible refine (posthornref21_Right.calls k a0_0 a0_1 a0_2 a0_3 _ _ l0_4 _ _ l0_5 _ _ l0_6 true _ ?_ ?_ ?_ ?_ ?_ ?_ A4.out).mono ?_);(iterate 6 exact sc_);rintro e w21 ⟨rfl,hb⟩;refine ⟨_,rfl,?_⟩;replace BK265:=ad_ (blk_below (g:=gb265) (o:=.cells #[.int .i64 a0_0,.int .i64 a0_1,.int .i64 a0_2,.int .i64 a0_3,.slice A0_4 l0_4.length c0_4,.slice A0_5 l0_5.length c0_5,.slice A0_6 l0_6.length c0_6] 34 (0,0)) (blo_ BK265.out) hb);replace HB:=hbb_ hb;clear hb))
      go_ret2
      exact ⟨ret_,belg_⟩
     ·rw [if_neg c18] at H;have c18b0:decide (2932896 < a2)=false:=decide_eq_false c18;clear c18;obtain ⟨t267,A220,H⟩:=bnd_ H
      try dsimp only at H
      have A22:=ad_ A220;clear A220
      simp only [Option.some.injEq,Prod.mk.injEq] at H
      obtain ⟨rfl,rfl⟩:=H
      go_enter Tryz.func11,Tryz.ntmps11
      go_wp2_with (first | ((with_reducible refine gate_dst (N:=3) rfl ?_);refine box_event ?hg (N:=3) ?hd (cs:=#[.int .i64 a0_0,.int .i64 a0_1,.int .i64 a0_2,.int .i64 a0_3,.slice A0_4 l0_4.length c0_4,.slice A0_5 l0_5.length c0_5,.slice A0_6 l0_6.length c0_6]) (t:=34) ?hr ?_;(case hd=>rfl);(case hg=>rfl);(case hr=>first | (go_simp;done) | (go_simp;rfl));intro gb265 hg w23 hbox hb;have BK265:=ad_ (hbox);have GW265:=ad_ ((by rw [hg];exact (below_size bel_):w.heap.size≤gb265));have GE265:=ad_ ((by rw [hg];exact (below_size bel_):w.heap.size≤gb265));replace HB:=hbb_ hb;clear hb hbox hg;have hcz24_:=cells7_ BK265.out) | ((with_reducible refine gate_callee (f:=22) rfl ?_);refine goesL_ (some 9) rfl rfl Tryz.func22 (by kernel_rfl) rfl #[.agg #[.int .i64 a0_0,.int .i64 a0_1,.int .i64 a0_2,.int .i64 a0_3,.slice A0_4 l0_4.length c0_4,.slice A0_5 l0_5.length c0_5,.slice A0_6 l0_6.length c0_6]] rfl arg_ ?_;(with_reducible refine (posthornref21_Right.calls k a0_0 a0_1 a0_2 a0_3 _ _ l0_4 _ _ l0_5 _ _ l0_6 true _ ?_ ?_ ?_ ?_ ?_ ?_ A4.out).mono ?_);(iterate 6 exact sc_);rintro e w25 ⟨rfl,hb⟩;refine ⟨_,rfl,?_⟩;replace BK265:=ad_ (blk_below (g:=gb265) (o:=.cells #[.int .i64 a0_0,.int .i64 a0_1,.int .i64 a0_2,.int .i64 a0_3,.slice A0_4 l0_4.length c0_4,.slice A0_5 l0_5.length c0_5,.slice A0_6 l0_6.length c0_6] 34 (0,0)) (blo_ BK265.out) hb);replace HB:=hbb_ hb;clear hb;have hcz26_:=cells7_ BK265.out) | ((with_reducible refine gate_callee (f:=23) rfl ?_);refine goesL_ (some 28) rfl rfl Tryz.func23 (by kernel_rfl) rfl #[.agg #[.int .i64 a0_0,.int .i64 a0_1,.int .i64 a0_2,.int .i64 a0_3,.slice A0_4 l0_4.length c0_4,.slice A0_5 l0_5.length c0_5,.slice A0_6 l0_6.length c0_6],.int .i64 a1,.int .i64 a2] rfl arg_ ?_;(with_reducible refine (posthornref21_Matches.calls k a0_0 a0_1 a0_2 a0_3 _ _ l0_4 _ _ l0_5 _ _ l0_6 a1 a2 t267 _ ?_ ?_ ?_ ?_ ?_ ?_ A22.out).mono ?_);(iterate 6 exact sc_);rintro e w27 ⟨rfl,hb⟩;refine ⟨_,rfl,?_⟩;replace BK265:=ad_ (blk_below (g:=gb265) (o:=.cells #[.int .i64 a0_0,.int .i64 a0_1,.int .i64 a0_2,.int .i64 a0_3,.slice A0_4 l0_4.length c0_4,.slice A0_5 l0_5.length c0_5,.slice A0_6 l0_6.length c0_6] 34 (0,0)) (blo_ BK265.out) hb);replace HB:=hbb_ hb;clear hb))
      go_ret2
      exact ⟨ret_,belg_⟩
 ·replace c5:=Bool.eq_false_iff.mpr c5;subst c5;replace H:=ifn_ H
  simp only [Option.some.injEq,Prod.mk.injEq] at H
  obtain ⟨rfl,rfl⟩:=H
  go_enter Tryz.func11,Tryz.ntmps11
  go_wp2_with (first | ((with_reducible refine gate_dst (N:=3) rfl ?_);refine box_event ?hg (N:=3) ?hd (cs:=#[.int .i64 a0_0,.int .i64 a0_1,.int .i64 a0_2,.int .i64 a0_3,.slice A0_4 l0_4.length c0_4,.slice A0_5 l0_5.length c0_5,.slice A0_6 l0_6.length c0_6]) (t:=34) ?hr ?_;(case hd=>rfl);(case hg=>rfl);(case hr=>first | (go_simp;done) | (go_simp;rfl));intro gb265 hg w28 hbox hb;have BK265:=ad_ (hbox);have GW265:=ad_ ((by rw [hg];exact (below_size bel_):w.heap.size≤gb265));have GE265:=ad_ ((by rw [hg];exact (below_size bel_):w.heap.size≤gb265));replace HB:=hbb_ hb;clear hb hbox hg;have hcz29_:=cells7_ BK265.out) | ((with_reducible refine gate_callee (f:=22) rfl ?_);refine goesL_ (some 9) rfl rfl Tryz.func22 (by kernel_rfl) rfl #[.agg #[.int .i64 a0_0,.int .i64 a0_1,.int .i64 a0_2,.int .i64 a0_3,.slice A0_4 l0_4.length c0_4,.slice A0_5 l0_5.length c0_5,.slice A0_6 l0_6.length c0_6]] rfl arg_ ?_;(with_reducible refine (posthornref21_Right.calls k a0_0 a0_1 a0_2 a0_3 _ _ l0_4 _ _ l0_5 _ _ l0_6 false _ ?_ ?_ ?_ ?_ ?_ ?_ A4.out).mono ?_);(iterate 6 exact sc_);rintro e w30 ⟨rfl,hb⟩;refine ⟨_,rfl,?_⟩;replace BK265:=ad_ (blk_below (g:=gb265) (o:=.cells #[.int .i64 a0_0,.int .i64 a0_1,.int .i64 a0_2,.int .i64 a0_3,.slice A0_4 l0_4.length c0_4,.slice A0_5 l0_5.length c0_5,.slice A0_6 l0_6.length c0_6] 34 (0,0)) (blo_ BK265.out) hb);replace HB:=hbb_ hb;clear hb))
  go_ret2
  exact ⟨ret_,belg_⟩

end Go.Proofs.YtbeihceeliifeaaGreatDoor.PR

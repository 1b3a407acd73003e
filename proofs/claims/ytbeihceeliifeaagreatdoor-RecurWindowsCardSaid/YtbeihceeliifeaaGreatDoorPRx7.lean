-- Written by a program of the session (wip/tools).
import Derived.Test.YtbeihceeliifeaaGreatDoorPRx0
import Derived.Test.YtbeihceeliifeaaGreatDoorPRx3
import Derived.Test.YtbeihceeliifeaaGreatDoorPRx4
import Derived.Test.YtbeihceeliifeaaGreatDoorPRx5
import Derived.Test.YtbeihceeliifeaaGreatDoorPRx6
namespace Go.Proofs.YtbeihceeliifeaaGreatDoor.PR
open Go.RowKit Go.Proofs.YtbeihceeliifeaaGreatDoorW.PrintWords Go.Proofs.YtbeihceeliifeaaGreatDoorW.PrintLast Go.Proofs.YtbeihceeliifeaaGreatDoorW.PrintMore
attribute [local go_sem] max2_int min2_int max_two min_two max_three min_three max_four min_four   -- for this text's walks alone
set_option linter.unusedVariables false
set_option linter.unusedSimpArgs false

/-! ### recur_match: function 21 -/
def recur_match.j0:Nat→Int→Int→Int→Int→Int→Int→Int→Int→Int→Int→Int→Bool→Int→Int→Int→Int→List Int→List Int→List (S53)→Option (Bool)
 | 0,_,_,_,_,_,_,_,_,_,_,_,_,_,_,_,_,_,_,_=>none
 | k + 1,x1,x2,x7,x8,x9,x11,x12,x13,x15,x17,x19,x62,x134000,x134001,x134002,x134003,x134004,x134005,x134006=>if x62=true then (some false) else (if x134000=1 then (if x19=0 then (none) else (if (Int.tmod (wrap64 (x2 - x1)) x19)=0 then ((recur_Rule_on.f k x134000 x134001 x134002 x134003 x134004 x134005 x134006 x15).bind fun t147=>(some t147)) else (some false))) else (if x134000=2 then (if x19=0 then (none) else (if (Int.tmod (wrap64 (Int.tdiv (wrap64 ((wrap64 ((wrap64 (x2 - x15)) - x1)) + x17)) 7)) x19)=0 then (if (x134006.length:Int) > 0 then ((recur_Rule_on.f k x134000 x134001 x134002 x134003 x134004 x134005 x134006 x15).bind fun t148=>(if t148=true then (some true) else (if (x134006.length:Int)=0 then (some (x15 == x17)) else (some false)))) else (if (x134006.length:Int)=0 then (some (x15 == x17)) else (some false))) else (some false))) else (if x134000=3 then (if x19=0 then (none) else (if (Int.tmod (wrap64 ((wrap64 ((wrap64 (12 * (wrap64 (x11 - x7)))) + x12)) - x8)) x19)=0 then ((recur_Rule_may.f k x134000 x134001 x134002 x134003 x134004 x134005 x134006 x11 x12 x13 x15 x9).bind fun t149=>(some t149)) else (some false))) else (if x19=0 then (none) else (if (Int.tmod (wrap64 (x11 - x7)) x19)=0 then (if (x134004.length:Int) > 0 then ((recur_Rule_may.f k x134000 x134001 x134002 x134003 x134004 x134005 x134006 x11 x12 x13 x15 x9).bind fun t150=>(some t150)) else (if x12=x8 then ((recur_Rule_may.f k x134000 x134001 x134002 x134003 x134004 x134005 x134006 x11 x12 x13 x15 x9).bind fun t151=>(some t151)) else (some false))) else (some false))))))
def recur_match.f (k:Nat) (a0_0:Int) (a0_1:Int) (a0_2:Int) (a0_3:Int) (l0_4:List Int) (l0_5:List Int) (l0_6:List (S53)) (a1:Int) (a2:Int):Option (Bool):=(when_Civil.f k a1).bind fun bt134=>((when_Civil.f k a2).bind fun bt138=>((date_Weekday.f a2).bind fun bt142=>((date_Weekday.f a1).bind fun bt144=>(if a2 < a1 then (recur_match.j0 k a1 a2 bt134.1 bt134.2.1 bt134.2.2.1 bt138.1 bt138.2.1 bt138.2.2.1 bt142.1 bt144.1 a0_1 true a0_0 a0_1 a0_2 a0_3 l0_4 l0_5 l0_6) else (if (l0_4.length:Int) > 0 then ((slices_Contains_int_int.f k l0_4 bt138.2.1).bind fun t146=>(recur_match.j0 k a1 a2 bt134.1 bt134.2.1 bt134.2.2.1 bt138.1 bt138.2.1 bt138.2.2.1 bt142.1 bt144.1 a0_1 (!t146) a0_0 a0_1 a0_2 a0_3 l0_4 l0_5 l0_6)) else (recur_match.j0 k a1 a2 bt134.1 bt134.2.1 bt134.2.2.1 bt138.1 bt138.2.1 bt138.2.2.1 bt142.1 bt144.1 a0_1 false a0_0 a0_1 a0_2 a0_3 l0_4 l0_5 l0_6))))))
set_option maxHeartbeats 8000000 in
set_option maxRecDepth 100000 in
theorem recur_match.calls (k:Nat) (a0_0:Int) (a0_1:Int) (a0_2:Int) (a0_3:Int) (A0_4:Option Addr) (c0_4:Nat) (l0_4:List Int) (A0_5:Option Addr) (c0_5:Nat) (l0_5:List Int) (A0_6:Option Addr) (c0_6:Nat) (l0_6:List (S53)) (a1:Int) (a2:Int) (r:Bool) (w:World) (hr0_4:Kd.C (Kd.int .i64) w A0_4 l0_4.length l0_4) (hc0_4:l0_4.length≤c0_4) (hr0_5:Kd.C (Kd.int .i64) w A0_5 l0_5.length l0_5) (hc0_5:l0_5.length≤c0_5) (hr0_6:Kd.C k53 w A0_6 l0_6.length l0_6) (hc0_6:l0_6.length≤c0_6) (h:recur_match.f k a0_0 a0_1 a0_2 a0_3 l0_4 l0_5 l0_6 a1 a2=some r) :
  Calls Tryz.prog 21 #[.agg #[.int .i64 a0_0,.int .i64 a0_1,.int .i64 a0_2,.int .i64 a0_3,.slice A0_4 l0_4.length c0_4,.slice A0_5 l0_5.length c0_5,.slice A0_6 l0_6.length c0_6],.int .i64 a1,.int .i64 a2] w fun e w'=>e = .returned (.bool r)∧Below w.heap.size w w':=by
 have hu25:=Tryz.underlying25;have HR0_4:=Aside0.mk hr0_4;have HC0_4:=Aside0.mk hc0_4;clear hr0_4 hc0_4;have HR0_5:=Aside0.mk hr0_5;have HC0_5:=Aside0.mk hc0_5;clear hr0_5 hc0_5;have HR0_6:=Aside0.mk hr0_6;have HC0_6:=Aside0.mk hc0_6;clear hr0_6 hc0_6;have HB:=ad_ (Below.refl w.heap.size w);have H:((when_Civil.f k a1).bind fun bt134=>((when_Civil.f k a2).bind fun bt138=>((date_Weekday.f a2).bind fun bt142=>((date_Weekday.f a1).bind fun bt144=>(if a2 < a1 then (recur_match.j0 k a1 a2 bt134.1 bt134.2.1 bt134.2.2.1 bt138.1 bt138.2.1 bt138.2.2.1 bt142.1 bt144.1 a0_1 true a0_0 a0_1 a0_2 a0_3 l0_4 l0_5 l0_6) else (if (l0_4.length:Int) > 0 then ((slices_Contains_int_int.f k l0_4 bt138.2.1).bind fun t146=>(recur_match.j0 k a1 a2 bt134.1 bt134.2.1 bt134.2.2.1 bt138.1 bt138.2.1 bt138.2.2.1 bt142.1 bt144.1 a0_1 (!t146) a0_0 a0_1 a0_2 a0_3 l0_4 l0_5 l0_6)) else (recur_match.j0 k a1 a2 bt134.1 bt134.2.1 bt134.2.2.1 bt138.1 bt138.2.1 bt138.2.2.1 bt142.1 bt144.1 a0_1 false a0_0 a0_1 a0_2 a0_3 l0_4 l0_5 l0_6)))))))=some r:=h;clear h;replace H:=Option.bind_eq_some_iff.mp H;obtain ⟨⟨t134,t135,t136,t137⟩,A40,H⟩:=H
 try dsimp only at H
 have A4:=ad_ A40;clear A40;replace H:=Option.bind_eq_some_iff.mp H;obtain ⟨⟨t138,t139,t140,t141⟩,A50,H⟩:=H
 try dsimp only at H
 have A5:=ad_ A50;clear A50;replace H:=Option.bind_eq_some_iff.mp H;obtain ⟨⟨t142,t143⟩,A60,H⟩:=H
 try dsimp only at H
 have A6:=ad_ A60;clear A60;replace H:=Option.bind_eq_some_iff.mp H;obtain ⟨⟨t144,t145⟩,A70,H⟩:=H
 try dsimp only at H
 have A7:=ad_ A70;clear A70;have HC8:=Aside0.mk H;clear H
 go_enter Tryz.func21,Tryz.ntmps21
 go_upto_region 6 with (first | ((with_reducible refine gate_dst (N:=3) rfl ?_);(try (refine gate_guard (by rfl) ?_;dsimp only));refine box_event ?hg (N:=3) ?hd (cs:=#[.int .i64 a0_0,.int .i64 a0_1,.int .i64 a0_2,.int .i64 a0_3,.slice A0_4 l0_4.length c0_4,.slice A0_5 l0_5.length c0_5,.slice A0_6 l0_6.length c0_6]) (t:=25) ?hr ?_;(case hd=>rfl);(case hg=>rfl);(case hr=>first | (go_simp;done) | (go_simp;rfl));intro gb133 hg w9 hbox hb;have BK133:=ad_ (hbox);have GW133:=ad_ ((by rw [hg];exact (below_size bel_):w.heap.size≤gb133));have GE133:=ad_ ((by rw [hg];exact (below_size bel_):w.heap.size≤gb133));replace HB:=hbb_ hb;clear hb hbox hg) | ((with_reducible refine gate_callee (f:=34) rfl ?_);refine goesL_ (some 23) rfl rfl Tryz.func34 (by kernel_rfl) rfl #[.int .i64 a1] rfl arg_ ?_;(with_reducible refine (when_Civil.calls k a1 t134 t135 t136 t137 _ A4.out).mono ?_);rintro e w10 ⟨rfl,hb⟩;refine ⟨_,rfl,?_⟩;replace BK133:=ad_ (blk_below (g:=gb133) (o:=.cells #[.int .i64 a0_0,.int .i64 a0_1,.int .i64 a0_2,.int .i64 a0_3,.slice A0_4 l0_4.length c0_4,.slice A0_5 l0_5.length c0_5,.slice A0_6 l0_6.length c0_6] 25 (0,0)) (blo_ BK133.out) hb);replace HB:=hbb_ hb;clear hb) | ((with_reducible refine gate_callee (f:=34) rfl ?_);refine goesL_ (some 30) rfl rfl Tryz.func34 (by kernel_rfl) rfl #[.int .i64 a2] rfl arg_ ?_;(with_reducible refine (when_Civil.calls k a2 t138 t139 t140 t141 _ A5.out).mono ?_);rintro e w11 ⟨rfl,hb⟩;refine ⟨_,rfl,?_⟩;replace BK133:=ad_ (blk_below (g:=gb133) (o:=.cells #[.int .i64 a0_0,.int .i64 a0_1,.int .i64 a0_2,.int .i64 a0_3,.slice A0_4 l0_4.length c0_4,.slice A0_5 l0_5.length c0_5,.slice A0_6 l0_6.length c0_6] 25 (0,0)) (blo_ BK133.out) hb);replace HB:=hbb_ hb;clear hb) | ((with_reducible refine gate_callee (f:=35) rfl ?_);refine goesL_ (some 37) rfl rfl Tryz.func35 (by kernel_rfl) rfl #[.int .i64 a2] rfl arg_ ?_;(with_reducible refine (date_Weekday.calls a2 t142 t143 _ A6.out).mono ?_);rintro e w' ⟨rfl,⟨nd,rfl⟩⟩;refine ⟨_,rfl,?_⟩) | ((with_reducible refine gate_callee (f:=35) rfl ?_);refine goesL_ (some 42) rfl rfl Tryz.func35 (by kernel_rfl) rfl #[.int .i64 a1] rfl arg_ ?_;(with_reducible refine (date_Weekday.calls a1 t144 t145 _ A7.out).mono ?_);rintro e w' ⟨rfl,⟨nd,rfl⟩⟩;refine ⟨_,rfl,?_⟩;have hcz12_:=cells7_ BK133.out))
 (try simp only [Act.put,List.setIfInBounds_toArray,List.set_cons_zero,List.set_cons_succ])
 go_cut [62] (fun v62 wc=>∃ (kq:Nat) (x62_7:Bool),v62 = .bool x62_7∧Aside0 (recur_match.j0 kq a1 a2 t134 t135 t136 t138 t139 t140 t142 t144 a0_1 x62_7 a0_0 a0_1 a0_2 a0_3 l0_4 l0_5 l0_6=some r)∧Aside0 (kq≤k)∧Aside0 (wc.heap[gb133]? = some (.cells #[.int .i64 a0_0,.int .i64 a0_1,.int .i64 a0_2,.int .i64 a0_3,(.slice A0_4 l0_4.length c0_4),(.slice A0_5 l0_5.length c0_5),(.slice A0_6 l0_6.length c0_6)] 25 (0,0)))∧Aside0 (Below w.heap.size w wc))
 case first =>
  have H:=HC8.out;clear HC8
  by_cases c13:a2 < a1
  ·rw [if_pos c13] at H;have c13b0:decide (a2 < a1)=true:=decide_eq_true c13;clear c13
   (first | rw [c13b0] | (simp only [i64_w,i32_w];rw [c13b0]) | skip)
   have H':=ad_ H;clear H
   go_wp2
   go_meet
   case rel=>exact ⟨_,(true),val_,H',⟨by first | omega | exact Nat.le_refl _⟩,⟨blo_ BK133.out⟩,⟨belg_⟩⟩
  ·rw [if_neg c13] at H;have c13b0:decide (a2 < a1)=false:=decide_eq_false c13;clear c13
   (first | rw [c13b0] | (simp only [i64_w,i32_w];rw [c13b0]) | skip)
   by_cases c14:(l0_4.length:Int) > 0
   ·rw [if_pos c14] at H;have c14b0:decide (0 < (l0_4.length:Int))=true:=decide_eq_true c14;have c14b1:decide (0 < l0_4.length)=true:=decide_eq_true (by omega);clear c14;obtain ⟨t146,A150,H⟩:=bnd_ H
    try dsimp only at H
    have A15:=ad_ A150;clear A150;have H':=ad_ H;clear H;have hcz16_:=cells7_ BK133.out
    go_wp2_with (first | (go_at_call 36;(with_reducible refine (slices_Contains_int_int.calls k _ _ l0_4 t139 t146 _ ?_ ?_ A15.out).mono ?_);(iterate 2 exact sc_);rintro e w' ⟨rfl,⟨nd,rfl⟩⟩))
    go_meet
    case rel=>exact ⟨_,(!t146),val_,H',⟨by first | omega | exact Nat.le_refl _⟩,⟨blo_ BK133.out⟩,⟨belg_⟩⟩
   ·rw [if_neg c14] at H;have c14b0:decide (0 < (l0_4.length:Int))=false:=decide_eq_false c14;have c14b1:decide (0 < l0_4.length)=false:=decide_eq_false (by omega);clear c14;have H':=ad_ H;clear H;have hcz17_:=cells7_ BK133.out
    go_wp2
    go_meet
    case rel=>exact ⟨_,(false),val_,H',⟨by first | omega | exact Nat.le_refl _⟩,⟨blo_ BK133.out⟩,⟨belg_⟩⟩
 case rest =>
  clear HC8;(try clear c1);(try clear c2);(try clear p2);(try clear c3);(try clear c13);(try clear c13b0);(try clear c14);(try clear c14b0);(try clear c14b1);(try clear hcz12_);(try clear hcz16_);(try clear hcz17_);obtain ⟨kq,x62_7,rfl,HA,HJ7,BK133,HB⟩:=hcut
  cases kq with
  | zero=>exact absurd HA.out (by simp [recur_match.j0])
  | succ kj7 =>
   have H:=HA.out;clear HA
   simp only [recur_match.j0] at H
   by_cases c18:x62_7=true
   ·subst c18;replace H:=ifp_ H;obtain rfl:=Option.some.inj H
    go_wp2
    go_ret
    exact ⟨ret_,belg_⟩
   ·replace c18:=Bool.eq_false_iff.mpr c18;subst c18;replace H:=ifn_ H
    by_cases c19:a0_0=1
    ·rw [if_pos c19] at H;have c19b0:(a0_0 == 1)=true:=beq_iff_eq.mpr c19;have c19b1:(a0_0 != 1)=false:=bne_eq_false_iff_eq.mpr c19;clear c19
     by_cases c20:a0_1=0
     ·rw [if_pos c20] at H;exact absurd H (by simp)
     ·rw [if_neg c20] at H;have c20b0:(a0_1 == 0)=false:=beq_eq_false_iff_ne.mpr c20;have c20b1:(a0_1 != 0)=true:=bne_iff_ne.mpr c20
      by_cases c21:(Int.tmod (wrap64 (a2 - a1)) a0_1)=0
      ·rw [if_pos c21] at H;have c21b0:((Int.tmod (wrap64 (a2 - a1)) a0_1) == 0)=true:=beq_iff_eq.mpr c21;have c21b1:((Int.tmod (wrap64 (a2 - a1)) a0_1) != 0)=false:=bne_eq_false_iff_eq.mpr c21;clear c21;obtain ⟨t147,A220,H⟩:=bnd_ H
       try dsimp only at H
       have A22:=ad_ A220;clear A220;obtain rfl:=Option.some.inj H;have hcz23_:=cells7_ BK133.out
       go_wp2_with (first | (go_at_call 37;(with_reducible refine (recur_Rule_on.calls kj7 a0_0 a0_1 a0_2 a0_3 _ _ l0_4 _ _ l0_5 _ _ l0_6 t142 t147 _ ?_ ?_ ?_ ?_ ?_ ?_ A22.out).mono ?_);(iterate 6 exact sc_);rintro e w24 ⟨rfl,hb⟩;replace BK133:=ad_ (blk_below (g:=gb133) (o:=.cells #[.int .i64 a0_0,.int .i64 a0_1,.int .i64 a0_2,.int .i64 a0_3,.slice A0_4 l0_4.length c0_4,.slice A0_5 l0_5.length c0_5,.slice A0_6 l0_6.length c0_6] 25 (0,0)) (blo_ BK133.out) hb);replace HB:=hbb_ hb;clear hb))
       go_ret
       exact ⟨ret_,belg_⟩
      ·rw [if_neg c21] at H;have c21b0:((Int.tmod (wrap64 (a2 - a1)) a0_1) == 0)=false:=beq_eq_false_iff_ne.mpr c21;have c21b1:((Int.tmod (wrap64 (a2 - a1)) a0_1) != 0)=true:=bne_iff_ne.mpr c21;obtain rfl:=Option.some.inj H;have hcz25_:=cells7_ BK133.out
       go_wp2
       go_ret
       exact ⟨ret_,belg_⟩
    ·rw [if_neg c19] at H;have c19b0:(a0_0 == 1)=false:=beq_eq_false_iff_ne.mpr c19;have c19b1:(a0_0 != 1)=true:=bne_iff_ne.mpr c19
     by_cases c26:a0_0=2
     ·rw [if_pos c26] at H;have c26b0:(a0_0 == 2)=true:=beq_iff_eq.mpr c26;have c26b1:(a0_0 != 2)=false:=bne_eq_false_iff_eq.mpr c26;clear c26
      by_cases c27:a0_1=0
      ·rw [if_pos c27] at H;exact absurd H (by simp)
      ·rw [if_neg c27] at H;have c27b0:(a0_1 == 0)=false:=beq_eq_false_iff_ne.mpr c27;have c27b1:(a0_1 != 0)=true:=bne_iff_ne.mpr c27
       by_cases c28:(Int.tmod (wrap64 (Int.tdiv (wrap64 ((wrap64 ((wrap64 (a2 - t142)) - a1)) + t144)) 7)) a0_1)=0
       ·rw [if_pos c28] at H;have c28b0:((Int.tmod (wrap64 (Int.tdiv (wrap64 ((wrap64 ((wrap64 (a2 - t142)) - a1)) + t144)) 7)) a0_1) == 0)=true:=beq_iff_eq.mpr c28;have c28b1:((Int.tmod (wrap64 (Int.tdiv (wrap64 ((wrap64 ((wrap64 (a2 - t142)) - a1)) + t144)) 7)) a0_1) != 0)=false:=bne_eq_false_iff_eq.mpr c28;clear c28
        by_cases c29:(l0_6.length:Int) > 0
        ·rw [if_pos c29] at H;have c29b0:decide (0 < (l0_6.length:Int))=true:=decide_eq_true c29;have c29b1:decide (0 < l0_6.length)=true:=decide_eq_true (by omega);clear c29;obtain ⟨t148,A300,H⟩:=bnd_ H
         try dsimp only at H
         have A30:=ad_ A300;clear A300
         by_cases c31:t148=true
         ·subst c31;replace H:=ifp_ H;obtain rfl:=Option.some.inj H;have hcz32_:=cells7_ BK133.out
          go_wp2_with (first | (go_at_call 37;(with_reducible refine (recur_Rule_on.calls kj7 a0_0 a0_1 a0_2 a0_3 _ _ l0_4 _ _ l0_5 _ _ l0_6 t142 true _ ?_ ?_ ?_ ?_ ?_ ?_ A30.out).mono ?_);(iterate 6 exact sc_);rintro e w33 ⟨rfl,hb⟩;replace BK133:=ad_ (blk_below (g:=gb133) (o:=.cells #[.int .i64 a0_0,.int .i64 a0_1,.int .i64 a0_2,.int .i64 a0_3,.slice A0_4 l0_4.length c0_4,.slice A0_5 l0_5.length c0_5,.slice A0_6 l0_6.length c0_6] 25 (0,0)) (blo_ BK133.out) hb);replace HB:=hbb_ hb;clear hb))
          go_ret
          exact ⟨ret_,belg_⟩
         ·replace c31:=Bool.eq_false_iff.mpr c31;subst c31;replace H:=ifn_ H
          by_cases c34:(l0_6.length:Int)=0
          ·rw [if_pos c34] at H;have c34b0:((l0_6.length:Int) == 0)=true:=beq_iff_eq.mpr c34;have c34b1:((l0_6.length:Int) != 0)=false:=bne_eq_false_iff_eq.mpr c34;clear c34;obtain rfl:=Option.some.inj H;have hcz35_:=cells7_ BK133.out
           go_wp2_with (first | (go_at_call 37;(with_reducible refine (recur_Rule_on.calls kj7 a0_0 a0_1 a0_2 a0_3 _ _ l0_4 _ _ l0_5 _ _ l0_6 t142 false _ ?_ ?_ ?_ ?_ ?_ ?_ A30.out).mono ?_);(iterate 6 exact sc_);rintro e w36 ⟨rfl,hb⟩;replace BK133:=ad_ (blk_below (g:=gb133) (o:=.cells #[.int .i64 a0_0,.int .i64 a0_1,.int .i64 a0_2,.int .i64 a0_3,.slice A0_4 l0_4.length c0_4,.slice A0_5 l0_5.length c0_5,.slice A0_6 l0_6.length c0_6] 25 (0,0)) (blo_ BK133.out) hb);replace HB:=hbb_ hb;clear hb;have hcz37_:=cells7_ BK133.out))
           go_ret
           exact ⟨ret_,belg_⟩
          ·rw [if_neg c34] at H;have c34b0:((l0_6.length:Int) == 0)=false:=beq_eq_false_iff_ne.mpr c34;have c34b1:((l0_6.length:Int) != 0)=true:=bne_iff_ne.mpr c34
           have c34b2:¬(l0_6 = []):=fun h_=>c34 (by rw [h_];rfl)
           obtain rfl:=Option.some.inj H;have hcz38_:=cells7_ BK133.out
           go_wp2_with (first | (go_at_call 37;(with_reducible refine (recur_Rule_on.calls kj7 a0_0 a0_1 a0_2 a0_3 _ _ l0_4 _ _ l0_5 _ _ l0_6 t142 false _ ?_ ?_ ?_ ?_ ?_ ?_ A30.out).mono ?_);(iterate 6 exact sc_);rintro e w39 ⟨rfl,hb⟩;replace BK133:=ad_ (blk_below (g:=gb133) (o:=.cells #[.int .i64 a0_0,.int .i64 a0_1,.int .i64 a0_2,.int .i64 a0_3,.slice A0_4 l0_4.length c0_4,.slice A0_5 l0_5.length c0_5,.slice A0_6 l0_6.length c0_6] 25 (0,0)) (blo_ BK133.out) hb);replace HB:=hbb_ hb;clear hb;have hcz40_:=cells7_ BK133.out))
           go_ret
           exact ⟨ret_,belg_⟩
        ·rw [if_neg c29] at H;have c29b0:decide (0 < (l0_6.length:Int))=false:=decide_eq_false c29;have c29b1:decide (0 < l0_6.length)=false:=decide_eq_false (by omega);clear c29
         by_cases c41:(l0_6.length:Int)=0
         ·rw [if_pos c41] at H;have c41b0:((l0_6.length:Int) == 0)=true:=beq_iff_eq.mpr c41;have c41b1:((l0_6.length:Int) != 0)=false:=bne_eq_false_iff_eq.mpr c41;clear c41;obtain rfl:=Option.some.inj H;have hcz42_:=cells7_ BK133.out
          go_wp2
          go_ret
          exact ⟨ret_,belg_⟩
         ·rw [if_neg c41] at H;have c41b0:((l0_6.length:Int) == 0)=false:=beq_eq_false_iff_ne.mpr c41;have c41b1:((l0_6.length:Int) != 0)=true:=bne_iff_ne.mpr c41
          have c41b2:¬(l0_6 = []):=fun h_=>c41 (by rw [h_];rfl)
          obtain rfl:=Option.some.inj H;have hcz43_:=cells7_ BK133.out
          go_wp2
          go_ret
          exact ⟨ret_,belg_⟩
       ·rw [if_neg c28] at H;have c28b0:((Int.tmod (wrap64 (Int.tdiv (wrap64 ((wrap64 ((wrap64 (a2 - t142)) - a1)) + t144)) 7)) a0_1) == 0)=false:=beq_eq_false_iff_ne.mpr c28;have c28b1:((Int.tmod (wrap64 (Int.tdiv (wrap64 ((wrap64 ((wrap64 (a2 - t142)) - a1)) + t144)) 7)) a0_1) != 0)=true:=bne_iff_ne.mpr c28;obtain rfl:=Option.some.inj H;have hcz44_:=cells7_ BK133.out
        go_wp2
        go_ret
        exact ⟨ret_,belg_⟩
     ·rw [if_neg c26] at H;have c26b0:(a0_0 == 2)=false:=beq_eq_false_iff_ne.mpr c26;have c26b1:(a0_0 != 2)=true:=bne_iff_ne.mpr c26
      by_cases c45:a0_0=3
      ·rw [if_pos c45] at H;have c45b0:(a0_0 == 3)=true:=beq_iff_eq.mpr c45;have c45b1:(a0_0 != 3)=false:=bne_eq_false_iff_eq.mpr c45;clear c45
       by_cases c46:a0_1=0
       ·rw [if_pos c46] at H;exact absurd H (by simp)
       ·rw [if_neg c46] at H;have c46b0:(a0_1 == 0)=false:=beq_eq_false_iff_ne.mpr c46;have c46b1:(a0_1 != 0)=true:=bne_iff_ne.mpr c46
        by_cases c47:(Int.tmod (wrap64 ((wrap64 ((wrap64 (12 * (wrap64 (t138 - t134)))) + t139)) - t135)) a0_1)=0
        ·rw [if_pos c47] at H;have c47b0:((Int.tmod (wrap64 ((wrap64 ((wrap64 (12 * (wrap64 (t138 - t134)))) + t139)) - t135)) a0_1) == 0)=true:=beq_iff_eq.mpr c47;have c47b1:((Int.tmod (wrap64 ((wrap64 ((wrap64 (12 * (wrap64 (t138 - t134)))) + t139)) - t135)) a0_1) != 0)=false:=bne_eq_false_iff_eq.mpr c47;clear c47;obtain ⟨t149,A480,H⟩:=bnd_ H
         try dsimp only at H
         have A48:=ad_ A480;clear A480;obtain rfl:=Option.some.inj H;have hcz49_:=cells7_ BK133.out
         go_wp2_with (first | (go_at_call 38;(with_reducible refine (recur_Rule_may.calls kj7 a0_0 a0_1 a0_2 a0_3 _ _ l0_4 _ _ l0_5 _ _ l0_6 t138 t139 t140 t142 t136 t149 _ ?_ ?_ ?_ ?_ ?_ ?_ A48.out).mono ?_);(iterate 6 exact sc_);rintro e w50 ⟨rfl,hb⟩;replace BK133:=ad_ (blk_below (g:=gb133) (o:=.cells #[.int .i64 a0_0,.int .i64 a0_1,.int .i64 a0_2,.int .i64 a0_3,.slice A0_4 l0_4.length c0_4,.slice A0_5 l0_5.length c0_5,.slice A0_6 l0_6.length c0_6] 25 (0,0)) (blo_ BK133.out) hb);replace HB:=hbb_ hb;clear hb))
         go_ret
         exact ⟨ret_,belg_⟩
        ·rw [if_neg c47] at H;have c47b0:((Int.tmod (wrap64 ((wrap64 ((wrap64 (12 * (wrap64 (t138 - t134)))) + t139)) - t135)) a0_1) == 0)=false:=beq_eq_false_iff_ne.mpr c47;have c47b1:((Int.tmod (wrap64 ((wrap64 ((wrap64 (12 * (wrap64 (t138 - t134)))) + t139)) - t135)) a0_1) != 0)=true:=bne_iff_ne.mpr c47;obtain rfl:=Option.some.inj H;have hcz51_:=cells7_ BK133.out
         go_wp2
         go_ret
         exact ⟨ret_,belg_⟩
      ·rw [if_neg c45] at H;have c45b0:(a0_0 == 3)=false:=beq_eq_false_iff_ne.mpr c45;have c45b1:(a0_0 != 3)=true:=bne_iff_ne.mpr c45
       by_cases c52:a0_1=0
       ·rw [if_pos c52] at H;exact absurd H (by simp)
       ·rw [if_neg c52] at H;have c52b0:(a0_1 == 0)=false:=beq_eq_false_iff_ne.mpr c52;have c52b1:(a0_1 != 0)=true:=bne_iff_ne.mpr c52
        by_cases c53:(Int.tmod (wrap64 (t138 - t134)) a0_1)=0
        ·rw [if_pos c53] at H;have c53b0:((Int.tmod (wrap64 (t138 - t134)) a0_1) == 0)=true:=beq_iff_eq.mpr c53;have c53b1:((Int.tmod (wrap64 (t138 - t134)) a0_1) != 0)=false:=bne_eq_false_iff_eq.mpr c53;clear c53
         by_cases c54:(l0_4.length:Int) > 0
         ·rw [if_pos c54] at H;have c54b0:decide (0 < (l0_4.length:Int))=true:=decide_eq_true c54;have c54b1:decide (0 < l0_4.length)=true:=decide_eq_true (by omega);clear c54;obtain ⟨t150,A550,H⟩:=bnd_ H
          try dsimp only at H
          have A55:=ad_ A550;clear A550;obtain rfl:=Option.some.inj H;have hcz56_:=cells7_ BK133.out
          go_wp2_with (first | (go_at_call 38;(with_reducible refine (recur_Rule_may.calls kj7 a0_0 a0_1 a0_2 a0_3 _ _ l0_4 _ _ l0_5 _ _ l0_6 t138 t139 t140 t142 t136 t150 _ ?_ ?_ ?_ ?_ ?_ ?_ A55.out).mono ?_);(iterate 6 exact sc_);rintro e w57 ⟨rfl,hb⟩;replace BK133:=ad_ (blk_below (g:=gb133) (o:=.cells #[.int .i64 a0_0,.int .i64 a0_1,.int .i64 a0_2,.int .i64 a0_3,.slice A0_4 l0_4.length c0_4,.slice A0_5 l0_5.length c0_5,.slice A0_6 l0_6.length c0_6] 25 (0,0)) (blo_ BK133.out) hb);replace HB:=hbb_ hb;clear hb))
          go_ret
          exact ⟨ret_,belg_⟩
         ·rw [if_neg c54] at H;have c54b0:decide (0 < (l0_4.length:Int))=false:=decide_eq_false c54;have c54b1:decide (0 < l0_4.length)=false:=decide_eq_false (by omega);clear c54
          by_cases c58:t139=t135
          ·rw [if_pos c58] at H;have c58b0:(t139 == t135)=true:=beq_iff_eq.mpr c58;have c58b1:(t139 != t135)=false:=bne_eq_false_iff_eq.mpr c58;clear c58;obtain ⟨t151,A590,H⟩:=bnd_ H
           try dsimp only at H
           have A59:=ad_ A590;clear A590;obtain rfl:=Option.some.inj H;have hcz60_:=cells7_ BK133.out
           go_wp2_with (first | (go_at_call 38;(with_reducible refine (recur_Rule_may.calls kj7 a0_0 a0_1 a0_2 a0_3 _ _ l0_4 _ _ l0_5 _ _ l0_6 t138 t139 t140 t142 t136 t151 _ ?_ ?_ ?_ ?_ ?_ ?_ A59.out).mono ?_);(iterate 6 exact sc_);rintro e w61 ⟨rfl,hb⟩;replace BK133:=ad_ (blk_below (g:=gb133) (o:=.cells #[.int .i64 a0_0,.int .i64 a0_1,.int .i64 a0_2,.int .i64 a0_3,.slice A0_4 l0_4.length c0_4,.slice A0_5 l0_5.length c0_5,.slice A0_6 l0_6.length c0_6] 25 (0,0)) (blo_ BK133.out) hb);replace HB:=hbb_ hb;clear hb))
           go_ret
           exact ⟨ret_,belg_⟩
          ·rw [if_neg c58] at H;have c58b0:(t139 == t135)=false:=beq_eq_false_iff_ne.mpr c58;have c58b1:(t139 != t135)=true:=bne_iff_ne.mpr c58;obtain rfl:=Option.some.inj H;have hcz62_:=cells7_ BK133.out
           go_wp2
           go_ret
           exact ⟨ret_,belg_⟩
        ·rw [if_neg c53] at H;have c53b0:((Int.tmod (wrap64 (t138 - t134)) a0_1) == 0)=false:=beq_eq_false_iff_ne.mpr c53;have c53b1:((Int.tmod (wrap64 (t138 - t134)) a0_1) != 0)=true:=bne_iff_ne.mpr c53;obtain rfl:=Option.some.inj H;have hcz63_:=cells7_ BK133.out
         go_wp2
         go_ret
         exact ⟨ret_,belg_⟩

/-! ### recur_Match: function 10 -/
def recur_Match.f (k:Nat) (a0_0:Int) (a0_1:Int) (a0_2:Int) (a0_3:Int) (l0_4:List Int) (l0_5:List Int) (l0_6:List (S53)) (a1:Int) (a2:Int):Option (Bool×Int):=(recur_Right.f k a0_0 a0_1 a0_2 a0_3 l0_4 l0_5 l0_6).bind fun t153=>(if t153=true then ((recur_isDay.f a1).bind fun t154=>(if t154=true then ((recur_isDay.f a2).bind fun t155=>(if t155=true then ((recur_match.f k a0_0 a0_1 a0_2 a0_3 l0_4 l0_5 l0_6 a1 a2).bind fun t156=>(some (t156,0))) else (some (false,110)))) else (some (false,110)))) else (some (false,3)))
set_option maxHeartbeats 8000000 in
set_option maxRecDepth 100000 in
theorem recur_Match.calls (k:Nat) (a0_0:Int) (a0_1:Int) (a0_2:Int) (a0_3:Int) (A0_4:Option Addr) (c0_4:Nat) (l0_4:List Int) (A0_5:Option Addr) (c0_5:Nat) (l0_5:List Int) (A0_6:Option Addr) (c0_6:Nat) (l0_6:List (S53)) (a1:Int) (a2:Int) (r1:Bool) (r2:Int) (w:World) (hr0_4:Kd.C (Kd.int .i64) w A0_4 l0_4.length l0_4) (hc0_4:l0_4.length≤c0_4) (hr0_5:Kd.C (Kd.int .i64) w A0_5 l0_5.length l0_5) (hc0_5:l0_5.length≤c0_5) (hr0_6:Kd.C k53 w A0_6 l0_6.length l0_6) (hc0_6:l0_6.length≤c0_6) (h:recur_Match.f k a0_0 a0_1 a0_2 a0_3 l0_4 l0_5 l0_6 a1 a2=some (r1,r2)) :
  Calls Tryz.prog 10 #[.agg #[.int .i64 a0_0,.int .i64 a0_1,.int .i64 a0_2,.int .i64 a0_3,.slice A0_4 l0_4.length c0_4,.slice A0_5 l0_5.length c0_5,.slice A0_6 l0_6.length c0_6],.int .i64 a1,.int .i64 a2] w fun e w'=>e = .returned (.tuple #[.bool r1,.int .i64 r2])∧Below w.heap.size w w':=by
 have hu25:=Tryz.underlying25;have HR0_4:=Aside0.mk hr0_4;have HC0_4:=Aside0.mk hc0_4;clear hr0_4 hc0_4;have HR0_5:=Aside0.mk hr0_5;have HC0_5:=Aside0.mk hc0_5;clear hr0_5 hc0_5;have HR0_6:=Aside0.mk hr0_6;have HC0_6:=Aside0.mk hc0_6;clear hr0_6 hc0_6;have HB:=ad_ (Below.refl w.heap.size w);have H:((recur_Right.f k a0_0 a0_1 a0_2 a0_3 l0_4 l0_5 l0_6).bind fun t153=>(if t153=true then ((recur_isDay.f a1).bind fun t154=>(if t154=true then ((recur_isDay.f a2).bind fun t155=>(if t155=true then ((recur_match.f k a0_0 a0_1 a0_2 a0_3 l0_4 l0_5 l0_6 a1 a2).bind fun t156=>(some (t156,0))) else (some (false,110)))) else (some (false,110)))) else (some (false,3))))=some (r1,r2):=h;clear h;obtain ⟨t153,A40,H⟩:=bnd_ H
 try dsimp only at H
 have A4:=ad_ A40;clear A40
 by_cases c5:t153=true
 ·subst c5;replace H:=ifp_ H;obtain ⟨t154,A60,H⟩:=bnd_ H
  try dsimp only at H
  have A6:=ad_ A60;clear A60
  by_cases c7:t154=true
  ·subst c7;replace H:=ifp_ H;obtain ⟨t155,A80,H⟩:=bnd_ H
   try dsimp only at H
   have A8:=ad_ A80;clear A80
   by_cases c9:t155=true
   ·subst c9;replace H:=ifp_ H;obtain ⟨t156,A100,H⟩:=bnd_ H
    try dsimp only at H
    have A10:=ad_ A100;clear A100
    simp only [Option.some.injEq,Prod.mk.injEq] at H
    obtain ⟨rfl,rfl⟩:=H
    go_enter Tryz.func10,Tryz.ntmps10
    go_wp2_with (first | ((with_reducible refine gate_dst (N:=3) rfl ?_);refine box_event ?hg (N:=3) ?hd (cs:=#[.int .i64 a0_0,.int .i64 a0_1,.int .i64 a0_2,.int .i64 a0_3,.slice A0_4 l0_4.length c0_4,.slice A0_5 l0_5.length c0_5,.slice A0_6 l0_6.length c0_6]) (t:=25) ?hr ?_;(case hd=>rfl);(case hg=>rfl);(case hr=>first | (go_simp;done) | (go_simp;rfl));intro gb152 hg w11 hbox hb;have BK152:=ad_ (hbox);have GW152:=ad_ ((by rw [hg];exact (below_size bel_):w.heap.size≤gb152));have GE152:=ad_ ((by rw [hg];exact (below_size bel_):w.heap.size≤gb152));replace HB:=hbb_ hb;clear hb hbox hg;have hcz12_:=cells7_ BK152.out) | ((with_reducible refine gate_callee (f:=19) rfl ?_);refine goesL_ (some 10) rfl rfl Tryz.func19 (by kernel_rfl) rfl #[.agg #[.int .i64 a0_0,.int .i64 a0_1,.int .i64 a0_2,.int .i64 a0_3,.slice A0_4 l0_4.length c0_4,.slice A0_5 l0_5.length c0_5,.slice A0_6 l0_6.length c0_6]] rfl arg_ ?_;(with_reducible refine (recur_Right.calls k a0_0 a0_1 a0_2 a0_3 _ _ l0_4 _ _ l0_5 _ _ l0_6 true _ ?_ ?_ ?_ ?_ ?_ ?_ A4.out).mono ?_);(iterate 6 exact sc_);rintro e w13 ⟨rfl,hb⟩;refine ⟨_,rfl,?_⟩;replace BK152:=ad_ (blk_below (g:=gb152) (o:=.cells #[.int .i64 a0_0,.int .i64 a0_1,.int .i64 a0_2,.int .i64 a0_3,.slice A0_4 l0_4.length c0_4,.slice A0_5 l0_5.length c0_5,.slice A0_6 l0_6.length c0_6] 25 (0,0)) (blo_ BK152.out) hb);replace HB:=hbb_ hb;clear hb) | ((with_reducible refine gate_callee (f:=20) rfl ?_);refine goesL_ (some 14) rfl rfl Tryz.func20 (by kernel_rfl) rfl #[.int .i64 a1] rfl arg_ ?_;(with_reducible refine (recur_isDay.calls a1 true _ A6.out).mono ?_);rintro e w' ⟨rfl,⟨nd,rfl⟩⟩;refine ⟨_,rfl,?_⟩) | (go_at_call 20;(with_reducible refine (recur_isDay.calls a2 true _ A8.out).mono ?_);rintro e w' ⟨rfl,⟨nd,rfl⟩⟩;have hcz14_:=cells7_ BK152.out) | ((with_reducible refine gate_callee (f:=21) rfl ?_);refine goesL_ (some 24) rfl rfl Tryz.func21 (by kernel_rfl) rfl #[.agg #[.int .i64 a0_0,.int .i64 a0_1,.int .i64 a0_2,.int .i64 a0_3,.slice A0_4 l0_4.length c0_4,.slice A0_5 l0_5.length c0_5,.slice A0_6 l0_6.length c0_6],.int .i64 a1,.int .i64 a2] rfl arg_ ?_;(with_reducible refine (recur_match.calls k a0_0 a0_1 a0_2 a0_3 _ _ l0_4 _ _ l0_5 _ _ l0_6 a1 a2 t156 _ ?_ ?_ ?_ ?_ ?_ ?_ A10.out).mono ?_);exact cop_ (Kd.C_below HR0_4.out belg_);exact HC0_4.out;exact cop_ (Kd.C_below HR0_5.out belg_);exact HC0_5.out;exact cop_ (Kd.C_below HR0_6.out belg_);exact HC0_6.out;rintro e w15 ⟨rfl,hb⟩;refine ⟨_,rfl,?_⟩;replace BK152:=ad_ (blk_below (g:=gb152) (o:=.cells #[.int .i64 a0_0,.int .i64 a0_1,.int .i64 a0_2,.int .i64 a0_3,.slice A0_4 l0_4.length c0_4,.slice A0_5 l0_5.length c0_5,.slice A0_6 l0_6.length c0_6] 25 (0,0)) (blo_ BK152.out) hb);replace HB:=hbb_ hb;clear hb))
    go_ret2
    exact ⟨ret_,belg_⟩
   ·replace c9:=Bool.eq_false_iff.mpr c9;subst c9;replace H:=ifn_ H
    simp only [Option.some.injEq,Prod.mk.injEq] at H
    obtain ⟨rfl,rfl⟩:=H
    go_enter Tryz.func10,Tryz.ntmps10
    go_wp2_with (first | ((with_reducible refine gate_dst (N:=3) rfl ?_);refine box_event ?hg (N:=3) ?hd (cs:=#[.int .i64 a0_0,.int .i64 a0_1,.int .i64 a0_2,.int .i64 a0_3,.slice A0_4 l0_4.length c0_4,.slice A0_5 l0_5.length c0_5,.slice A0_6 l0_6.length c0_6]) (t:=25) ?hr ?_;(case hd=>rfl);(case hg=>rfl);(case hr=>first | (go_simp;done) | (go_simp;rfl));intro gb152 hg w16 hbox hb;have BK152:=ad_ (hbox);have GW152:=ad_ ((by rw [hg];exact (below_size bel_):w.heap.size≤gb152));have GE152:=ad_ ((by rw [hg];exact (below_size bel_):w.heap.size≤gb152));replace HB:=hbb_ hb;clear hb hbox hg;have hcz17_:=cells7_ BK152.out) | ((with_reducible refine gate_callee (f:=19) rfl ?_);refine goesL_ (some 10) rfl rfl Tryz.func19 (by kernel_rfl) rfl #[.agg #[.int .i64 a0_0,.int .i64 a0_1,.int .i64 a0_2,.int .i64 a0_3,.slice A0_4 l0_4.length c0_4,.slice A0_5 l0_5.length c0_5,.slice A0_6 l0_6.length c0_6]] rfl arg_ ?_;(with_reducible refine (recur_Right.calls k a0_0 a0_1 a0_2 a0_3 _ _ l0_4 _ _ l0_5 _ _ l0_6 true _ ?_ ?_ ?_ ?_ ?_ ?_ A4.out).mono ?_);(iterate 6 exact sc_);rintro e w18 ⟨rfl,hb⟩;refine ⟨_,rfl,?_⟩;replace BK152:=ad_ (blk_below (g:=gb152) (o:=.cells #[.int .i64 a0_0,.int .i64 a0_1,.int .i64 a0_2,.int .i64 a0_3,.slice A0_4 l0_4.length c0_4,.slice A0_5 l0_5.length c0_5,.slice A0_6 l0_6.length c0_6] 25 (0,0)) (blo_ BK152.out) hb);replace HB:=hbb_ hb;clear hb) | ((with_reducible refine gate_callee (f:=20) rfl ?_);refine goesL_ (some 14) rfl rfl Tryz.func20 (by kernel_rfl) rfl #[.int .i64 a1] rfl arg_ ?_;(with_reducible refine (recur_isDay.calls a1 true _ A6.out).mono ?_);rintro e w' ⟨rfl,⟨nd,rfl⟩⟩;refine ⟨_,rfl,?_⟩) | (go_at_call 20;(with_reducible refine (recur_isDay.calls a2 false _ A8.out).mono ?_);rintro e w' ⟨rfl,⟨nd,rfl⟩⟩))
    go_ret2
    exact ⟨ret_,belg_⟩
  ·replace c7:=Bool.eq_false_iff.mpr c7;subst c7;replace H:=ifn_ H
   simp only [Option.some.injEq,Prod.mk.injEq] at H
   obtain ⟨rfl,rfl⟩:=H
   go_enter Tryz.func10,Tryz.ntmps10
   go_wp2_with (first | ((with_reducible refine gate_dst (N:=3) rfl ?_);refine box_event ?hg (N:=3) ?hd (cs:=#[.int .i64 a0_0,.int .i64 a0_1,.int .i64 a0_2,.int .i64 a0_3,.slice A0_4 l0_4.length c0_4,.slice A0_5 l0_5.length c0_5,.slice A0_6 l0_6.length c0_6]) (t:=25) ?hr ?_;(case hd=>rfl);(case hg=>rfl);(case hr=>first | (go_simp;done) | (go_simp;rfl));intro gb152 hg w19 hbox hb;have BK152:=ad_ (hbox);have GW152:=ad_ ((by rw [hg];exact (below_size bel_):w.heap.size≤gb152));have GE152:=ad_ ((by rw [hg];exact (below_size bel_):w.heap.size≤gb152));replace HB:=hbb_ hb;clear hb hbox hg;have hcz20_:=cells7_ BK152.out) | ((with_reducible refine gate_callee (f:=19) rfl ?_);refine goesL_ (some 10) rfl rfl Tryz.func19 (by kernel_rfl) rfl #[.agg #[.int .i64 a0_0,.int .i64 a0_1,.int .i64 a0_2,.int .i64 a0_3,.slice A0_4 l0_4.length c0_4,.slice A0_5 l0_5.length c0_5,.slice A0_6 l0_6.length c0_6]] rfl arg_ ?_;(with_reducible refine (recur_Right.calls k a0_0 a0_1 a0_2 a0_3 _ _ l0_4 _ _ l0_5 _ _ l0_6 true _ ?_ ?_ ?_ ?_ ?_ ?_ A4.out).mono ?_);(iterate 6 exact sc_);rintro e w21 ⟨rfl,hb⟩;refine ⟨_,rfl,?_⟩;replace BK152:=ad_ (blk_below (g:=gb152) (o:=.cells #[.int .i64 a0_0,.int .i64 a0_1,.int .i64 a0_2,.int .i64 a0_3,.slice A0_4 l0_4.length c0_4,.slice A0_5 l0_5.length c0_5,.slice A0_6 l0_6.length c0_6] 25 (0,0)) (blo_ BK152.out) hb);replace HB:=hbb_ hb;clear hb) | ((with_reducible refine gate_callee (f:=20) rfl ?_);refine goesL_ (some 14) rfl rfl Tryz.func20 (by kernel_rfl) rfl #[.int .i64 a1] rfl arg_ ?_;(with_reducible refine (recur_isDay.calls a1 false _ A6.out).mono ?_);rintro e w' ⟨rfl,⟨nd,rfl⟩⟩;refine ⟨_,rfl,?_⟩))
   go_ret2
   exact ⟨ret_,belg_⟩
 ·replace c5:=Bool.eq_false_iff.mpr c5;subst c5;replace H:=ifn_ H
  simp only [Option.some.injEq,Prod.mk.injEq] at H
  obtain ⟨rfl,rfl⟩:=H
  go_enter Tryz.func10,Tryz.ntmps10
  go_wp2_with (first | ((with_reducible refine gate_dst (N:=3) rfl ?_);refine box_event ?hg (N:=3) ?hd (cs:=#[.int .i64 a0_0,.int .i64 a0_1,.int .i64 a0_2,.int .i64 a0_3,.slice A0_4 l0_4.length c0_4,.slice A0_5 l0_5.length c0_5,.slice A0_6 l0_6.length c0_6]) (t:=25) ?hr ?_;(case hd=>rfl);(case hg=>rfl);(case hr=>first | (go_simp;done) | (go_simp;rfl));intro gb152 hg w22 hbox hb;have BK152:=ad_ (hbox);have GW152:=ad_ ((by rw [hg];exact (below_size bel_):w.heap.size≤gb152));have GE152:=ad_ ((by rw [hg];exact (below_size bel_):w.heap.size≤gb152));replace HB:=hbb_ hb;clear hb hbox hg;have hcz23_:=cells7_ BK152.out) | ((with_reducible refine gate_callee (f:=19) rfl ?_);refine goesL_ (some 10) rfl rfl Tryz.func19 (by kernel_rfl) rfl #[.agg #[.int .i64 a0_0,.int .i64 a0_1,.int .i64 a0_2,.int .i64 a0_3,.slice A0_4 l0_4.length c0_4,.slice A0_5 l0_5.length c0_5,.slice A0_6 l0_6.length c0_6]] rfl arg_ ?_;(with_reducible refine (recur_Right.calls k a0_0 a0_1 a0_2 a0_3 _ _ l0_4 _ _ l0_5 _ _ l0_6 false _ ?_ ?_ ?_ ?_ ?_ ?_ A4.out).mono ?_);(iterate 6 exact sc_);rintro e w24 ⟨rfl,hb⟩;refine ⟨_,rfl,?_⟩;replace BK152:=ad_ (blk_below (g:=gb152) (o:=.cells #[.int .i64 a0_0,.int .i64 a0_1,.int .i64 a0_2,.int .i64 a0_3,.slice A0_4 l0_4.length c0_4,.slice A0_5 l0_5.length c0_5,.slice A0_6 l0_6.length c0_6] 25 (0,0)) (blo_ BK152.out) hb);replace HB:=hbb_ hb;clear hb))
  go_ret2
  exact ⟨ret_,belg_⟩

/-! ### recur_Expand: function 14 -/
def recur_Expand.f (k:Nat) (a0_0 a0_1 a0_2 a0_3:Int) (l0_4 l0_5:List Int) (l0_6:List S53) (a1 a2 a3 a4:Int):Option (List Int×Int) :=
 (recur_Right.f k a0_0 a0_1 a0_2 a0_3 l0_4 l0_5 l0_6).bind fun ok =>
 if ok=false then some ([],3)
 else if ¬((0≤a1∧a1≤253402300799)∧(0≤a2∧a2≤253402300799)∧(0≤a3∧a3≤253402300799)) then some ([],110)
 else if ¬(a3 - a1≤631152000∧(1≤a4∧a4≤1000)) then some ([],1)
 else if 1≤a0_1∧a0_1≤1000 then
  (Expand.exDays (fun kq d=>recur_match.f kq a0_0 a0_1 a0_2 a0_3 l0_4 l0_5 l0_6 (a1 / 86400) d) (a1 / 86400) (min (a3 / 86400) 2932896) (if a0_0=1 then a0_1 else 1) k (a1 / 86400)).bind fun xs=>some (Expand.exRun a0_2 a0_3 a1 a2 a3 a4 0 [] xs,0)
 else none
theorem recur_Expand.calls (k:Nat) (a0_0:Int) (a0_1:Int) (a0_2:Int) (a0_3:Int) (A0_4:Option Addr) (c0_4:Nat) (l0_4:List Int) (A0_5:Option Addr) (c0_5:Nat) (l0_5:List Int) (A0_6:Option Addr) (c0_6:Nat) (l0_6:List (S53)) (a1 a2 a3 a4:Int) (r1:List Int) (r2:Int) (w:World) (hr0_4:Kd.C (Kd.int .i64) w A0_4 l0_4.length l0_4) (hc0_4:l0_4.length≤c0_4) (hr0_5:Kd.C (Kd.int .i64) w A0_5 l0_5.length l0_5) (hc0_5:l0_5.length≤c0_5) (hr0_6:Kd.C k53 w A0_6 l0_6.length l0_6) (hc0_6:l0_6.length≤c0_6) (h:recur_Expand.f k a0_0 a0_1 a0_2 a0_3 l0_4 l0_5 l0_6 a1 a2 a3 a4=some (r1,r2)) :
  Calls Tryz.prog 14 #[.agg #[.int .i64 a0_0,.int .i64 a0_1,.int .i64 a0_2,.int .i64 a0_3,.slice A0_4 l0_4.length c0_4,.slice A0_5 l0_5.length c0_5,.slice A0_6 l0_6.length c0_6],.int .i64 a1,.int .i64 a2,.int .i64 a3,.int .i64 a4] w fun e w'=>∃ v0_:Value,e = .returned (.tuple #[v0_,.int .i64 r2])∧Kd.R (Kd.int .i64) 2 w' w.heap.size (fun _=>True) v0_ r1∧Below w.heap.size w w':=by
 unfold recur_Expand.f at h
 obtain ⟨ok,hok,h⟩:=Option.bind_eq_some_iff.mp h
 have hT:∀ t W,Calls Tryz.prog 24 #[.int .i64 t] W fun e w'=>e = .returned (.bool (decide (0≤t∧t≤253402300799)))∧Below W.heap.size W w':=fun t W=>(when_Right.calls t _ W (by unfold when_Right.f;by_cases h1:0≤t <;> by_cases h2:t≤253402300799 <;> simp [h1,h2])).mono fun e w' h=>⟨h.1,h.2.below⟩
 have hRt:∀ W,Below w.heap.size w W→Calls Tryz.prog 19 #[.agg #[.int .i64 a0_0,.int .i64 a0_1,.int .i64 a0_2,.int .i64 a0_3,.slice A0_4 l0_4.length c0_4,.slice A0_5 l0_5.length c0_5,.slice A0_6 l0_6.length c0_6]] W fun e w'=>e = .returned (.bool ok)∧Below W.heap.size W w' :=
  fun W hb=>recur_Right.calls k a0_0 a0_1 a0_2 a0_3 A0_4 c0_4 l0_4 A0_5 c0_5 l0_5 A0_6 c0_6 l0_6 ok W (Kd.C_below hr0_4 hb) hc0_4 (Kd.C_below hr0_5 hb) hc0_5 (Kd.C_below hr0_6 hb) hc0_6 hok
 have err:∀ c:Int,((ok=false∧c=3)∨(ok=true∧¬(0≤a1∧a1≤253402300799)∧c=110)∨(ok=true∧(0≤a1∧a1≤253402300799)∧¬(0≤a2∧a2≤253402300799)∧c=110)∨(ok=true∧(0≤a1∧a1≤253402300799)∧(0≤a2∧a2≤253402300799)∧¬(0≤a3∧a3≤253402300799)∧c=110) ∨
   (ok=true∧(0≤a1∧a1≤253402300799)∧(0≤a2∧a2≤253402300799)∧(0≤a3∧a3≤253402300799)∧631152000 < a3 - a1∧c=1)∨(ok=true∧(0≤a1∧a1≤253402300799)∧(0≤a2∧a2≤253402300799)∧(0≤a3∧a3≤253402300799)∧a3 - a1≤631152000∧a4 < 1∧c=1) ∨
   (ok=true∧(0≤a1∧a1≤253402300799)∧(0≤a2∧a2≤253402300799)∧(0≤a3∧a3≤253402300799)∧a3 - a1≤631152000∧1≤a4∧1000 < a4∧c=1))→r1 = []→r2=c →
   Calls Tryz.prog 14 #[.agg #[.int .i64 a0_0,.int .i64 a0_1,.int .i64 a0_2,.int .i64 a0_3,.slice A0_4 l0_4.length c0_4,.slice A0_5 l0_5.length c0_5,.slice A0_6 l0_6.length c0_6],.int .i64 a1,.int .i64 a2,.int .i64 a3,.int .i64 a4] w fun e w'=>∃ v0_:Value,e = .returned (.tuple #[v0_,.int .i64 r2])∧Kd.R (Kd.int .i64) 2 w' w.heap.size (fun _=>True) v0_ r1∧Below w.heap.size w w':=fun c hc e1 e2=>by
  subst e1;subst e2
  refine (Expand.expand_err w a0_0 a0_1 a0_2 a0_3 (.slice A0_4 l0_4.length c0_4) (.slice A0_5 l0_5.length c0_5) (.slice A0_6 l0_6.length c0_6) a1 a2 a3 a4 r2 ok (fun t=>decide (0≤t∧t≤253402300799)) rfl rfl rfl hRt hT (fun _ h1 h3=>?_) (by simpa only [decide_eq_true_eq,decide_eq_false_iff_not] using hc)).mono ?_
  ·have h1:=of_decide_eq_true h1;have h3:=of_decide_eq_true h3
   unfold wrap64
   omega
  ·rintro e w' ⟨rfl,hb⟩;exact ⟨_,rfl,Kd.R_nil _ _ _ _ _,hb⟩
 by_cases c0:ok=false
 ·rw [if_pos c0] at h;obtain ⟨e1,e2⟩:=Prod.mk.inj (Option.some.inj h);exact err 3 (.inl ⟨c0,rfl⟩) e1.symm e2.symm
 ·rw [if_neg c0] at h
  have c0':ok=true:=by cases ok <;> simp_all
  by_cases c1:(0≤a1∧a1≤253402300799)∧(0≤a2∧a2≤253402300799)∧(0≤a3∧a3≤253402300799)
  ·rw [if_neg (fun hn=>hn c1)] at h
   by_cases c2:a3 - a1≤631152000∧(1≤a4∧a4≤1000)
   ·rw [if_neg (fun hn=>hn c2)] at h
    by_cases c3:1≤a0_1∧a0_1≤1000
    ·rw [if_pos c3] at h;clear err hT;subst c0';obtain ⟨xs,hx,h⟩:=Option.bind_eq_some_iff.mp h;obtain ⟨rfl,rfl⟩:=Prod.mk.inj (Option.some.inj h);obtain ⟨c1,c2',c3'⟩:=c1;obtain ⟨c4,c5⟩:=c2;have c6:=c3
     refine (Expand.expand_main w a0_0 a0_1 a0_2 a0_3 (if a0_0=1 then a0_1 else 1) (.slice A0_4 l0_4.length c0_4) (.slice A0_5 l0_5.length c0_5) (.slice A0_6 l0_6.length c0_6) a1 a2 a3 a4 (fun kq d=>recur_match.f kq a0_0 a0_1 a0_2 a0_3 l0_4 l0_5 l0_6 (a1 / 86400) d) k xs
      (by by_cases e:a0_0=1;(· rw [if_pos e];exact .inl ⟨e,rfl⟩);(· rw [if_neg e];exact .inr ⟨e,rfl⟩)) (by split <;> omega) (by split <;> omega) rfl rfl rfl
      (fun W hb=>recur_Right.calls k a0_0 a0_1 a0_2 a0_3 A0_4 c0_4 l0_4 A0_5 c0_5 l0_5 A0_6 c0_6 l0_6 true W (Kd.C_below hr0_4 hb) hc0_4 (Kd.C_below hr0_5 hb) hc0_5 (Kd.C_below hr0_6 hb) hc0_6 hok)
      (fun t W ht=>(when_Right.calls t true W (by unfold when_Right.f;simp [ht.1,ht.2])).mono fun e w' h=>⟨h.1,h.2.below⟩)
      (fun kq d b W hm hb=>recur_match.calls kq a0_0 a0_1 a0_2 a0_3 A0_4 c0_4 l0_4 A0_5 c0_5 l0_5 A0_6 c0_6 l0_6 (a1 / 86400) d b W (Kd.C_below hr0_4 hb) hc0_4 (Kd.C_below hr0_5 hb) hc0_5 (Kd.C_below hr0_6 hb) hc0_6 hm)
      c1 c2' c3' c4 c5 hx).mono ?_
     rintro e w' ⟨v,rfl,ho,hb⟩;exact ⟨v,rfl,Kd.R_of_own ho (fun _ _=>trivial),hb⟩
    ·rw [if_neg c3] at h
     cases h
   ·rw [if_pos c2] at h;obtain ⟨e1,e2⟩:=Prod.mk.inj (Option.some.inj h)
    refine err 1 ?_ e1.symm e2.symm
    by_cases d1:a3 - a1≤631152000
    ·by_cases d2:1≤a4
     ·exact .inr (.inr (.inr (.inr (.inr (.inr ⟨c0',c1.1,c1.2.1,c1.2.2,d1,d2,by omega,rfl⟩)))))
     ·exact .inr (.inr (.inr (.inr (.inr (.inl ⟨c0',c1.1,c1.2.1,c1.2.2,d1,by omega,rfl⟩)))))
    ·exact .inr (.inr (.inr (.inr (.inl ⟨c0',c1.1,c1.2.1,c1.2.2,by omega,rfl⟩))))
  ·rw [if_pos c1] at h;obtain ⟨e1,e2⟩:=Prod.mk.inj (Option.some.inj h)
   refine err 110 ?_ e1.symm e2.symm
   by_cases d1:0≤a1∧a1≤253402300799
   ·by_cases d2:0≤a2∧a2≤253402300799
    ·exact .inr (.inr (.inr (.inl ⟨c0',d1,d2,fun d3=>c1 ⟨d1,d2,d3⟩,rfl⟩)))
    ·exact .inr (.inr (.inl ⟨c0',d1,d2,rfl⟩))
   ·exact .inr (.inl ⟨c0',d1,rfl⟩)

/-! ### strings_Split: function 28 -/
/-- The parts of a text. -/
def strings_Split.f (a0 a1:ByteArray):Option (List ByteArray):=if a0.size < 4294967281∧1≤a1.size then some (Go.Lib.splitB a1 0 (Go.Lib.countB a0 a1) a0) else none
theorem strings_Split.calls (a0 a1:ByteArray) (r:List ByteArray) (w:World) (h:strings_Split.f a0 a1=some r) (hG:Read.Glob w:=by exact Read.Glob.below HG.out bel_) :
  Calls Tryz.prog 28 #[.string a0,.string a1] w fun e w'=>∃ v0_:Value,e = .returned v0_∧Kd.R Kd.string 9 w' w.heap.size (fun _=>True) v0_ r∧Below w.heap.size w w':=by
 unfold strings_Split.f at h
 split at h
 ·rename_i c
  obtain rfl:=Option.some.inj h
  refine (Read.split_main a0 a1 c.1 c.2 w hG).mono ?_
  rintro e w' ⟨v,rfl,ho,hb⟩;exact ⟨v,rfl,Kd.R_of_own ho (fun _ _=>trivial),hb⟩
 ·cases h

/-! ### recur_upper: function 29 -/
def recur_upper.f (a0:ByteArray):Option ByteArray:=if a0.size≤100000 then some ⟨(a0.data.toList.map Read.up).toArray⟩ else none
theorem recur_upper.calls (a0:ByteArray) (r:ByteArray) (w:World) (h:recur_upper.f a0=some r) :
  Calls Tryz.prog 29 #[.string a0] w fun e w'=>e = .returned (.string r)∧Below w.heap.size w w':=by
 unfold recur_upper.f at h
 split at h
 ·rename_i c
  obtain rfl:=Option.some.inj h;exact Read.upper_main a0 c w
 ·cases h

/-! ### recur_freq: function 49 -/
def recur_freq.f (a0:Int):Option ByteArray:=if 0≤a0∧a0 < 5 then some (Read.freqT a0) else none
theorem recur_freq.calls (a0:Int) (r:ByteArray) (w:World) (h:recur_freq.f a0=some r) :
  Calls Tryz.prog 49 #[.int .i64 a0] w fun e w'=>e = .returned (.string r)∧Below w.heap.size w w':=by
 unfold recur_freq.f at h
 split at h
 ·rename_i c
  obtain rfl:=Option.some.inj h;exact Read.freq_main a0 c w
 ·cases h

end Go.Proofs.YtbeihceeliifeaaGreatDoor.PR

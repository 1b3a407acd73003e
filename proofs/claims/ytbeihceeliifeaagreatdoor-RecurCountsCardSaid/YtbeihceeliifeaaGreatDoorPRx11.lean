-- Written by a program of the session (wip/tools).
import Derived.Test.YtbeihceeliifeaaGreatDoorPRx0
import Derived.Test.YtbeihceeliifeaaGreatDoorPRx9
import Derived.Test.YtbeihceeliifeaaGreatDoorPRx10
namespace Go.Proofs.YtbeihceeliifeaaGreatDoor.PR
open Go.RowKit Go.Proofs.YtbeihceeliifeaaGreatDoorW.PrintWords Go.Proofs.YtbeihceeliifeaaGreatDoorW.PrintLast Go.Proofs.YtbeihceeliifeaaGreatDoorW.PrintMore
attribute [local go_sem] max2_int min2_int max_two min_two max_three min_three max_four min_four   -- for this text's walks alone
set_option linter.unusedVariables false
set_option linter.unusedSimpArgs false

/-! ### posthornref21_Right: function 22 -/
mutual
def posthornref21_Right.j0:Nat→Bool→Int→Int→Int→Int→List Int→List Int→List (S54)→Option (Bool)
 | 0,_,_,_,_,_,_,_,_=>none
 | k + 1,x30,x227000,x227001,x227002,x227003,x227004,x227005,x227006=>if x30=true then (some false) else (if x227003=(-1) then (posthornref21_Right.j1 k false x227000 x227001 x227002 x227003 x227004 x227005 x227006) else ((posthornref12_Time.f x227003).bind fun t227=>(if t227=true then (posthornref21_Right.j1 k (decide (x227002 > 0)) x227000 x227001 x227002 x227003 x227004 x227005 x227006) else (posthornref21_Right.j1 k true x227000 x227001 x227002 x227003 x227004 x227005 x227006))))
def posthornref21_Right.j1:Nat→Bool→Int→Int→Int→Int→List Int→List Int→List (S54)→Option (Bool)
 | 0,_,_,_,_,_,_,_,_=>none
 | k + 1,x49,x227000,x227001,x227002,x227003,x227004,x227005,x227006=>if x49=true then (some false) else (if x227000≤2 then (posthornref21_Right.j2 k (decide ((x227005.length:Int) > 0)) x227000 x227001 x227002 x227003 x227004 x227005 x227006) else (posthornref21_Right.j2 k false x227000 x227001 x227002 x227003 x227004 x227005 x227006))
def posthornref21_Right.j2:Nat→Bool→Int→Int→Int→Int→List Int→List Int→List (S54)→Option (Bool)
 | 0,_,_,_,_,_,_,_,_=>none
 | k + 1,x58,x227000,x227001,x227002,x227003,x227004,x227005,x227006=>if x58=true then (some false) else ((posthornref21_list.f k x227004 1 12).bind fun t228=>(if t228=true then ((posthornref21_list.f k x227005 (-31) 31).bind fun t229=>(if t229=true then ((posthornref21_week.f k x227006 (decide (x227000 ≥ 3))).bind fun t230=>(some t230)) else (some false))) else (some false)))
end
def posthornref21_Right.f (k:Nat) (a0_0:Int) (a0_1:Int) (a0_2:Int) (a0_3:Int) (l0_4:List Int) (l0_5:List Int) (l0_6:List (S54)):Option (Bool):=if a0_0 < 1 then (posthornref21_Right.j0 k true a0_0 a0_1 a0_2 a0_3 l0_4 l0_5 l0_6) else (if a0_0 > 4 then (posthornref21_Right.j0 k true a0_0 a0_1 a0_2 a0_3 l0_4 l0_5 l0_6) else (if a0_1 < 1 then (posthornref21_Right.j0 k true a0_0 a0_1 a0_2 a0_3 l0_4 l0_5 l0_6) else (if a0_1 > 1000 then (posthornref21_Right.j0 k true a0_0 a0_1 a0_2 a0_3 l0_4 l0_5 l0_6) else (if a0_2 < 0 then (posthornref21_Right.j0 k true a0_0 a0_1 a0_2 a0_3 l0_4 l0_5 l0_6) else (posthornref21_Right.j0 k (decide (a0_2 > 10000)) a0_0 a0_1 a0_2 a0_3 l0_4 l0_5 l0_6)))))
set_option maxHeartbeats 8000000 in
set_option maxRecDepth 100000 in
theorem posthornref21_Right.calls (k:Nat) (a0_0:Int) (a0_1:Int) (a0_2:Int) (a0_3:Int) (A0_4:Option Addr) (c0_4:Nat) (l0_4:List Int) (A0_5:Option Addr) (c0_5:Nat) (l0_5:List Int) (A0_6:Option Addr) (c0_6:Nat) (l0_6:List (S54)) (r:Bool) (w:World) (hr0_4:Kd.C (Kd.int .i64) w A0_4 l0_4.length l0_4) (hc0_4:l0_4.length≤c0_4) (hr0_5:Kd.C (Kd.int .i64) w A0_5 l0_5.length l0_5) (hc0_5:l0_5.length≤c0_5) (hr0_6:Kd.C k54 w A0_6 l0_6.length l0_6) (hc0_6:l0_6.length≤c0_6) (h:posthornref21_Right.f k a0_0 a0_1 a0_2 a0_3 l0_4 l0_5 l0_6=some r) :
  Calls Tryz.prog 22 #[.agg #[.int .i64 a0_0,.int .i64 a0_1,.int .i64 a0_2,.int .i64 a0_3,.slice A0_4 l0_4.length c0_4,.slice A0_5 l0_5.length c0_5,.slice A0_6 l0_6.length c0_6]] w fun e w'=>e = .returned (.bool r)∧Below w.heap.size w w':=by
 have hu34:=Tryz.underlying34;have HR0_4:=Aside0.mk hr0_4;have HC0_4:=Aside0.mk hc0_4;clear hr0_4 hc0_4;have HR0_5:=Aside0.mk hr0_5;have HC0_5:=Aside0.mk hc0_5;clear hr0_5 hc0_5;have HR0_6:=Aside0.mk hr0_6;have HC0_6:=Aside0.mk hc0_6;clear hr0_6 hc0_6;have HB:=ad_ (Below.refl w.heap.size w);have H:(if a0_0 < 1 then (posthornref21_Right.j0 k true a0_0 a0_1 a0_2 a0_3 l0_4 l0_5 l0_6) else (if a0_0 > 4 then (posthornref21_Right.j0 k true a0_0 a0_1 a0_2 a0_3 l0_4 l0_5 l0_6) else (if a0_1 < 1 then (posthornref21_Right.j0 k true a0_0 a0_1 a0_2 a0_3 l0_4 l0_5 l0_6) else (if a0_1 > 1000 then (posthornref21_Right.j0 k true a0_0 a0_1 a0_2 a0_3 l0_4 l0_5 l0_6) else (if a0_2 < 0 then (posthornref21_Right.j0 k true a0_0 a0_1 a0_2 a0_3 l0_4 l0_5 l0_6) else (posthornref21_Right.j0 k (decide (a0_2 > 10000)) a0_0 a0_1 a0_2 a0_3 l0_4 l0_5 l0_6))))))=some r:=h;clear h;have HC2:=Aside0.mk H;clear H
 go_enter Tryz.func22,Tryz.ntmps22
 go_upto_region 1 with (first | ((with_reducible refine gate_dst (N:=1) rfl ?_);(try (refine gate_guard (by rfl) ?_;dsimp only));refine box_event ?hg (N:=1) ?hd (cs:=#[.int .i64 a0_0,.int .i64 a0_1,.int .i64 a0_2,.int .i64 a0_3,.slice A0_4 l0_4.length c0_4,.slice A0_5 l0_5.length c0_5,.slice A0_6 l0_6.length c0_6]) (t:=34) ?hr ?_;(case hd=>rfl);(case hg=>rfl);(case hr=>first | (go_simp;done) | (go_simp;rfl));intro gb226 hg w3 hbox hb;have BK226:=ad_ (hbox);have GW226:=ad_ ((by rw [hg];exact (below_size bel_):w.heap.size≤gb226));have GE226:=ad_ ((by rw [hg];exact (below_size bel_):w.heap.size≤gb226));replace HB:=hbb_ hb;clear hb hbox hg))
 (try simp only [Act.put,List.setIfInBounds_toArray,List.set_cons_zero,List.set_cons_succ])
 go_cut [30] (fun v30 wc=>∃ (kq:Nat) (x30_1:Bool),v30 = .bool x30_1∧Aside0 (posthornref21_Right.j0 kq x30_1 a0_0 a0_1 a0_2 a0_3 l0_4 l0_5 l0_6=some r)∧Aside0 (kq≤k)∧Aside0 (wc.heap[gb226]? = some (.cells #[.int .i64 a0_0,.int .i64 a0_1,.int .i64 a0_2,.int .i64 a0_3,(.slice A0_4 l0_4.length c0_4),(.slice A0_5 l0_5.length c0_5),(.slice A0_6 l0_6.length c0_6)] 34 (0,0)))∧Aside0 (Below w.heap.size w wc))
 case first =>
  have H:=HC2.out;clear HC2
  by_cases c4:a0_0 < 1
  ·rw [if_pos c4] at H;have c4b0:decide (a0_0 < 1)=true:=decide_eq_true c4;clear c4
   (first | rw [c4b0] | (simp only [i64_w,i32_w];rw [c4b0]) | skip)
   have H':=ad_ H;clear H;have hcz5_:=cells7_ BK226.out
   go_wp2
   go_meet
   case rel=>exact ⟨_,(true),val_,H',⟨by first | omega | exact Nat.le_refl _⟩,⟨blo_ BK226.out⟩,⟨belg_⟩⟩
  ·rw [if_neg c4] at H;have c4b0:decide (a0_0 < 1)=false:=decide_eq_false c4;clear c4
   (first | rw [c4b0] | (simp only [i64_w,i32_w];rw [c4b0]) | skip)
   by_cases c6:a0_0 > 4
   ·rw [if_pos c6] at H;have c6b0:decide (4 < a0_0)=true:=decide_eq_true c6;clear c6;have H':=ad_ H;clear H;have hcz7_:=cells7_ BK226.out
    go_wp2
    go_meet
    case rel=>exact ⟨_,(true),val_,H',⟨by first | omega | exact Nat.le_refl _⟩,⟨blo_ BK226.out⟩,⟨belg_⟩⟩
   ·rw [if_neg c6] at H;have c6b0:decide (4 < a0_0)=false:=decide_eq_false c6;clear c6
    by_cases c8:a0_1 < 1
    ·rw [if_pos c8] at H;have c8b0:decide (a0_1 < 1)=true:=decide_eq_true c8;clear c8;have H':=ad_ H;clear H;have hcz9_:=cells7_ BK226.out
     go_wp2
     go_meet
     case rel=>exact ⟨_,(true),val_,H',⟨by first | omega | exact Nat.le_refl _⟩,⟨blo_ BK226.out⟩,⟨belg_⟩⟩
    ·rw [if_neg c8] at H;have c8b0:decide (a0_1 < 1)=false:=decide_eq_false c8;clear c8
     by_cases c10:a0_1 > 1000
     ·rw [if_pos c10] at H;have c10b0:decide (1000 < a0_1)=true:=decide_eq_true c10;clear c10;have H':=ad_ H;clear H;have hcz11_:=cells7_ BK226.out
      go_wp2
      go_meet
      case rel=>exact ⟨_,(true),val_,H',⟨by first | omega | exact Nat.le_refl _⟩,⟨blo_ BK226.out⟩,⟨belg_⟩⟩
     ·rw [if_neg c10] at H;have c10b0:decide (1000 < a0_1)=false:=decide_eq_false c10;clear c10
      by_cases c12:a0_2 < 0
      ·rw [if_pos c12] at H;have c12b0:decide (a0_2 < 0)=true:=decide_eq_true c12;clear c12;have H':=ad_ H;clear H;have hcz13_:=cells7_ BK226.out
       go_wp2
       go_meet
       case rel=>exact ⟨_,(true),val_,H',⟨by first | omega | exact Nat.le_refl _⟩,⟨blo_ BK226.out⟩,⟨belg_⟩⟩
      ·rw [if_neg c12] at H;have c12b0:decide (a0_2 < 0)=false:=decide_eq_false c12;clear c12;have H':=ad_ H;clear H;have hcz14_:=cells7_ BK226.out
       go_wp2
       go_meet
       case rel=>exact ⟨_,(decide (a0_2 > 10000)),val_,H',⟨by first | omega | exact Nat.le_refl _⟩,⟨blo_ BK226.out⟩,⟨belg_⟩⟩
 case rest =>
  clear HC2;(try clear c1);(try clear c2);(try clear p2);(try clear c4);(try clear c4b0);(try clear c6);(try clear c6b0);(try clear c8);(try clear c8b0);(try clear c10);(try clear c10b0);(try clear c12);(try clear c12b0);(try clear hcz11_);(try clear hcz13_);(try clear hcz14_);(try clear hcz5_);(try clear hcz7_);(try clear hcz9_);obtain ⟨kq,x30_1,rfl,HA,HJ1,BK226,HB⟩:=hcut
  cases kq with
  | zero=>exact absurd HA.out (by simp [posthornref21_Right.j0])
  | succ kj1 =>
   have H:=HA.out;clear HA
   simp only [posthornref21_Right.j0] at H
   by_cases c15:x30_1=true
   ·subst c15;replace H:=ifp_ H;obtain rfl:=Option.some.inj H
    go_wp2
    go_ret
    exact ⟨ret_,belg_⟩
   ·replace c15:=Bool.eq_false_iff.mpr c15;subst c15;replace H:=ifn_ H;have HC16:=Aside0.mk H;clear H
    go_upto_region 3 with (fail)
    go_cut [49] (fun v49 wc=>∃ (kq:Nat) (x49_15:Bool),v49 = .bool x49_15∧Aside0 (posthornref21_Right.j1 kq x49_15 a0_0 a0_1 a0_2 a0_3 l0_4 l0_5 l0_6=some r)∧Aside0 (kq≤kj1)∧Aside0 (wc.heap[gb226]? = some (.cells #[.int .i64 a0_0,.int .i64 a0_1,.int .i64 a0_2,.int .i64 a0_3,(.slice A0_4 l0_4.length c0_4),(.slice A0_5 l0_5.length c0_5),(.slice A0_6 l0_6.length c0_6)] 34 (0,0)))∧Aside0 (Below w.heap.size w wc))
    case first =>
     have H:=HC16.out;clear HC16
     by_cases c17:a0_3=(-1)
     ·rw [if_pos c17] at H;have c17b0:(a0_3 == (-1))=true:=beq_iff_eq.mpr c17;have c17b1:(a0_3 != (-1))=false:=bne_eq_false_iff_eq.mpr c17;clear c17
      (first | rw [c17b0] | (simp only [i64_w,i32_w];rw [c17b0]) | skip)
      have H':=ad_ H;clear H;have hcz18_:=cells7_ BK226.out
      go_wp2
      go_meet
      case rel=>exact ⟨_,(false),val_,H',⟨by have:=HJ1.out;first | omega | exact Nat.le_refl _⟩,⟨blo_ BK226.out⟩,⟨belg_⟩⟩
     ·rw [if_neg c17] at H;have c17b0:(a0_3 == (-1))=false:=beq_eq_false_iff_ne.mpr c17;have c17b1:(a0_3 != (-1))=true:=bne_iff_ne.mpr c17
      (first | rw [c17b0] | (simp only [i64_w,i32_w];rw [c17b0]) | skip)
      obtain ⟨t227,A190,H⟩:=bnd_ H
      try dsimp only at H
      have A19:=ad_ A190;clear A190
      by_cases c20:t227=true
      ·subst c20;replace H:=ifp_ H;have H':=ad_ H;clear H;have hcz21_:=cells7_ BK226.out
       go_wp2_with (first | (go_at_call 26;(with_reducible refine (posthornref12_Time.calls a0_3 true _ A19.out).mono ?_);rintro e w' ⟨rfl,⟨nd,rfl⟩⟩))
       go_meet
       case rel=>exact ⟨_,(decide (a0_2 > 0)),val_,H',⟨by have:=HJ1.out;first | omega | exact Nat.le_refl _⟩,⟨blo_ BK226.out⟩,⟨belg_⟩⟩
      ·replace c20:=Bool.eq_false_iff.mpr c20;subst c20;replace H:=ifn_ H;have H':=ad_ H;clear H;have hcz22_:=cells7_ BK226.out
       go_wp2_with (first | (go_at_call 26;(with_reducible refine (posthornref12_Time.calls a0_3 false _ A19.out).mono ?_);rintro e w' ⟨rfl,⟨nd,rfl⟩⟩))
       go_meet
       case rel=>exact ⟨_,(true),val_,H',⟨by have:=HJ1.out;first | omega | exact Nat.le_refl _⟩,⟨blo_ BK226.out⟩,⟨belg_⟩⟩
    case rest =>
     clear HC16;(try clear c1);(try clear c2);(try clear p2);(try clear c4);(try clear c4b0);(try clear c6);(try clear c6b0);(try clear c8);(try clear c8b0);(try clear c10);(try clear c10b0);(try clear c12);(try clear c12b0);(try clear c15);(try clear c17);(try clear c17b0);(try clear c17b1);(try clear c20);(try clear c22);(try clear hcz11_);(try clear hcz13_);(try clear hcz14_);(try clear hcz18_);(try clear hcz21_);(try clear hcz22_);(try clear hcz5_);(try clear hcz7_);(try clear hcz9_);(try clear p2);obtain ⟨kq,x49_15,rfl,HA,HJ15,BK226,HB⟩:=hcut
     cases kq with
     | zero=>exact absurd HA.out (by simp [posthornref21_Right.j1])
     | succ kj15 =>
      have H:=HA.out;clear HA
      simp only [posthornref21_Right.j1] at H
      by_cases c23:x49_15=true
      ·subst c23;replace H:=ifp_ H;obtain rfl:=Option.some.inj H
       go_wp2
       go_ret
       exact ⟨ret_,belg_⟩
      ·replace c23:=Bool.eq_false_iff.mpr c23;subst c23;replace H:=ifn_ H;have HC24:=Aside0.mk H;clear H
       go_upto_region 5 with (fail)
       go_cut [58] (fun v58 wc=>∃ (kq:Nat) (x58_23:Bool),v58 = .bool x58_23∧Aside0 (posthornref21_Right.j2 kq x58_23 a0_0 a0_1 a0_2 a0_3 l0_4 l0_5 l0_6=some r)∧Aside0 (kq≤kj15)∧Aside0 (wc.heap[gb226]? = some (.cells #[.int .i64 a0_0,.int .i64 a0_1,.int .i64 a0_2,.int .i64 a0_3,(.slice A0_4 l0_4.length c0_4),(.slice A0_5 l0_5.length c0_5),(.slice A0_6 l0_6.length c0_6)] 34 (0,0)))∧Aside0 (Below w.heap.size w wc))
       case first =>
        have H:=HC24.out;clear HC24
        by_cases c25:a0_0≤2
        ·rw [if_pos c25] at H;have c25b0:decide (a0_0≤2)=true:=decide_eq_true c25;clear c25
         (first | rw [c25b0] | (simp only [i64_w,i32_w];rw [c25b0]) | skip)
         have H':=ad_ H;clear H;have hcz26_:=cells7_ BK226.out
         go_wp2
         go_meet
         case rel=>exact ⟨_,(decide ((l0_5.length:Int) > 0)),val_,H',⟨by have:=HJ1.out;have:=HJ15.out;first | omega | exact Nat.le_refl _⟩,⟨blo_ BK226.out⟩,⟨belg_⟩⟩
        ·rw [if_neg c25] at H;have c25b0:decide (a0_0≤2)=false:=decide_eq_false c25;clear c25
         (first | rw [c25b0] | (simp only [i64_w,i32_w];rw [c25b0]) | skip)
         have H':=ad_ H;clear H;have hcz27_:=cells7_ BK226.out
         go_wp2
         go_meet
         case rel=>exact ⟨_,(false),val_,H',⟨by have:=HJ1.out;have:=HJ15.out;first | omega | exact Nat.le_refl _⟩,⟨blo_ BK226.out⟩,⟨belg_⟩⟩
       case rest =>
        clear HC24;(try clear c1);(try clear c2);(try clear p2);(try clear c4);(try clear c4b0);(try clear c6);(try clear c6b0);(try clear c8);(try clear c8b0);(try clear c10);(try clear c10b0);(try clear c12);(try clear c12b0);(try clear c15);(try clear c17);(try clear c17b0);(try clear c17b1);(try clear c20);(try clear c22);(try clear c23);(try clear c25);(try clear c25b0);(try clear hcz11_);(try clear hcz13_);(try clear hcz14_);(try clear hcz18_);(try clear hcz21_);(try clear hcz22_);(try clear hcz26_);(try clear hcz27_);(try clear hcz5_);(try clear hcz7_);(try clear hcz9_);(try clear p2);obtain ⟨kq,x58_23,rfl,HA,HJ23,BK226,HB⟩:=hcut
        cases kq with
        | zero=>exact absurd HA.out (by simp [posthornref21_Right.j2])
        | succ kj23 =>
         have H:=HA.out;clear HA
         simp only [posthornref21_Right.j2] at H
         by_cases c28:x58_23=true
         ·subst c28;replace H:=ifp_ H;obtain rfl:=Option.some.inj H
          go_wp2
          go_ret
          exact ⟨ret_,belg_⟩
         ·replace c28:=Bool.eq_false_iff.mpr c28;subst c28;replace H:=ifn_ H;obtain ⟨t228,A290,H⟩:=bnd_ H
          try dsimp only at H
          have A29:=ad_ A290;clear A290
          by_cases c30:t228=true
          ·subst c30;replace H:=ifp_ H;obtain ⟨t229,A310,H⟩:=bnd_ H
           try dsimp only at H
           have A31:=ad_ A310;clear A310
           by_cases c32:t229=true
           ·subst c32;replace H:=ifp_ H;obtain ⟨t230,A330,H⟩:=bnd_ H
            try dsimp only at H
            have A33:=ad_ A330;clear A330;obtain rfl:=Option.some.inj H;have hcz34_:=cells7_ BK226.out
            go_wp2_with (first | ((with_reducible refine gate_callee (f:=39) rfl ?_);refine goesL_ (some 61) rfl rfl Tryz.func39 (by kernel_rfl) rfl #[.slice A0_4 l0_4.length c0_4,.int .i64 1,.int .i64 12] rfl arg_ ?_;(with_reducible refine (posthornref21_list.calls kj23 _ _ l0_4 1 12 true _ ?_ ?_ A29.out).mono ?_);(iterate 2 exact sc_);rintro e w' ⟨rfl,⟨nd,rfl⟩⟩;refine ⟨_,rfl,?_⟩) | (go_at_call 39;(with_reducible refine (posthornref21_list.calls kj23 _ _ l0_5 (-31) 31 true _ ?_ ?_ A31.out).mono ?_);exact cop_ (Kd.C_below HR0_5.out belg_);exact HC0_5.out;rintro e w' ⟨rfl,⟨nd,rfl⟩⟩) | (go_at_call 40;(with_reducible refine (posthornref21_week.calls kj23 _ _ l0_6 (decide (a0_0 ≥ 3)) t230 _ ?_ ?_ A33.out).mono ?_);exact cop_ (Kd.C_below HR0_6.out belg_);exact HC0_6.out;rintro e w35 ⟨rfl,hb⟩;replace BK226:=ad_ (blk_below (g:=gb226) (o:=.cells #[.int .i64 a0_0,.int .i64 a0_1,.int .i64 a0_2,.int .i64 a0_3,.slice A0_4 l0_4.length c0_4,.slice A0_5 l0_5.length c0_5,.slice A0_6 l0_6.length c0_6] 34 (0,0)) (blo_ BK226.out) hb);replace HB:=hbb_ hb;clear hb))
            go_ret
            exact ⟨ret_,belg_⟩
           ·replace c32:=Bool.eq_false_iff.mpr c32;subst c32;replace H:=ifn_ H;obtain rfl:=Option.some.inj H;have hcz36_:=cells7_ BK226.out
            go_wp2_with (first | ((with_reducible refine gate_callee (f:=39) rfl ?_);refine goesL_ (some 61) rfl rfl Tryz.func39 (by kernel_rfl) rfl #[.slice A0_4 l0_4.length c0_4,.int .i64 1,.int .i64 12] rfl arg_ ?_;(with_reducible refine (posthornref21_list.calls kj23 _ _ l0_4 1 12 true _ ?_ ?_ A29.out).mono ?_);(iterate 2 exact sc_);rintro e w' ⟨rfl,⟨nd,rfl⟩⟩;refine ⟨_,rfl,?_⟩) | (go_at_call 39;(with_reducible refine (posthornref21_list.calls kj23 _ _ l0_5 (-31) 31 false _ ?_ ?_ A31.out).mono ?_);exact cop_ (Kd.C_below HR0_5.out belg_);exact HC0_5.out;rintro e w' ⟨rfl,⟨nd,rfl⟩⟩))
            go_ret
            exact ⟨ret_,belg_⟩
          ·replace c30:=Bool.eq_false_iff.mpr c30;subst c30;replace H:=ifn_ H;obtain rfl:=Option.some.inj H;have hcz37_:=cells7_ BK226.out
           go_wp2_with (first | ((with_reducible refine gate_callee (f:=39) rfl ?_);refine goesL_ (some 61) rfl rfl Tryz.func39 (by kernel_rfl) rfl #[.slice A0_4 l0_4.length c0_4,.int .i64 1,.int .i64 12] rfl arg_ ?_;(with_reducible refine (posthornref21_list.calls kj23 _ _ l0_4 1 12 false _ ?_ ?_ A29.out).mono ?_);(iterate 2 exact sc_);rintro e w' ⟨rfl,⟨nd,rfl⟩⟩;refine ⟨_,rfl,?_⟩))
           go_ret
           exact ⟨ret_,belg_⟩

end Go.Proofs.YtbeihceeliifeaaGreatDoor.PR

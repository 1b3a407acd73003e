-- Written by a program of the session (wip/tools).
import Derived.Test.YtbeihceeliifeaaGreatDoorPRx0
import Derived.Test.YtbeihceeliifeaaGreatDoorPRx9
import Derived.Test.YtbeihceeliifeaaGreatDoorPRx11
import Derived.Test.YtbeihceeliifeaaGreatDoorPRx14
namespace Go.Proofs.YtbeihceeliifeaaGreatDoor.PR
open Go.RowKit Go.Proofs.YtbeihceeliifeaaGreatDoorW.PrintWords Go.Proofs.YtbeihceeliifeaaGreatDoorW.PrintLast Go.Proofs.YtbeihceeliifeaaGreatDoorW.PrintMore
attribute [local go_sem] max2_int min2_int max_two min_two max_three min_three max_four min_four   -- for this text's walks alone
set_option linter.unusedVariables false
set_option linter.unusedSimpArgs false

/-! ### posthornref21_Expand: function 15 -/
mutual
def posthornref21_Expand.j0:Nat→Int→Int→Int→Int→Bool→Int→Int→Int→Int→List Int→List Int→List (S54)→Option (List Int×Int)
 | 0,_,_,_,_,_,_,_,_,_,_,_,_=>none
 | k + 1,x1,x2,x3,x4,x30,x298000,x298001,x298002,x298003,x298004,x298005,x298006=>if x30=true then (some (([]:List Int),110)) else (if x4 < 1 then (posthornref21_Expand.j1 k x1 x2 x3 x4 true x298000 x298001 x298002 x298003 x298004 x298005 x298006) else (if x4 > 1000 then (posthornref21_Expand.j1 k x1 x2 x3 x4 true x298000 x298001 x298002 x298003 x298004 x298005 x298006) else (posthornref21_Expand.j1 k x1 x2 x3 x4 (decide ((wrap64 (x3 - x1)) > 631152000)) x298000 x298001 x298002 x298003 x298004 x298005 x298006)))
def posthornref21_Expand.j1:Nat→Int→Int→Int→Int→Bool→Int→Int→Int→Int→List Int→List Int→List (S54)→Option (List Int×Int)
 | 0,_,_,_,_,_,_,_,_,_,_,_,_=>none
 | k + 1,x1,x2,x3,x4,x42,x298000,x298001,x298002,x298003,x298004,x298005,x298006=>if x42=true then (some (([]:List Int),1)) else (posthornref21_Expand.l0 k x1 x2 x3 x4 ([]:List Int) 0 x1 x298000 x298001 x298002 x298003 x298004 x298005 x298006)
def posthornref21_Expand.l0:Nat→Int→Int→Int→Int→List Int→Int→Int→Int→Int→Int→Int→List Int→List Int→List (S54)→Option (List Int×Int)
 | 0,_,_,_,_,_,_,_,_,_,_,_,_,_,_=>none
 | k + 1,x1,x2,x3,x4,x12,x13,x14,x298000,x298001,x298002,x298003,x298004,x298005,x298006=>if x14 < x3 then (posthornref21_Expand.j3 k x1 x2 x3 x4 x12 x13 x14 (decide ((x12.length:Int) < x4)) x298000 x298001 x298002 x298003 x298004 x298005 x298006) else (posthornref21_Expand.j3 k x1 x2 x3 x4 x12 x13 x14 false x298000 x298001 x298002 x298003 x298004 x298005 x298006)
def posthornref21_Expand.j3:Nat→Int→Int→Int→Int→List Int→Int→Int→Bool→Int→Int→Int→Int→List Int→List Int→List (S54)→Option (List Int×Int)
 | 0,_,_,_,_,_,_,_,_,_,_,_,_,_,_,_=>none
 | k + 1,x1,x2,x3,x4,x12,x13,x14,x52,x298000,x298001,x298002,x298003,x298004,x298005,x298006=>if x52=true then (if x14 > x1 then ((posthornref21_Matches.f k x298000 x298001 x298002 x298003 x298004 x298005 x298006 (wrap64 (Int.tdiv x1 86400)) (wrap64 (Int.tdiv x14 86400))).bind fun t302=>(posthornref21_Expand.j4 k x1 x2 x3 x4 x12 x13 x14 (!t302) x298000 x298001 x298002 x298003 x298004 x298005 x298006)) else (posthornref21_Expand.j4 k x1 x2 x3 x4 x12 x13 x14 false x298000 x298001 x298002 x298003 x298004 x298005 x298006)) else (some (x12,0))
def posthornref21_Expand.j4:Nat→Int→Int→Int→Int→List Int→Int→Int→Bool→Int→Int→Int→Int→List Int→List Int→List (S54)→Option (List Int×Int)
 | 0,_,_,_,_,_,_,_,_,_,_,_,_,_,_,_=>none
 | k + 1,x1,x2,x3,x4,x12,x13,x14,x66,x298000,x298001,x298002,x298003,x298004,x298005,x298006=>if x66=true then (posthornref21_Expand.l0 k x1 x2 x3 x4 x12 x13 (wrap64 (x14 + 86400)) x298000 x298001 x298002 x298003 x298004 x298005 x298006) else (if x298002 > 0 then (if (wrap64 (x13 + 1)) > x298002 then (posthornref21_Expand.j5 k x1 x2 x3 x4 x12 (wrap64 (x13 + 1)) x14 true x298000 x298001 x298002 x298003 x298004 x298005 x298006) else (if x298003 ≥ 0 then (posthornref21_Expand.j5 k x1 x2 x3 x4 x12 (wrap64 (x13 + 1)) x14 (decide (x14 > x298003)) x298000 x298001 x298002 x298003 x298004 x298005 x298006) else (posthornref21_Expand.j5 k x1 x2 x3 x4 x12 (wrap64 (x13 + 1)) x14 false x298000 x298001 x298002 x298003 x298004 x298005 x298006))) else (if x298003 ≥ 0 then (posthornref21_Expand.j5 k x1 x2 x3 x4 x12 (wrap64 (x13 + 1)) x14 (decide (x14 > x298003)) x298000 x298001 x298002 x298003 x298004 x298005 x298006) else (posthornref21_Expand.j5 k x1 x2 x3 x4 x12 (wrap64 (x13 + 1)) x14 false x298000 x298001 x298002 x298003 x298004 x298005 x298006)))
def posthornref21_Expand.j5:Nat→Int→Int→Int→Int→List Int→Int→Int→Bool→Int→Int→Int→Int→List Int→List Int→List (S54)→Option (List Int×Int)
 | 0,_,_,_,_,_,_,_,_,_,_,_,_,_,_,_=>none
 | k + 1,x1,x2,x3,x4,x12,x13,x14,x88,x298000,x298001,x298002,x298003,x298004,x298005,x298006=>if x88=true then (some (x12,0)) else (if x14 ≥ x2 then (if x12.length < 17592186044416 then (posthornref21_Expand.l0 k x1 x2 x3 x4 (x12 ++ [x14]) x13 (wrap64 (x14 + 86400)) x298000 x298001 x298002 x298003 x298004 x298005 x298006) else (none)) else (posthornref21_Expand.l0 k x1 x2 x3 x4 x12 x13 (wrap64 (x14 + 86400)) x298000 x298001 x298002 x298003 x298004 x298005 x298006))
end
def posthornref21_Expand.f (k:Nat) (a0_0:Int) (a0_1:Int) (a0_2:Int) (a0_3:Int) (l0_4:List Int) (l0_5:List Int) (l0_6:List (S54)) (a1:Int) (a2:Int) (a3:Int) (a4:Int):Option (List Int×Int):=(posthornref21_Right.f k a0_0 a0_1 a0_2 a0_3 l0_4 l0_5 l0_6).bind fun t298=>(if t298=true then ((posthornref12_Time.f a1).bind fun t299=>(if t299=true then ((posthornref12_Time.f a2).bind fun t300=>(if t300=true then ((posthornref12_Time.f a3).bind fun t301=>(posthornref21_Expand.j0 k a1 a2 a3 a4 (!t301) a0_0 a0_1 a0_2 a0_3 l0_4 l0_5 l0_6)) else (posthornref21_Expand.j0 k a1 a2 a3 a4 true a0_0 a0_1 a0_2 a0_3 l0_4 l0_5 l0_6))) else (posthornref21_Expand.j0 k a1 a2 a3 a4 true a0_0 a0_1 a0_2 a0_3 l0_4 l0_5 l0_6))) else (some (([]:List Int),3)))
set_option maxHeartbeats 8000000 in
set_option maxRecDepth 100000 in
theorem posthornref21_Expand.calls (k:Nat) (a0_0:Int) (a0_1:Int) (a0_2:Int) (a0_3:Int) (A0_4:Option Addr) (c0_4:Nat) (l0_4:List Int) (A0_5:Option Addr) (c0_5:Nat) (l0_5:List Int) (A0_6:Option Addr) (c0_6:Nat) (l0_6:List (S54)) (a1:Int) (a2:Int) (a3:Int) (a4:Int) (r1:List Int) (r2:Int) (w:World) (hr0_4:Kd.C (Kd.int .i64) w A0_4 l0_4.length l0_4) (hc0_4:l0_4.length≤c0_4) (hr0_5:Kd.C (Kd.int .i64) w A0_5 l0_5.length l0_5) (hc0_5:l0_5.length≤c0_5) (hr0_6:Kd.C k54 w A0_6 l0_6.length l0_6) (hc0_6:l0_6.length≤c0_6) (h:posthornref21_Expand.f k a0_0 a0_1 a0_2 a0_3 l0_4 l0_5 l0_6 a1 a2 a3 a4=some (r1,r2)) :
  Calls Tryz.prog 15 #[.agg #[.int .i64 a0_0,.int .i64 a0_1,.int .i64 a0_2,.int .i64 a0_3,.slice A0_4 l0_4.length c0_4,.slice A0_5 l0_5.length c0_5,.slice A0_6 l0_6.length c0_6],.int .i64 a1,.int .i64 a2,.int .i64 a3,.int .i64 a4] w fun e w'=>∃ v0_:Value,e = .returned (.tuple #[v0_,.int .i64 r2])∧Kd.R (Kd.int .i64) 2 w' w.heap.size (fun _=>True) v0_ r1∧Below w.heap.size w w':=by
 have hu34:=Tryz.underlying34;have HR0_4:=Aside0.mk hr0_4;have HC0_4:=Aside0.mk hc0_4;clear hr0_4 hc0_4;have HR0_5:=Aside0.mk hr0_5;have HC0_5:=Aside0.mk hc0_5;clear hr0_5 hc0_5;have HR0_6:=Aside0.mk hr0_6;have HC0_6:=Aside0.mk hc0_6;clear hr0_6 hc0_6;have HB:=ad_ (Below.refl w.heap.size w);have H:((posthornref21_Right.f k a0_0 a0_1 a0_2 a0_3 l0_4 l0_5 l0_6).bind fun t298=>(if t298=true then ((posthornref12_Time.f a1).bind fun t299=>(if t299=true then ((posthornref12_Time.f a2).bind fun t300=>(if t300=true then ((posthornref12_Time.f a3).bind fun t301=>(posthornref21_Expand.j0 k a1 a2 a3 a4 (!t301) a0_0 a0_1 a0_2 a0_3 l0_4 l0_5 l0_6)) else (posthornref21_Expand.j0 k a1 a2 a3 a4 true a0_0 a0_1 a0_2 a0_3 l0_4 l0_5 l0_6))) else (posthornref21_Expand.j0 k a1 a2 a3 a4 true a0_0 a0_1 a0_2 a0_3 l0_4 l0_5 l0_6))) else (some (([]:List Int),3))))=some (r1,r2):=h;clear h;obtain ⟨t298,A60,H⟩:=bnd_ H
 try dsimp only at H
 have A6:=ad_ A60;clear A60
 by_cases c7:t298=true
 ·subst c7;replace H:=ifp_ H;have HC8:=Aside0.mk H;clear H
  go_enter Tryz.func15,Tryz.ntmps15
  go_upto_region 3 with (first | ((with_reducible refine gate_dst (N:=5) rfl ?_);(try (refine gate_guard (by rfl) ?_;dsimp only));refine box_event ?hg (N:=5) ?hd (cs:=#[.int .i64 a0_0,.int .i64 a0_1,.int .i64 a0_2,.int .i64 a0_3,.slice A0_4 l0_4.length c0_4,.slice A0_5 l0_5.length c0_5,.slice A0_6 l0_6.length c0_6]) (t:=34) ?hr ?_;(case hd=>rfl);(case hg=>rfl);(case hr=>first | (go_simp;done) | (go_simp;rfl));intro gb297 hg w9 hbox hb;have BK297:=ad_ (hbox);have GW297:=ad_ ((by rw [hg];exact (below_size bel_):w.heap.size≤gb297));have GE297:=ad_ ((by rw [hg];exact (below_size bel_):w.heap.size≤gb297));replace HB:=hbb_ hb;clear hb hbox hg;have hcz10_:=cells7_ BK297.out) | ((with_reducible refine gate_callee (f:=22) rfl ?_);refine goesL_ (some 16) rfl rfl Tryz.func22 (by kernel_rfl) rfl #[.agg #[.int .i64 a0_0,.int .i64 a0_1,.int .i64 a0_2,.int .i64 a0_3,.slice A0_4 l0_4.length c0_4,.slice A0_5 l0_5.length c0_5,.slice A0_6 l0_6.length c0_6]] rfl arg_ ?_;(with_reducible refine (posthornref21_Right.calls k a0_0 a0_1 a0_2 a0_3 _ _ l0_4 _ _ l0_5 _ _ l0_6 true _ ?_ ?_ ?_ ?_ ?_ ?_ A6.out).mono ?_);(iterate 6 exact sc_);rintro e w11 ⟨rfl,hb⟩;refine ⟨_,rfl,?_⟩;replace BK297:=ad_ (blk_below (g:=gb297) (o:=.cells #[.int .i64 a0_0,.int .i64 a0_1,.int .i64 a0_2,.int .i64 a0_3,.slice A0_4 l0_4.length c0_4,.slice A0_5 l0_5.length c0_5,.slice A0_6 l0_6.length c0_6] 34 (0,0)) (blo_ BK297.out) hb);replace HB:=hbb_ hb;clear hb))
  (try simp only [Act.put,List.setIfInBounds_toArray,List.set_cons_zero,List.set_cons_succ])
  go_cut [30] (fun v30 wc=>∃ (kq:Nat) (x30_7:Bool),v30 = .bool x30_7∧Aside0 (posthornref21_Expand.j0 kq a1 a2 a3 a4 x30_7 a0_0 a0_1 a0_2 a0_3 l0_4 l0_5 l0_6=some (r1,r2))∧Aside0 (kq≤k)∧Aside0 (wc.heap[gb297]? = some (.cells #[.int .i64 a0_0,.int .i64 a0_1,.int .i64 a0_2,.int .i64 a0_3,(.slice A0_4 l0_4.length c0_4),(.slice A0_5 l0_5.length c0_5),(.slice A0_6 l0_6.length c0_6)] 34 (0,0)))∧Aside0 (Below w.heap.size w wc))
  case first =>
   have H:=HC8.out;clear HC8;obtain ⟨t299,A120,H⟩:=bnd_ H
   try dsimp only at H
   have A12:=ad_ A120;clear A120
   by_cases c13:t299=true
   ·subst c13;replace H:=ifp_ H;obtain ⟨t300,A140,H⟩:=bnd_ H
    try dsimp only at H
    have A14:=ad_ A140;clear A140
    by_cases c15:t300=true
    ·subst c15;replace H:=ifp_ H;obtain ⟨t301,A160,H⟩:=bnd_ H
     try dsimp only at H
     have A16:=ad_ A160;clear A160;have H':=ad_ H;clear H
     go_wp2_with (first | ((with_reducible refine gate_callee (f:=26) rfl ?_);refine goesL_ (some 19) rfl rfl Tryz.func26 (by kernel_rfl) rfl #[.int .i64 a1] rfl arg_ ?_;(with_reducible refine (posthornref12_Time.calls a1 true _ A12.out).mono ?_);rintro e w' ⟨rfl,⟨nd,rfl⟩⟩;refine ⟨_,rfl,?_⟩) | (go_at_call 26;(with_reducible refine (posthornref12_Time.calls a2 true _ A14.out).mono ?_);rintro e w' ⟨rfl,⟨nd,rfl⟩⟩) | (go_at_call 26;(with_reducible refine (posthornref12_Time.calls a3 t301 _ A16.out).mono ?_);rintro e w' ⟨rfl,⟨nd,rfl⟩⟩))
     go_meet
     case rel=>exact ⟨_,(!t301),val_,H',⟨by first | omega | exact Nat.le_refl _⟩,⟨blo_ BK297.out⟩,⟨belg_⟩⟩
    ·replace c15:=Bool.eq_false_iff.mpr c15;subst c15;replace H:=ifn_ H;have H':=ad_ H;clear H
     go_wp2_with (first | ((with_reducible refine gate_callee (f:=26) rfl ?_);refine goesL_ (some 19) rfl rfl Tryz.func26 (by kernel_rfl) rfl #[.int .i64 a1] rfl arg_ ?_;(with_reducible refine (posthornref12_Time.calls a1 true _ A12.out).mono ?_);rintro e w' ⟨rfl,⟨nd,rfl⟩⟩;refine ⟨_,rfl,?_⟩) | (go_at_call 26;(with_reducible refine (posthornref12_Time.calls a2 false _ A14.out).mono ?_);rintro e w' ⟨rfl,⟨nd,rfl⟩⟩))
     go_meet
     case rel=>exact ⟨_,(true),val_,H',⟨by first | omega | exact Nat.le_refl _⟩,⟨blo_ BK297.out⟩,⟨belg_⟩⟩
   ·replace c13:=Bool.eq_false_iff.mpr c13;subst c13;replace H:=ifn_ H;have H':=ad_ H;clear H
    go_wp2_with (first | ((with_reducible refine gate_callee (f:=26) rfl ?_);refine goesL_ (some 19) rfl rfl Tryz.func26 (by kernel_rfl) rfl #[.int .i64 a1] rfl arg_ ?_;(with_reducible refine (posthornref12_Time.calls a1 false _ A12.out).mono ?_);rintro e w' ⟨rfl,⟨nd,rfl⟩⟩;refine ⟨_,rfl,?_⟩))
    go_meet
    case rel=>exact ⟨_,(true),val_,H',⟨by first | omega | exact Nat.le_refl _⟩,⟨blo_ BK297.out⟩,⟨belg_⟩⟩
  case rest =>
   clear HC8;(try clear c1);(try clear c2);(try clear p2);(try clear c7);(try clear c13);(try clear c15);(try clear hcz10_);obtain ⟨kq,x30_7,rfl,HA,HJ7,BK297,HB⟩:=hcut
   cases kq with
   | zero=>exact absurd HA.out (by simp [posthornref21_Expand.j0])
   | succ kj7 =>
    have H:=HA.out;clear HA
    simp only [posthornref21_Expand.j0] at H
    by_cases c17:x30_7=true
    ·subst c17;replace H:=ifp_ H
     simp only [Option.some.injEq,Prod.mk.injEq] at H
     obtain ⟨rfl,rfl⟩:=H
     go_wp2
     go_ret2
     exact ⟨_,ret_,by first | exact Kd.R_nil _ _ _ _ _ | exact Kd.N_nil _ _ _ _ _ | exact Kd.V_nil _ _ _ _ _ | exact Kd.Q_nil _ _ _ _ _ | exact Kd.S_nil _ _ _ _ _,belg_⟩
    ·replace c17:=Bool.eq_false_iff.mpr c17;subst c17;replace H:=ifn_ H;have HC18:=Aside0.mk H;clear H
     go_upto_region 5 with (fail)
     go_cut [42] (fun v42 wc=>∃ (kq:Nat) (x42_17:Bool),v42 = .bool x42_17∧Aside0 (posthornref21_Expand.j1 kq a1 a2 a3 a4 x42_17 a0_0 a0_1 a0_2 a0_3 l0_4 l0_5 l0_6=some (r1,r2))∧Aside0 (kq≤kj7)∧Aside0 (wc.heap[gb297]? = some (.cells #[.int .i64 a0_0,.int .i64 a0_1,.int .i64 a0_2,.int .i64 a0_3,(.slice A0_4 l0_4.length c0_4),(.slice A0_5 l0_5.length c0_5),(.slice A0_6 l0_6.length c0_6)] 34 (0,0)))∧Aside0 (Below w.heap.size w wc))
     case first =>
      have H:=HC18.out;clear HC18
      by_cases c19:a4 < 1
      ·rw [if_pos c19] at H;have c19b0:decide (a4 < 1)=true:=decide_eq_true c19;clear c19
       (first | rw [c19b0] | (simp only [i64_w,i32_w];rw [c19b0]) | skip)
       have H':=ad_ H;clear H
       go_wp2
       go_meet
       case rel=>exact ⟨_,(true),val_,H',⟨by have:=HJ7.out;first | omega | exact Nat.le_refl _⟩,⟨blo_ BK297.out⟩,⟨belg_⟩⟩
      ·rw [if_neg c19] at H;have c19b0:decide (a4 < 1)=false:=decide_eq_false c19;clear c19
       (first | rw [c19b0] | (simp only [i64_w,i32_w];rw [c19b0]) | skip)
       by_cases c20:a4 > 1000
       ·rw [if_pos c20] at H;have c20b0:decide (1000 < a4)=true:=decide_eq_true c20;clear c20;have H':=ad_ H;clear H
        go_wp2
        go_meet
        case rel=>exact ⟨_,(true),val_,H',⟨by have:=HJ7.out;first | omega | exact Nat.le_refl _⟩,⟨blo_ BK297.out⟩,⟨belg_⟩⟩
       ·rw [if_neg c20] at H;have c20b0:decide (1000 < a4)=false:=decide_eq_false c20;clear c20;have H':=ad_ H;clear H
        go_wp2
        go_meet
        case rel=>exact ⟨_,(decide ((wrap64 (a3 - a1)) > 631152000)),val_,H',⟨by have:=HJ7.out;first | omega | exact Nat.le_refl _⟩,⟨blo_ BK297.out⟩,⟨belg_⟩⟩
     case rest =>
      clear HC18;(try clear c1);(try clear c2);(try clear p2);(try clear p6);(try clear c7);(try clear c13);(try clear c15);(try clear c17);(try clear c19);(try clear c19b0);(try clear c20);(try clear c20b0);(try clear hcz10_);(try clear p2);obtain ⟨kq,x42_17,rfl,HA,HJ17,BK297,HB⟩:=hcut
      cases kq with
      | zero=>exact absurd HA.out (by simp [posthornref21_Expand.j1])
      | succ kj17 =>
       have H:=HA.out;clear HA
       simp only [posthornref21_Expand.j1] at H
       by_cases c21:x42_17=true
       ·subst c21;replace H:=ifp_ H
        simp only [Option.some.injEq,Prod.mk.injEq] at H
        obtain ⟨rfl,rfl⟩:=H
        go_wp2
        go_ret2
        exact ⟨_,ret_,by first | exact Kd.R_nil _ _ _ _ _ | exact Kd.N_nil _ _ _ _ _ | exact Kd.V_nil _ _ _ _ _ | exact Kd.Q_nil _ _ _ _ _ | exact Kd.S_nil _ _ _ _ _,belg_⟩
       ·replace c21:=Bool.eq_false_iff.mpr c21;subst c21;replace H:=ifn_ H;have H':=ad_ H;clear H
        go_wp2
        go_loopg [12,13,14] kj17 (fun kq v12 v13 v14 w'=>∃ (x12_3:List Int) (x13_3:Int) (x14_3:Int),v13 = .int .i64 x13_3∧v14 = .int .i64 x14_3∧Aside0 (posthornref21_Expand.l0 kq a1 a2 a3 a4 x12_3 x13_3 x14_3 a0_0 a0_1 a0_2 a0_3 l0_4 l0_5 l0_6=some (r1,r2))∧Aside0 (kq≤kj17)∧Aside0 (Kd.R (Kd.int .i64) 2 w' w.heap.size (fun _=>True) v12 x12_3)∧Aside0 (w'.heap[gb297]? = some (.cells #[.int .i64 a0_0,.int .i64 a0_1,.int .i64 a0_2,.int .i64 a0_3,(.slice A0_4 l0_4.length c0_4),(.slice A0_5 l0_5.length c0_5),(.slice A0_6 l0_6.length c0_6)] 34 (0,0)))∧Aside0 (Below w.heap.size w w'))
        case atStart=>exact ⟨(([]:List Int)),(0),(a1),val_,val_,H',⟨Nat.le_refl _⟩,⟨by first | exact Kd.R_nil _ _ _ _ _ | exact Kd.N_nil _ _ _ _ _ | exact Kd.V_nil _ _ _ _ _ | exact Kd.Q_nil _ _ _ _ _ | exact Kd.S_nil _ _ _ _ _⟩,⟨blo_ BK297.out⟩,⟨belg_⟩⟩
        case round =>
         clear H';(try clear c1);(try clear c2);(try clear p2);(try clear p6);(try clear c7);(try clear c13);(try clear c15);(try clear c17);(try clear c19);(try clear c19b0);(try clear c20);(try clear c20b0);(try clear c21);(try clear hcz10_);(try clear p2);(try clear p6);obtain ⟨x12_3,x13_3,x14_3,rfl,rfl,HA,HK3,HO_12,BK297,HB⟩:=hrel
         cases gk with
         | zero=>exact absurd HA.out (by simp [posthornref21_Expand.l0])
         | succ k3 =>
          have H:=HA.out;clear HA
          simp only [posthornref21_Expand.l0] at H
          have HC22:=Aside0.mk H;clear H
          go_upto_region 10 with (fail)
          go_cut [52] (fun v52 wc=>∃ (kq:Nat) (x52_21:Bool),v52 = .bool x52_21∧Aside0 (posthornref21_Expand.j3 kq a1 a2 a3 a4 x12_3 x13_3 x14_3 x52_21 a0_0 a0_1 a0_2 a0_3 l0_4 l0_5 l0_6=some (r1,r2))∧Aside0 (kq≤k3)∧Aside0 (Kd.R (Kd.int .i64) 2 wc w.heap.size (fun _=>True) u12 x12_3)∧Aside0 (wc.heap[gb297]? = some (.cells #[.int .i64 a0_0,.int .i64 a0_1,.int .i64 a0_2,.int .i64 a0_3,(.slice A0_4 l0_4.length c0_4),(.slice A0_5 l0_5.length c0_5),(.slice A0_6 l0_6.length c0_6)] 34 (0,0)))∧Aside0 (Below w.heap.size w wc))
          case first =>
           have H:=HC22.out;clear HC22
           by_cases c23:x14_3 < a3
           ·rw [if_pos c23] at H;have c23b0:decide (x14_3 < a3)=true:=decide_eq_true c23;clear c23
            (first | rw [c23b0] | (simp only [i64_w,i32_w];rw [c23b0]) | skip)
            have H':=ad_ H;clear H;obtain ⟨Ao24,co24,eo24⟩:=Kd.R_slice HO_12.out;subst eo24
            go_wp2
            go_meet
            case rel=>exact ⟨_,(decide ((x12_3.length:Int) < a4)),val_,H',⟨by have:=HJ7.out;have:=HJ17.out;have:=HK3.out;first | omega | exact Nat.le_refl _⟩,⟨rod_ HO_12⟩,⟨blo_ BK297.out⟩,⟨belg_⟩⟩
           ·rw [if_neg c23] at H;have c23b0:decide (x14_3 < a3)=false:=decide_eq_false c23;clear c23
            (first | rw [c23b0] | (simp only [i64_w,i32_w];rw [c23b0]) | skip)
            have H':=ad_ H;clear H
            go_wp2
            go_meet
            case rel=>exact ⟨_,(false),val_,H',⟨by have:=HJ7.out;have:=HJ17.out;have:=HK3.out;first | omega | exact Nat.le_refl _⟩,⟨rod_ HO_12⟩,⟨blo_ BK297.out⟩,⟨belg_⟩⟩
          case rest =>
           clear HC22;(try clear c1);(try clear c2);(try clear p2);(try clear p6);(try clear c7);(try clear c13);(try clear c15);(try clear c17);(try clear c19);(try clear c19b0);(try clear c20);(try clear c20b0);(try clear c21);(try clear c22);(try clear c23);(try clear c23b0);(try clear hcz10_);(try clear p2);(try clear p6);obtain ⟨kq,x52_21,rfl,HA,HJ21,HO_12,BK297,HB⟩:=hcut
           cases kq with
           | zero=>exact absurd HA.out (by simp [posthornref21_Expand.j3])
           | succ kj21 =>
            have H:=HA.out;clear HA
            simp only [posthornref21_Expand.j3] at H
            by_cases c25:x52_21=true
            ·subst c25;replace H:=ifp_ H;have HC26:=Aside0.mk H;clear H
             go_upto_region 12 with (fail)
             go_cut [66] (fun v66 wc=>∃ (kq:Nat) (x66_25:Bool),v66 = .bool x66_25∧Aside0 (posthornref21_Expand.j4 kq a1 a2 a3 a4 x12_3 x13_3 x14_3 x66_25 a0_0 a0_1 a0_2 a0_3 l0_4 l0_5 l0_6=some (r1,r2))∧Aside0 (kq≤kj21)∧Aside0 (Kd.R (Kd.int .i64) 2 wc w.heap.size (fun _=>True) u12 x12_3)∧Aside0 (wc.heap[gb297]? = some (.cells #[.int .i64 a0_0,.int .i64 a0_1,.int .i64 a0_2,.int .i64 a0_3,(.slice A0_4 l0_4.length c0_4),(.slice A0_5 l0_5.length c0_5),(.slice A0_6 l0_6.length c0_6)] 34 (0,0)))∧Aside0 (Below w.heap.size w wc))
             case first =>
              have H:=HC26.out;clear HC26
              by_cases c27:x14_3 > a1
              ·rw [if_pos c27] at H;have c27b0:decide (a1 < x14_3)=true:=decide_eq_true c27;clear c27
               (first | rw [c27b0] | (simp only [i64_w,i32_w];rw [c27b0]) | skip)
               obtain ⟨t302,A280,H⟩:=bnd_ H
               try dsimp only at H
               have A28:=ad_ A280;clear A280;have H':=ad_ H;clear H;have hcz29_:=cells7_ BK297.out
               go_wp2_with (first | (go_at_call 23;(with_reducible refine (posthornref21_Matches.calls kj21 a0_0 a0_1 a0_2 a0_3 _ _ l0_4 _ _ l0_5 _ _ l0_6 (wrap64 (Int.tdiv a1 86400)) (wrap64 (Int.tdiv x14_3 86400)) t302 _ ?_ ?_ ?_ ?_ ?_ ?_ A28.out).mono ?_);(iterate 6 exact sc_);rintro e w30 ⟨rfl,hb⟩;replace HO_12:=ad_ (Kd.R_below (rod_ HO_12) hb);replace BK297:=ad_ (blk_below (g:=gb297) (o:=.cells #[.int .i64 a0_0,.int .i64 a0_1,.int .i64 a0_2,.int .i64 a0_3,.slice A0_4 l0_4.length c0_4,.slice A0_5 l0_5.length c0_5,.slice A0_6 l0_6.length c0_6] 34 (0,0)) (blo_ BK297.out) hb);replace HB:=hbb_ hb;clear hb))
               go_meet
               case rel=>exact ⟨_,(!t302),val_,H',⟨by have:=HJ7.out;have:=HJ17.out;have:=HK3.out;have:=HJ21.out;first | omega | exact Nat.le_refl _⟩,⟨rod_ HO_12⟩,⟨blo_ BK297.out⟩,⟨belg_⟩⟩
              ·rw [if_neg c27] at H;have c27b0:decide (a1 < x14_3)=false:=decide_eq_false c27;clear c27
               (first | rw [c27b0] | (simp only [i64_w,i32_w];rw [c27b0]) | skip)
               have H':=ad_ H;clear H
               go_wp2
               go_meet
               case rel=>exact ⟨_,(false),val_,H',⟨by have:=HJ7.out;have:=HJ17.out;have:=HK3.out;have:=HJ21.out;first | omega | exact Nat.le_refl _⟩,⟨rod_ HO_12⟩,⟨blo_ BK297.out⟩,⟨belg_⟩⟩
             case rest =>
              clear HC26;(try clear c1);(try clear c2);(try clear p2);(try clear p6);(try clear c7);(try clear c13);(try clear c15);(try clear c17);(try clear c19);(try clear c19b0);(try clear c20);(try clear c20b0);(try clear c21);(try clear c22);(try clear c23);(try clear c23b0);(try clear c25);(try clear c26);(try clear c27);(try clear c27b0);(try clear hcz10_);(try clear hcz29_);(try clear p2);(try clear p6);obtain ⟨kq,x66_25,rfl,HA,HJ25,HO_12,BK297,HB⟩:=hcut
              cases kq with
              | zero=>exact absurd HA.out (by simp [posthornref21_Expand.j4])
              | succ kj25 =>
               have H:=HA.out;clear HA
               simp only [posthornref21_Expand.j4] at H
               by_cases c31:x66_25=true
               ·subst c31;replace H:=ifp_ H;have H':=ad_ H;clear H
                go_wp2
                go_roundg kj25
                case measure=>have:=HJ7.out;have:=HJ17.out;have:=HK3.out;have:=HJ21.out;have:=HJ25.out;omega
                case rel=>exact ⟨(x12_3),(x13_3),(wrap64 (x14_3 + 86400)),val_,val_,H',⟨by have:=HJ7.out;have:=HJ17.out;have:=HK3.out;have:=HJ21.out;have:=HJ25.out;omega⟩,⟨rod_ HO_12⟩,⟨blo_ BK297.out⟩,⟨belg_⟩⟩
               ·replace c31:=Bool.eq_false_iff.mpr c31;subst c31;replace H:=ifn_ H;have HC32:=Aside0.mk H;clear H
                go_upto_region 14 with (fail)
                go_cut [88] (fun v88 wc=>∃ (kq:Nat) (x88_31:Bool),v88 = .bool x88_31∧Aside0 (posthornref21_Expand.j5 kq a1 a2 a3 a4 x12_3 (wrap64 (x13_3 + 1)) x14_3 x88_31 a0_0 a0_1 a0_2 a0_3 l0_4 l0_5 l0_6=some (r1,r2))∧Aside0 (kq≤kj25)∧Aside0 (Kd.R (Kd.int .i64) 2 wc w.heap.size (fun _=>True) u12 x12_3)∧Aside0 (wc.heap[gb297]? = some (.cells #[.int .i64 a0_0,.int .i64 a0_1,.int .i64 a0_2,.int .i64 a0_3,(.slice A0_4 l0_4.length c0_4),(.slice A0_5 l0_5.length c0_5),(.slice A0_6 l0_6.length c0_6)] 34 (0,0)))∧Aside0 (Below w.heap.size w wc))
                case first =>
                 have H:=HC32.out;clear HC32
                 by_cases c33:a0_2 > 0
                 ·rw [if_pos c33] at H;have c33b0:decide (0 < a0_2)=true:=decide_eq_true c33;clear c33
                  (first | rw [c33b0] | (simp only [i64_w,i32_w];rw [c33b0]) | skip)
                  by_cases c34:(wrap64 (x13_3 + 1)) > a0_2
                  ·rw [if_pos c34] at H;have c34b0:decide (a0_2 < (wrap64 (x13_3 + 1)))=true:=decide_eq_true c34;clear c34;have H':=ad_ H;clear H;have hcz35_:=cells7_ BK297.out
                   go_wp2
                   go_meet
                   case rel=>exact ⟨_,(true),val_,H',⟨by have:=HJ7.out;have:=HJ17.out;have:=HK3.out;have:=HJ21.out;have:=HJ25.out;first | omega | exact Nat.le_refl _⟩,⟨rod_ HO_12⟩,⟨blo_ BK297.out⟩,⟨belg_⟩⟩
                  ·rw [if_neg c34] at H;have c34b0:decide (a0_2 < (wrap64 (x13_3 + 1)))=false:=decide_eq_false c34;clear c34
                   by_cases c36:a0_3 ≥ 0
                   ·rw [if_pos c36] at H;have c36b0:decide (0≤a0_3)=true:=decide_eq_true c36;clear c36;have H':=ad_ H;clear H;have hcz37_:=cells7_ BK297.out
                    go_wp2
                    go_meet
                    case rel=>exact ⟨_,(decide (x14_3 > a0_3)),val_,H',⟨by have:=HJ7.out;have:=HJ17.out;have:=HK3.out;have:=HJ21.out;have:=HJ25.out;first | omega | exact Nat.le_refl _⟩,⟨rod_ HO_12⟩,⟨blo_ BK297.out⟩,⟨belg_⟩⟩
                   ·rw [if_neg c36] at H;have c36b0:decide (0≤a0_3)=false:=decide_eq_false c36;clear c36;have H':=ad_ H;clear H;have hcz38_:=cells7_ BK297.out
                    go_wp2
                    go_meet
                    case rel=>exact ⟨_,(false),val_,H',⟨by have:=HJ7.out;have:=HJ17.out;have:=HK3.out;have:=HJ21.out;have:=HJ25.out;first | omega | exact Nat.le_refl _⟩,⟨rod_ HO_12⟩,⟨blo_ BK297.out⟩,⟨belg_⟩⟩
                 ·rw [if_neg c33] at H;have c33b0:decide (0 < a0_2)=false:=decide_eq_false c33;clear c33
                  (first | rw [c33b0] | (simp only [i64_w,i32_w];rw [c33b0]) | skip)
                  by_cases c39:a0_3 ≥ 0
                  ·rw [if_pos c39] at H;have c39b0:decide (0≤a0_3)=true:=decide_eq_true c39;clear c39;have H':=ad_ H;clear H;have hcz40_:=cells7_ BK297.out
                   go_wp2
                   go_meet
                   case rel=>exact ⟨_,(decide (x14_3 > a0_3)),val_,H',⟨by have:=HJ7.out;have:=HJ17.out;have:=HK3.out;have:=HJ21.out;have:=HJ25.out;first | omega | exact Nat.le_refl _⟩,⟨rod_ HO_12⟩,⟨blo_ BK297.out⟩,⟨belg_⟩⟩
                  ·rw [if_neg c39] at H;have c39b0:decide (0≤a0_3)=false:=decide_eq_false c39;clear c39;have H':=ad_ H;clear H;have hcz41_:=cells7_ BK297.out
                   go_wp2
                   go_meet
                   case rel=>exact ⟨_,(false),val_,H',⟨by have:=HJ7.out;have:=HJ17.out;have:=HK3.out;have:=HJ21.out;have:=HJ25.out;first | omega | exact Nat.le_refl _⟩,⟨rod_ HO_12⟩,⟨blo_ BK297.out⟩,⟨belg_⟩⟩
                case rest =>
                 clear HC32;(try clear c1);(try clear c2);(try clear p2);(try clear c3);(try clear p6);(try clear c7);(try clear c13);(try clear c15);(try clear c17);(try clear c19);(try clear c19b0);(try clear c20);(try clear c20b0);(try clear c21);(try clear c22);(try clear c23);(try clear c23b0);(try clear c25);(try clear c26);(try clear c27);(try clear c27b0);(try clear c31);(try clear c33);(try clear c33b0);(try clear c34);(try clear c34b0);(try clear c36);(try clear c36b0);(try clear c39);(try clear c39b0);(try clear hcz10_);(try clear hcz29_);(try clear hcz35_);(try clear hcz37_);(try clear hcz38_);(try clear hcz40_);(try clear hcz41_);(try clear p2);(try clear p6);obtain ⟨kq,x88_31,rfl,HA,HJ31,HO_12,BK297,HB⟩:=hcut
                 cases kq with
                 | zero=>exact absurd HA.out (by simp [posthornref21_Expand.j5])
                 | succ kj31 =>
                  have H:=HA.out;clear HA
                  simp only [posthornref21_Expand.j5] at H
                  by_cases c42:x88_31=true
                  ·subst c42;replace H:=ifp_ H
                   simp only [Option.some.injEq,Prod.mk.injEq] at H
                   obtain ⟨rfl,rfl⟩:=H
                   go_wp2
                   go_ret2
                   exact ⟨_,ret_,by (with_reducible repeat (first | apply Kd.R_alloc | apply Kd.R_drewN | apply Kd.R_drew));exact HO_12.out,belg_⟩
                  ·replace c42:=Bool.eq_false_iff.mpr c42;subst c42;replace H:=ifn_ H
                   by_cases c43:x14_3 ≥ a2
                   ·rw [if_pos c43] at H;have c43b0:decide (a2≤x14_3)=true:=decide_eq_true c43;clear c43
                    by_cases c44:x12_3.length < 17592186044416
                    ·rw [if_pos c44] at H;have LMc44:=Aside0.mk c44;clear c44;obtain ⟨y303,hy303⟩:∃ y_:List Int,y_=(x12_3 ++ [x14_3]):=⟨_,rfl⟩
                     replace H:(posthornref21_Expand.l0 kj31 a1 a2 a3 a4 y303 (wrap64 (x13_3 + 1)) (wrap64 (x14_3 + 86400)) a0_0 a0_1 a0_2 a0_3 l0_4 l0_5 l0_6)=some (r1,r2):=by first | (rw [hy303];with_reducible exact H) | (have H2_:=(Option.bind_some _ _).symm.trans H;rw [hy303];with_reducible exact H2_) | (have H2_:=(Option.bind_some _ _).symm.trans H;with_reducible exact H2_) | with_reducible exact H | (rw [hy303];exact H) | exact H
                     have Ny303:=Aside0.mk hy303;clear hy303;have H':=ad_ H;clear H
                     go_wp2_with (first | ((with_reducible refine gate_builtin (b:=.append) (xs:=#[.tmp 93,.tmp 95]) rfl ?_);(try (refine gate_guard (by rfl) ?_;dsimp only));at_builtin;refine Kd.R_append (Kd.int .i64) (w0:=w) w.heap.size rfl (.tmp 93) (.tmp 95) 38 2 (.int .i64 0) 8 rfl Tryz.underlying38 info2 rfl (by decide) (by omega) u12 x12_3 x14_3 [.int .i64 x14_3] (fun _=>True) (fun _=>False) rfl rfl ?aP (fun _ hk=>hk.elim) ?aF ?aO ?aB ?aS ?aL ?_;(case aP=>exact rfl);(case aB=>exact belg_);(case aF=>exact (fun _ _=>trivial));(case aO=>exact (rod_ HO_12));(case aS=>exact (below_size belg_));(case aL=>have:=LMc44.out;omega);intro v304 w45 ho hb hg hat;rw [← Ny303.out] at ho;replace BK297:=ad_ (blk_grown (g:=gb297) (o:=.cells #[.int .i64 a0_0,.int .i64 a0_1,.int .i64 a0_2,.int .i64 a0_3,.slice A0_4 l0_4.length c0_4,.slice A0_5 l0_5.length c0_5,.slice A0_6 l0_6.length c0_6] 34 (0,0)) (blo_ BK297.out) hg (Kd.R_ne HO_12.out BK297.out (by decide)));replace HB:=ad_ (hb);have HO305:=ad_ (ho);clear HO_12;clear ho hb hg hat))
                     go_roundg kj31
                     case measure=>have:=HJ7.out;have:=HJ17.out;have:=HK3.out;have:=HJ21.out;have:=HJ25.out;have:=HJ31.out;omega
                     case rel=>exact ⟨(y303),((wrap64 (x13_3 + 1))),(wrap64 (x14_3 + 86400)),val_,val_,H',⟨by have:=HJ7.out;have:=HJ17.out;have:=HK3.out;have:=HJ21.out;have:=HJ25.out;have:=HJ31.out;omega⟩,⟨rod_ HO305⟩,⟨blo_ BK297.out⟩,⟨belg_⟩⟩
                    ·rw [if_neg c44] at H;exact absurd H (by simp)
                   ·rw [if_neg c43] at H;have c43b0:decide (a2≤x14_3)=false:=decide_eq_false c43;clear c43;have H':=ad_ H;clear H
                    go_wp2
                    go_roundg kj31
                    case measure=>have:=HJ7.out;have:=HJ17.out;have:=HK3.out;have:=HJ21.out;have:=HJ25.out;have:=HJ31.out;omega
                    case rel=>exact ⟨(x12_3),((wrap64 (x13_3 + 1))),(wrap64 (x14_3 + 86400)),val_,val_,H',⟨by have:=HJ7.out;have:=HJ17.out;have:=HK3.out;have:=HJ21.out;have:=HJ25.out;have:=HJ31.out;omega⟩,⟨rod_ HO_12⟩,⟨blo_ BK297.out⟩,⟨belg_⟩⟩
            ·replace c25:=Bool.eq_false_iff.mpr c25;subst c25;replace H:=ifn_ H
             simp only [Option.some.injEq,Prod.mk.injEq] at H
             obtain ⟨rfl,rfl⟩:=H
             go_wp2
             go_ret2
             exact ⟨_,ret_,by (with_reducible repeat (first | apply Kd.R_alloc | apply Kd.R_drewN | apply Kd.R_drew));exact HO_12.out,belg_⟩
 ·replace c7:=Bool.eq_false_iff.mpr c7;subst c7;replace H:=ifn_ H
  simp only [Option.some.injEq,Prod.mk.injEq] at H
  obtain ⟨rfl,rfl⟩:=H
  go_enter Tryz.func15,Tryz.ntmps15
  go_wp2_with (first | ((with_reducible refine gate_dst (N:=5) rfl ?_);(try (refine gate_guard (by rfl) ?_;dsimp only));refine box_event ?hg (N:=5) ?hd (cs:=#[.int .i64 a0_0,.int .i64 a0_1,.int .i64 a0_2,.int .i64 a0_3,.slice A0_4 l0_4.length c0_4,.slice A0_5 l0_5.length c0_5,.slice A0_6 l0_6.length c0_6]) (t:=34) ?hr ?_;(case hd=>rfl);(case hg=>rfl);(case hr=>first | (go_simp;done) | (go_simp;rfl));intro gb297 hg w46 hbox hb;have BK297:=ad_ (hbox);have GW297:=ad_ ((by rw [hg];exact (below_size bel_):w.heap.size≤gb297));have GE297:=ad_ ((by rw [hg];exact (below_size bel_):w.heap.size≤gb297));replace HB:=hbb_ hb;clear hb hbox hg;have hcz47_:=cells7_ BK297.out) | ((with_reducible refine gate_callee (f:=22) rfl ?_);refine goesL_ (some 16) rfl rfl Tryz.func22 (by kernel_rfl) rfl #[.agg #[.int .i64 a0_0,.int .i64 a0_1,.int .i64 a0_2,.int .i64 a0_3,.slice A0_4 l0_4.length c0_4,.slice A0_5 l0_5.length c0_5,.slice A0_6 l0_6.length c0_6]] rfl arg_ ?_;(with_reducible refine (posthornref21_Right.calls k a0_0 a0_1 a0_2 a0_3 _ _ l0_4 _ _ l0_5 _ _ l0_6 false _ ?_ ?_ ?_ ?_ ?_ ?_ A6.out).mono ?_);(iterate 6 exact sc_);rintro e w48 ⟨rfl,hb⟩;refine ⟨_,rfl,?_⟩;replace BK297:=ad_ (blk_below (g:=gb297) (o:=.cells #[.int .i64 a0_0,.int .i64 a0_1,.int .i64 a0_2,.int .i64 a0_3,.slice A0_4 l0_4.length c0_4,.slice A0_5 l0_5.length c0_5,.slice A0_6 l0_6.length c0_6] 34 (0,0)) (blo_ BK297.out) hb);replace HB:=hbb_ hb;clear hb))
  go_ret2
  exact ⟨_,ret_,by first | exact Kd.R_nil _ _ _ _ _ | exact Kd.N_nil _ _ _ _ _ | exact Kd.V_nil _ _ _ _ _ | exact Kd.Q_nil _ _ _ _ _ | exact Kd.S_nil _ _ _ _ _,belg_⟩

end Go.Proofs.YtbeihceeliifeaaGreatDoor.PR

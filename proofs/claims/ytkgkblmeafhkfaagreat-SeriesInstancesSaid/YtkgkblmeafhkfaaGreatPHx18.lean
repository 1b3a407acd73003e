-- Written by a program of the session (wip/tools).
import Derived.Test.YtkgkblmeafhkfaaGreatPHx0
import Derived.Test.YtkgkblmeafhkfaaGreatPHx16
import Derived.Test.YtkgkblmeafhkfaaGreatPHx17
namespace Go.Proofs.YtkgkblmeafhkfaaGreat.PH
open Go.RowKit Go.Proofs.YtkgkblmeafhkfaaGreatW.PrintWords Go.Proofs.YtkgkblmeafhkfaaGreatW.PrintLast Go.Proofs.YtkgkblmeafhkfaaGreatW.PrintMore
attribute [local go_sem] max2_int min2_int max_two min_two max_three min_three max_four min_four   -- for this text's walks alone
set_option linter.unusedVariables false
set_option linter.unusedSimpArgs false

mutual
def pr21_Right.j0:Nat→Bool→Int→Int→Int→Int→List Int→List Int→List (S92)→Option (Bool)
 | 0,_,_,_,_,_,_,_,_=>none
 | k + 1,x30,y0,y1,y2,y3,y4,y5,y6=>if x30=true then (some false) else (if y3=(-1) then (pr21_Right.j1 k false y0 y1 y2 y3 y4 y5 y6) else ((pr12_Time.f y3).bind fun t341=>(if t341=true then (pr21_Right.j1 k (decide (y2 > 0)) y0 y1 y2 y3 y4 y5 y6) else (pr21_Right.j1 k true y0 y1 y2 y3 y4 y5 y6))))
def pr21_Right.j1:Nat→Bool→Int→Int→Int→Int→List Int→List Int→List (S92)→Option (Bool)
 | 0,_,_,_,_,_,_,_,_=>none
 | k + 1,x49,y0,y1,y2,y3,y4,y5,y6=>if x49=true then (some false) else (if y0≤2 then (pr21_Right.j2 k (decide ((y5.length:Int) > 0)) y0 y1 y2 y3 y4 y5 y6) else (pr21_Right.j2 k false y0 y1 y2 y3 y4 y5 y6))
def pr21_Right.j2:Nat→Bool→Int→Int→Int→Int→List Int→List Int→List (S92)→Option (Bool)
 | 0,_,_,_,_,_,_,_,_=>none
 | k + 1,x58,y0,y1,y2,y3,y4,y5,y6=>if x58=true then (some false) else ((pr21_list.f k y4 1 12).bind fun t342=>(if t342=true then ((pr21_list.f k y5 (-31) 31).bind fun t343=>(if t343=true then ((pr21_week.f k y6 (decide (y0 ≥ 3))).bind fun t344=>(some t344)) else (some false))) else (some false)))
end
def pr21_Right.f (k:Nat) (a0_0 a0_1:Int) (a0_2 a0_3:Int) (l0_4 l0_5:List Int) (l0_6:List (S92)):Option (Bool):=if a0_0 < 1 then (pr21_Right.j0 k true a0_0 a0_1 a0_2 a0_3 l0_4 l0_5 l0_6) else (if a0_0 > 4 then (pr21_Right.j0 k true a0_0 a0_1 a0_2 a0_3 l0_4 l0_5 l0_6) else (if a0_1 < 1 then (pr21_Right.j0 k true a0_0 a0_1 a0_2 a0_3 l0_4 l0_5 l0_6) else (if a0_1 > 1000 then (pr21_Right.j0 k true a0_0 a0_1 a0_2 a0_3 l0_4 l0_5 l0_6) else (if a0_2 < 0 then (pr21_Right.j0 k true a0_0 a0_1 a0_2 a0_3 l0_4 l0_5 l0_6) else (pr21_Right.j0 k (decide (a0_2 > 10000)) a0_0 a0_1 a0_2 a0_3 l0_4 l0_5 l0_6)))))
set_option maxHeartbeats 8000000 in
set_option maxRecDepth 100000 in
theorem pr21_Right.calls (k:Nat) (a0_0 a0_1:Int) (a0_2 a0_3:Int) (A0_4:Option Addr) (c0_4:Nat) (l0_4:List Int) (A0_5:Option Addr) (c0_5:Nat) (l0_5:List Int) (A0_6:Option Addr) (c0_6:Nat) (l0_6:List (S92)) (r:Bool) (w:World) (hr0_4:Kd.C (Kd.int .i64) w A0_4 l0_4.length l0_4) (hc0_4:l0_4.length≤c0_4) (hr0_5:Kd.C (Kd.int .i64) w A0_5 l0_5.length l0_5) (hc0_5:l0_5.length≤c0_5) (hr0_6:Kd.C k92 w A0_6 l0_6.length l0_6) (hc0_6:l0_6.length≤c0_6) (h:pr21_Right.f k a0_0 a0_1 a0_2 a0_3 l0_4 l0_5 l0_6=some r) :
  Calls Tryz.prog 37 #[.agg #[.int .i64 a0_0,.int .i64 a0_1,.int .i64 a0_2,.int .i64 a0_3,.slice A0_4 l0_4.length c0_4,.slice A0_5 l0_5.length c0_5,.slice A0_6 l0_6.length c0_6]] w fun e w'=>e = .returned (.bool r)∧Below w.heap.size w w':=by
 have hu34:=Tryz.underlying34;have HR0_4:=Aside0.mk hr0_4;have HC0_4:=Aside0.mk hc0_4;clear hr0_4 hc0_4;have HR0_5:=Aside0.mk hr0_5;have HC0_5:=Aside0.mk hc0_5;clear hr0_5 hc0_5;have HR0_6:=Aside0.mk hr0_6;have HC0_6:=Aside0.mk hc0_6;clear hr0_6 hc0_6;have HB:=ad_ (Below.refl w.heap.size w);have H:(if a0_0 < 1 then (pr21_Right.j0 k true a0_0 a0_1 a0_2 a0_3 l0_4 l0_5 l0_6) else (if a0_0 > 4 then (pr21_Right.j0 k true a0_0 a0_1 a0_2 a0_3 l0_4 l0_5 l0_6) else (if a0_1 < 1 then (pr21_Right.j0 k true a0_0 a0_1 a0_2 a0_3 l0_4 l0_5 l0_6) else (if a0_1 > 1000 then (pr21_Right.j0 k true a0_0 a0_1 a0_2 a0_3 l0_4 l0_5 l0_6) else (if a0_2 < 0 then (pr21_Right.j0 k true a0_0 a0_1 a0_2 a0_3 l0_4 l0_5 l0_6) else (pr21_Right.j0 k (decide (a0_2 > 10000)) a0_0 a0_1 a0_2 a0_3 l0_4 l0_5 l0_6))))))=some r:=h;clear h;have HC2:=Aside0.mk H;clear H
 go_enter Tryz.func37,Tryz.ntmps37
 go_upto_region 1 with (first | ((with_reducible refine gate_dst (N:=1) rfl ?_);(try (refine gate_guard (by rfl) ?_;dsimp only));refine bx_ 1 34 ?_;intro gb340 hg w3 hbox hb;have BK340:=ad_ (hbox);have GW340:=gw_ w hg;have GE340:=GW340;replace HB:=hbb_ hb;clear hb hbox hg))
 (try simp only [Act.put,List.setIfInBounds_toArray,List.set_cons_zero,List.set_cons_succ])
 go_cut [30] (fun v30 wc=>∃ (kq:Nat) (x30_1:Bool),v30 = .bool x30_1∧Aside0 (pr21_Right.j0 kq x30_1 a0_0 a0_1 a0_2 a0_3 l0_4 l0_5 l0_6=some r)∧Aside0 (kq≤k)∧Aside0 (wc.heap[gb340]? = some (.cells #[.int .i64 a0_0,.int .i64 a0_1,.int .i64 a0_2,.int .i64 a0_3,(.slice A0_4 l0_4.length c0_4),(.slice A0_5 l0_5.length c0_5),(.slice A0_6 l0_6.length c0_6)] 34 (0,0)))∧Aside0 (Below w.heap.size w wc))
 case first =>
  have H:=HC2.out;clear HC2
  replace H:=dc_ H;rcases H with ⟨H,c4b0⟩|⟨H,c4b0⟩
  ·(first | rw [c4b0] | (simp only [i64_w,i32_w];rw [c4b0]) | skip)
   have H':=ad_ H;clear H;have hcz5_:=cells7_ BK340.out
   go_wp2
   go_meet
   case rel=>exact ⟨_,(true),val_,H',⟨by first | omega | exact Nat.le_refl _⟩,⟨blo_ BK340.out⟩,⟨belg_⟩⟩
  ·(first | rw [c4b0] | (simp only [i64_w,i32_w];rw [c4b0]) | skip)
   replace H:=dg_ H;rcases H with ⟨H,c6b0⟩|⟨H,c6b0⟩
   ·have H':=ad_ H;clear H;have hcz7_:=cells7_ BK340.out
    go_wp2
    go_meet
    case rel=>exact ⟨_,(true),val_,H',⟨by first | omega | exact Nat.le_refl _⟩,⟨blo_ BK340.out⟩,⟨belg_⟩⟩
   ·replace H:=dc_ H;rcases H with ⟨H,c8b0⟩|⟨H,c8b0⟩
    ·have H':=ad_ H;clear H;have hcz9_:=cells7_ BK340.out
     go_wp2
     go_meet
     case rel=>exact ⟨_,(true),val_,H',⟨by first | omega | exact Nat.le_refl _⟩,⟨blo_ BK340.out⟩,⟨belg_⟩⟩
    ·replace H:=dg_ H;rcases H with ⟨H,c10b0⟩|⟨H,c10b0⟩
     ·have H':=ad_ H;clear H;have hcz11_:=cells7_ BK340.out
      go_wp2
      go_meet
      case rel=>exact ⟨_,(true),val_,H',⟨by first | omega | exact Nat.le_refl _⟩,⟨blo_ BK340.out⟩,⟨belg_⟩⟩
     ·replace H:=dc_ H;rcases H with ⟨H,c12b0⟩|⟨H,c12b0⟩
      ·have H':=ad_ H;clear H;have hcz13_:=cells7_ BK340.out
       go_wp2
       go_meet
       case rel=>exact ⟨_,(true),val_,H',⟨by first | omega | exact Nat.le_refl _⟩,⟨blo_ BK340.out⟩,⟨belg_⟩⟩
      ·have H':=ad_ H;clear H;have hcz14_:=cells7_ BK340.out
       go_wp2
       go_meet
       case rel=>exact ⟨_,(decide (a0_2 > 10000)),val_,H',⟨by first | omega | exact Nat.le_refl _⟩,⟨blo_ BK340.out⟩,⟨belg_⟩⟩
 case rest =>
  clear HC2;obtain ⟨kq,x30_1,rfl,HA,HJ1,BK340,HB⟩:=hcut
  cases kq with
  | zero=>exact absurd HA.out (by simp [pr21_Right.j0])
  | succ kj1 =>
   have H:=HA.out;clear HA
   simp only [pr21_Right.j0] at H
   replace H:=db_ H;rcases H with ⟨rfl,H⟩|⟨rfl,H⟩
   ·obtain rfl:=Option.some.inj H
    go_wp2
    go_ret
    exact ⟨ret_,belg_⟩
   ·have HC16:=Aside0.mk H;clear H
    go_upto_region 3 with (fail)
    go_cut [49] (fun v49 wc=>∃ (kq:Nat) (x49_15:Bool),v49 = .bool x49_15∧Aside0 (pr21_Right.j1 kq x49_15 a0_0 a0_1 a0_2 a0_3 l0_4 l0_5 l0_6=some r)∧Aside0 (kq≤kj1)∧Aside0 (wc.heap[gb340]? = some (.cells #[.int .i64 a0_0,.int .i64 a0_1,.int .i64 a0_2,.int .i64 a0_3,(.slice A0_4 l0_4.length c0_4),(.slice A0_5 l0_5.length c0_5),(.slice A0_6 l0_6.length c0_6)] 34 (0,0)))∧Aside0 (Below w.heap.size w wc))
    case first =>
     have H:=HC16.out;clear HC16
     replace H:=de_ H;rcases H with ⟨H,-,c17b0,c17b1⟩|⟨H,c17,c17b0,c17b1⟩
     ·(first | rw [c17b0] | (simp only [i64_w,i32_w];rw [c17b0]) | skip)
      have H':=ad_ H;clear H;have hcz18_:=cells7_ BK340.out
      go_wp2
      go_meet
      case rel=>exact ⟨_,(false),val_,H',⟨by have:=HJ1.out;first | omega | exact Nat.le_refl _⟩,⟨blo_ BK340.out⟩,⟨belg_⟩⟩
     ·(first | rw [c17b0] | (simp only [i64_w,i32_w];rw [c17b0]) | skip)
      obtain ⟨t341,A190,H⟩:=bnd_ H
      try dsimp only at H
      have A19:=ad_ A190;clear A190
      replace H:=db_ H;rcases H with ⟨rfl,H⟩|⟨rfl,H⟩
      ·have H':=ad_ H;clear H;have hcz21_:=cells7_ BK340.out
       go_wp2_with (first | (go_at_call 28;(with_reducible refine (pr12_Time.calls a0_3 true _ A19.out).mono ?_);rintro e w' ⟨rfl,⟨nd,rfl⟩⟩))
       go_meet
       case rel=>exact ⟨_,(decide (a0_2 > 0)),val_,H',⟨by have:=HJ1.out;first | omega | exact Nat.le_refl _⟩,⟨blo_ BK340.out⟩,⟨belg_⟩⟩
      ·have H':=ad_ H;clear H;have hcz22_:=cells7_ BK340.out
       go_wp2_with (first | (go_at_call 28;(with_reducible refine (pr12_Time.calls a0_3 false _ A19.out).mono ?_);rintro e w' ⟨rfl,⟨nd,rfl⟩⟩))
       go_meet
       case rel=>exact ⟨_,(true),val_,H',⟨by have:=HJ1.out;first | omega | exact Nat.le_refl _⟩,⟨blo_ BK340.out⟩,⟨belg_⟩⟩
    case rest =>
     clear HC16;obtain ⟨kq,x49_15,rfl,HA,HJ15,BK340,HB⟩:=hcut
     cases kq with
     | zero=>exact absurd HA.out (by simp [pr21_Right.j1])
     | succ kj15 =>
      have H:=HA.out;clear HA
      simp only [pr21_Right.j1] at H
      replace H:=db_ H;rcases H with ⟨rfl,H⟩|⟨rfl,H⟩
      ·obtain rfl:=Option.some.inj H
       go_wp2
       go_ret
       exact ⟨ret_,belg_⟩
      ·have HC24:=Aside0.mk H;clear H
       go_upto_region 5 with (fail)
       go_cut [58] (fun v58 wc=>∃ (kq:Nat) (x58_23:Bool),v58 = .bool x58_23∧Aside0 (pr21_Right.j2 kq x58_23 a0_0 a0_1 a0_2 a0_3 l0_4 l0_5 l0_6=some r)∧Aside0 (kq≤kj15)∧Aside0 (wc.heap[gb340]? = some (.cells #[.int .i64 a0_0,.int .i64 a0_1,.int .i64 a0_2,.int .i64 a0_3,(.slice A0_4 l0_4.length c0_4),(.slice A0_5 l0_5.length c0_5),(.slice A0_6 l0_6.length c0_6)] 34 (0,0)))∧Aside0 (Below w.heap.size w wc))
       case first =>
        have H:=HC24.out;clear HC24
        replace H:=dc_ H;rcases H with ⟨H,c25b0⟩|⟨H,c25b0⟩
        ·(first | rw [c25b0] | (simp only [i64_w,i32_w];rw [c25b0]) | skip)
         have H':=ad_ H;clear H;have hcz26_:=cells7_ BK340.out
         go_wp2
         go_meet
         case rel=>exact ⟨_,(decide ((l0_5.length:Int) > 0)),val_,H',⟨by have:=HJ1.out;have:=HJ15.out;first | omega | exact Nat.le_refl _⟩,⟨blo_ BK340.out⟩,⟨belg_⟩⟩
        ·(first | rw [c25b0] | (simp only [i64_w,i32_w];rw [c25b0]) | skip)
         have H':=ad_ H;clear H;have hcz27_:=cells7_ BK340.out
         go_wp2
         go_meet
         case rel=>exact ⟨_,(false),val_,H',⟨by have:=HJ1.out;have:=HJ15.out;first | omega | exact Nat.le_refl _⟩,⟨blo_ BK340.out⟩,⟨belg_⟩⟩
       case rest =>
        clear HC24;obtain ⟨kq,x58_23,rfl,HA,HJ23,BK340,HB⟩:=hcut
        cases kq with
        | zero=>exact absurd HA.out (by simp [pr21_Right.j2])
        | succ kj23 =>
         have H:=HA.out;clear HA
         simp only [pr21_Right.j2] at H
         replace H:=db_ H;rcases H with ⟨rfl,H⟩|⟨rfl,H⟩
         ·obtain rfl:=Option.some.inj H
          go_wp2
          go_ret
          exact ⟨ret_,belg_⟩
         ·obtain ⟨t342,A290,H⟩:=bnd_ H
          try dsimp only at H
          have A29:=ad_ A290;clear A290
          replace H:=db_ H;rcases H with ⟨rfl,H⟩|⟨rfl,H⟩
          ·obtain ⟨t343,A310,H⟩:=bnd_ H
           try dsimp only at H
           have A31:=ad_ A310;clear A310
           replace H:=db_ H;rcases H with ⟨rfl,H⟩|⟨rfl,H⟩
           ·obtain ⟨t344,A330,H⟩:=bnd_ H
            try dsimp only at H
            have A33:=ad_ A330;clear A330;obtain rfl:=Option.some.inj H;have hcz34_:=cells7_ BK340.out
            go_wp2_with (first | ((with_reducible refine gate_callee (f:=54) rfl ?_);refine gl_ 61 Tryz.func54 (pr21_list.calls kj23 _ _ l0_4 1 12 true _ ?_ ?_ A29.out) ?_;(iterate 2 exact sc_);rintro e w' ⟨rfl,⟨nd,rfl⟩⟩;refine ⟨_,rfl,?_⟩) | (go_at_call 54;(with_reducible refine (pr21_list.calls kj23 _ _ l0_5 (-31) 31 true _ ?_ ?_ A31.out).mono ?_);exact cop_ (Kd.C_below HR0_5.out belg_);exact HC0_5.out;rintro e w' ⟨rfl,⟨nd,rfl⟩⟩) | (go_at_call 55;(with_reducible refine (pr21_week.calls kj23 _ _ l0_6 (decide (a0_0 ≥ 3)) t344 _ ?_ ?_ A33.out).mono ?_);exact cop_ (Kd.C_below HR0_6.out belg_);exact HC0_6.out;rintro e w35 ⟨rfl,hb⟩;replace BK340:=bkb_ BK340 hb;replace HB:=hbb_ hb;clear hb))
            go_ret
            exact ⟨ret_,belg_⟩
           ·obtain rfl:=Option.some.inj H;have hcz36_:=cells7_ BK340.out
            go_wp2_with (first | ((with_reducible refine gate_callee (f:=54) rfl ?_);refine gl_ 61 Tryz.func54 (pr21_list.calls kj23 _ _ l0_4 1 12 true _ ?_ ?_ A29.out) ?_;(iterate 2 exact sc_);rintro e w' ⟨rfl,⟨nd,rfl⟩⟩;refine ⟨_,rfl,?_⟩) | (go_at_call 54;(with_reducible refine (pr21_list.calls kj23 _ _ l0_5 (-31) 31 false _ ?_ ?_ A31.out).mono ?_);exact cop_ (Kd.C_below HR0_5.out belg_);exact HC0_5.out;rintro e w' ⟨rfl,⟨nd,rfl⟩⟩))
            go_ret
            exact ⟨ret_,belg_⟩
          ·obtain rfl:=Option.some.inj H;have hcz37_:=cells7_ BK340.out
           go_wp2_with (first | ((with_reducible refine gate_callee (f:=54) rfl ?_);refine gl_ 61 Tryz.func54 (pr21_list.calls kj23 _ _ l0_4 1 12 false _ ?_ ?_ A29.out) ?_;(iterate 2 exact sc_);rintro e w' ⟨rfl,⟨nd,rfl⟩⟩;refine ⟨_,rfl,?_⟩))
           go_ret
           exact ⟨ret_,belg_⟩
end Go.Proofs.YtkgkblmeafhkfaaGreat.PH

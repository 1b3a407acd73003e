-- Written by a program of the session (wip/tools).
import Derived.Test.YtkgkblmeafhkfaaGreatPHx0
import Derived.Test.YtkgkblmeafhkfaaGreatPHx16
import Derived.Test.YtkgkblmeafhkfaaGreatPHx18
import Derived.Test.YtkgkblmeafhkfaaGreatPHx23
namespace Go.Proofs.YtkgkblmeafhkfaaGreat.PH
open Go.RowKit Go.Proofs.YtkgkblmeafhkfaaGreatW.PrintWords Go.Proofs.YtkgkblmeafhkfaaGreatW.PrintLast Go.Proofs.YtkgkblmeafhkfaaGreatW.PrintMore
attribute [local go_sem] max2_int min2_int max_two min_two max_three min_three max_four min_four   -- for this text's walks alone
set_option linter.unusedVariables false
set_option linter.unusedSimpArgs false

mutual
def pr21_Expand.j0:Nat→Int→Int→Int→Int→Bool→Int→Int→Int→Int→List Int→List Int→List (S92)→Option (List Int×Int)
 | 0,_,_,_,_,_,_,_,_,_,_,_,_=>none
 | k + 1,x1,x2,x3,x4,x30,y0,y1,y2,y3,y4,y5,y6=>if x30=true then (some (([]:List Int),110)) else (if x4 < 1 then (pr21_Expand.j1 k x1 x2 x3 x4 true y0 y1 y2 y3 y4 y5 y6) else (if x4 > 1000 then (pr21_Expand.j1 k x1 x2 x3 x4 true y0 y1 y2 y3 y4 y5 y6) else (pr21_Expand.j1 k x1 x2 x3 x4 (decide ((wrap64 (x3 - x1)) > 631152000)) y0 y1 y2 y3 y4 y5 y6)))
def pr21_Expand.j1:Nat→Int→Int→Int→Int→Bool→Int→Int→Int→Int→List Int→List Int→List (S92)→Option (List Int×Int)
 | 0,_,_,_,_,_,_,_,_,_,_,_,_=>none
 | k + 1,x1,x2,x3,x4,x42,y0,y1,y2,y3,y4,y5,y6=>if x42=true then (some (([]:List Int),1)) else (pr21_Expand.l0 k x1 x2 x3 x4 ([]:List Int) 0 x1 y0 y1 y2 y3 y4 y5 y6)
def pr21_Expand.l0:Nat→Int→Int→Int→Int→List Int→Int→Int→Int→Int→Int→Int→List Int→List Int→List (S92)→Option (List Int×Int)
 | 0,_,_,_,_,_,_,_,_,_,_,_,_,_,_=>none
 | k + 1,x1,x2,x3,x4,x12,x13,x14,y0,y1,y2,y3,y4,y5,y6=>if x14 < x3 then (pr21_Expand.j3 k x1 x2 x3 x4 x12 x13 x14 (decide ((x12.length:Int) < x4)) y0 y1 y2 y3 y4 y5 y6) else (pr21_Expand.j3 k x1 x2 x3 x4 x12 x13 x14 false y0 y1 y2 y3 y4 y5 y6)
def pr21_Expand.j3:Nat→Int→Int→Int→Int→List Int→Int→Int→Bool→Int→Int→Int→Int→List Int→List Int→List (S92)→Option (List Int×Int)
 | 0,_,_,_,_,_,_,_,_,_,_,_,_,_,_,_=>none
 | k + 1,x1,x2,x3,x4,x12,x13,x14,x52,y0,y1,y2,y3,y4,y5,y6=>if x52=true then (if x14 > x1 then ((pr21_Matches.f k y0 y1 y2 y3 y4 y5 y6 (wrap64 (Int.tdiv x1 86400)) (wrap64 (Int.tdiv x14 86400))).bind fun t403=>(pr21_Expand.j4 k x1 x2 x3 x4 x12 x13 x14 (!t403) y0 y1 y2 y3 y4 y5 y6)) else (pr21_Expand.j4 k x1 x2 x3 x4 x12 x13 x14 false y0 y1 y2 y3 y4 y5 y6)) else (some (x12,0))
def pr21_Expand.j4:Nat→Int→Int→Int→Int→List Int→Int→Int→Bool→Int→Int→Int→Int→List Int→List Int→List (S92)→Option (List Int×Int)
 | 0,_,_,_,_,_,_,_,_,_,_,_,_,_,_,_=>none
 | k + 1,x1,x2,x3,x4,x12,x13,x14,x66,y0,y1,y2,y3,y4,y5,y6=>if x66=true then (pr21_Expand.l0 k x1 x2 x3 x4 x12 x13 (wrap64 (x14 + 86400)) y0 y1 y2 y3 y4 y5 y6) else (if y2 > 0 then (if (wrap64 (x13 + 1)) > y2 then (pr21_Expand.j5 k x1 x2 x3 x4 x12 (wrap64 (x13 + 1)) x14 true y0 y1 y2 y3 y4 y5 y6) else (if y3 ≥ 0 then (pr21_Expand.j5 k x1 x2 x3 x4 x12 (wrap64 (x13 + 1)) x14 (decide (x14 > y3)) y0 y1 y2 y3 y4 y5 y6) else (pr21_Expand.j5 k x1 x2 x3 x4 x12 (wrap64 (x13 + 1)) x14 false y0 y1 y2 y3 y4 y5 y6))) else (if y3 ≥ 0 then (pr21_Expand.j5 k x1 x2 x3 x4 x12 (wrap64 (x13 + 1)) x14 (decide (x14 > y3)) y0 y1 y2 y3 y4 y5 y6) else (pr21_Expand.j5 k x1 x2 x3 x4 x12 (wrap64 (x13 + 1)) x14 false y0 y1 y2 y3 y4 y5 y6)))
def pr21_Expand.j5:Nat→Int→Int→Int→Int→List Int→Int→Int→Bool→Int→Int→Int→Int→List Int→List Int→List (S92)→Option (List Int×Int)
 | 0,_,_,_,_,_,_,_,_,_,_,_,_,_,_,_=>none
 | k + 1,x1,x2,x3,x4,x12,x13,x14,x88,y0,y1,y2,y3,y4,y5,y6=>if x88=true then (some (x12,0)) else (if x14 ≥ x2 then (if x12.length < 17592186044416 then (pr21_Expand.l0 k x1 x2 x3 x4 (x12 ++ [x14]) x13 (wrap64 (x14 + 86400)) y0 y1 y2 y3 y4 y5 y6) else (none)) else (pr21_Expand.l0 k x1 x2 x3 x4 x12 x13 (wrap64 (x14 + 86400)) y0 y1 y2 y3 y4 y5 y6))
end
def pr21_Expand.f (k:Nat) (a0_0 a0_1:Int) (a0_2 a0_3:Int) (l0_4 l0_5:List Int) (l0_6:List (S92)) (a1 a2:Int) (a3 a4:Int):Option (List Int×Int):=(pr21_Right.f k a0_0 a0_1 a0_2 a0_3 l0_4 l0_5 l0_6).bind fun t399=>(if t399=true then ((pr12_Time.f a1).bind fun t400=>(if t400=true then ((pr12_Time.f a2).bind fun t401=>(if t401=true then ((pr12_Time.f a3).bind fun t402=>(pr21_Expand.j0 k a1 a2 a3 a4 (!t402) a0_0 a0_1 a0_2 a0_3 l0_4 l0_5 l0_6)) else (pr21_Expand.j0 k a1 a2 a3 a4 true a0_0 a0_1 a0_2 a0_3 l0_4 l0_5 l0_6))) else (pr21_Expand.j0 k a1 a2 a3 a4 true a0_0 a0_1 a0_2 a0_3 l0_4 l0_5 l0_6))) else (some (([]:List Int),3)))
set_option maxHeartbeats 8000000 in
set_option maxRecDepth 100000 in
theorem pr21_Expand.calls (k:Nat) (a0_0 a0_1:Int) (a0_2 a0_3:Int) (A0_4:Option Addr) (c0_4:Nat) (l0_4:List Int) (A0_5:Option Addr) (c0_5:Nat) (l0_5:List Int) (A0_6:Option Addr) (c0_6:Nat) (l0_6:List (S92)) (a1 a2:Int) (a3 a4:Int) (r1:List Int) (r2:Int) (w:World) (hr0_4:Kd.C (Kd.int .i64) w A0_4 l0_4.length l0_4) (hc0_4:l0_4.length≤c0_4) (hr0_5:Kd.C (Kd.int .i64) w A0_5 l0_5.length l0_5) (hc0_5:l0_5.length≤c0_5) (hr0_6:Kd.C k92 w A0_6 l0_6.length l0_6) (hc0_6:l0_6.length≤c0_6) (h:pr21_Expand.f k a0_0 a0_1 a0_2 a0_3 l0_4 l0_5 l0_6 a1 a2 a3 a4=some (r1,r2)) :
  Calls Tryz.prog 29 #[.agg #[.int .i64 a0_0,.int .i64 a0_1,.int .i64 a0_2,.int .i64 a0_3,.slice A0_4 l0_4.length c0_4,.slice A0_5 l0_5.length c0_5,.slice A0_6 l0_6.length c0_6],.int .i64 a1,.int .i64 a2,.int .i64 a3,.int .i64 a4] w fun e w'=>∃ v0_:Value,e = .returned (.tuple #[v0_,.int .i64 r2])∧Kd.R (Kd.int .i64) 2 w' w.heap.size (fun _=>True) v0_ r1∧Below w.heap.size w w':=by
 have hu34:=Tryz.underlying34;have HR0_4:=Aside0.mk hr0_4;have HC0_4:=Aside0.mk hc0_4;clear hr0_4 hc0_4;have HR0_5:=Aside0.mk hr0_5;have HC0_5:=Aside0.mk hc0_5;clear hr0_5 hc0_5;have HR0_6:=Aside0.mk hr0_6;have HC0_6:=Aside0.mk hc0_6;clear hr0_6 hc0_6;have HB:=ad_ (Below.refl w.heap.size w);have H:((pr21_Right.f k a0_0 a0_1 a0_2 a0_3 l0_4 l0_5 l0_6).bind fun t399=>(if t399=true then ((pr12_Time.f a1).bind fun t400=>(if t400=true then ((pr12_Time.f a2).bind fun t401=>(if t401=true then ((pr12_Time.f a3).bind fun t402=>(pr21_Expand.j0 k a1 a2 a3 a4 (!t402) a0_0 a0_1 a0_2 a0_3 l0_4 l0_5 l0_6)) else (pr21_Expand.j0 k a1 a2 a3 a4 true a0_0 a0_1 a0_2 a0_3 l0_4 l0_5 l0_6))) else (pr21_Expand.j0 k a1 a2 a3 a4 true a0_0 a0_1 a0_2 a0_3 l0_4 l0_5 l0_6))) else (some (([]:List Int),3))))=some (r1,r2):=h;clear h;obtain ⟨t399,A60,H⟩:=bnd_ H
 try dsimp only at H
 have A6:=ad_ A60;clear A60
 replace H:=db_ H;rcases H with ⟨rfl,H⟩|⟨rfl,H⟩
 ·have HC8:=Aside0.mk H;clear H
  go_enter Tryz.func29,Tryz.ntmps29
  go_upto_region 3 with (first | ((with_reducible refine gate_dst (N:=5) rfl ?_);(try (refine gate_guard (by rfl) ?_;dsimp only));refine bx_ 5 34 ?_;intro gb398 hg w9 hbox hb;have BK398:=ad_ (hbox);have GW398:=gw_ w hg;have GE398:=GW398;replace HB:=hbb_ hb;clear hb hbox hg;have hcz10_:=cells7_ BK398.out) | ((with_reducible refine gate_callee (f:=37) rfl ?_);refine gl_ 16 Tryz.func37 (pr21_Right.calls k a0_0 a0_1 a0_2 a0_3 _ _ l0_4 _ _ l0_5 _ _ l0_6 true _ ?_ ?_ ?_ ?_ ?_ ?_ A6.out) ?_;(iterate 6 exact sc_);rintro e w11 ⟨rfl,hb⟩;refine ⟨_,rfl,?_⟩;replace BK398:=bkb_ BK398 hb;replace HB:=hbb_ hb;clear hb))
  (try simp only [Act.put,List.setIfInBounds_toArray,List.set_cons_zero,List.set_cons_succ])
  go_cut [30] (fun v30 wc=>∃ (kq:Nat) (x30_7:Bool),v30 = .bool x30_7∧Aside0 (pr21_Expand.j0 kq a1 a2 a3 a4 x30_7 a0_0 a0_1 a0_2 a0_3 l0_4 l0_5 l0_6=some (r1,r2))∧Aside0 (kq≤k)∧Aside0 (wc.heap[gb398]? = some (.cells #[.int .i64 a0_0,.int .i64 a0_1,.int .i64 a0_2,.int .i64 a0_3,(.slice A0_4 l0_4.length c0_4),(.slice A0_5 l0_5.length c0_5),(.slice A0_6 l0_6.length c0_6)] 34 (0,0)))∧Aside0 (Below w.heap.size w wc))
  case first =>
   have H:=HC8.out;clear HC8;obtain ⟨t400,A120,H⟩:=bnd_ H
   try dsimp only at H
   have A12:=ad_ A120;clear A120
   replace H:=db_ H;rcases H with ⟨rfl,H⟩|⟨rfl,H⟩
   ·obtain ⟨t401,A140,H⟩:=bnd_ H
    try dsimp only at H
    have A14:=ad_ A140;clear A140
    replace H:=db_ H;rcases H with ⟨rfl,H⟩|⟨rfl,H⟩
    ·obtain ⟨t402,A160,H⟩:=bnd_ H
     try dsimp only at H
     have A16:=ad_ A160;clear A160;have H':=ad_ H;clear H
     go_wp2_with (first | ((with_reducible refine gate_callee (f:=28) rfl ?_);refine gl_ 19 Tryz.func28 (pr12_Time.calls a1 true _ A12.out) ?_;rintro e w' ⟨rfl,⟨nd,rfl⟩⟩;refine ⟨_,rfl,?_⟩) | (go_at_call 28;(with_reducible refine (pr12_Time.calls a2 true _ A14.out).mono ?_);rintro e w' ⟨rfl,⟨nd,rfl⟩⟩) | (go_at_call 28;(with_reducible refine (pr12_Time.calls a3 t402 _ A16.out).mono ?_);rintro e w' ⟨rfl,⟨nd,rfl⟩⟩))
     go_meet
     case rel=>exact ⟨_,(!t402),val_,H',⟨by first | omega | exact Nat.le_refl _⟩,⟨blo_ BK398.out⟩,⟨belg_⟩⟩
    ·have H':=ad_ H;clear H
     go_wp2_with (first | ((with_reducible refine gate_callee (f:=28) rfl ?_);refine gl_ 19 Tryz.func28 (pr12_Time.calls a1 true _ A12.out) ?_;rintro e w' ⟨rfl,⟨nd,rfl⟩⟩;refine ⟨_,rfl,?_⟩) | (go_at_call 28;(with_reducible refine (pr12_Time.calls a2 false _ A14.out).mono ?_);rintro e w' ⟨rfl,⟨nd,rfl⟩⟩))
     go_meet
     case rel=>exact ⟨_,(true),val_,H',⟨by first | omega | exact Nat.le_refl _⟩,⟨blo_ BK398.out⟩,⟨belg_⟩⟩
   ·have H':=ad_ H;clear H
    go_wp2_with (first | ((with_reducible refine gate_callee (f:=28) rfl ?_);refine gl_ 19 Tryz.func28 (pr12_Time.calls a1 false _ A12.out) ?_;rintro e w' ⟨rfl,⟨nd,rfl⟩⟩;refine ⟨_,rfl,?_⟩))
    go_meet
    case rel=>exact ⟨_,(true),val_,H',⟨by first | omega | exact Nat.le_refl _⟩,⟨blo_ BK398.out⟩,⟨belg_⟩⟩
  case rest =>
   clear HC8;clear hcz10_;obtain ⟨kq,x30_7,rfl,HA,HJ7,BK398,HB⟩:=hcut
   cases kq with
   | zero=>exact absurd HA.out (by simp [pr21_Expand.j0])
   | succ kj7 =>
    have H:=HA.out;clear HA
    simp only [pr21_Expand.j0] at H
    replace H:=db_ H;rcases H with ⟨rfl,H⟩|⟨rfl,H⟩
    ·simp only [Option.some.injEq,Prod.mk.injEq] at H
     obtain ⟨rfl,rfl⟩:=H
     go_wp2
     go_ret2
     exact ⟨_,ret_,by first | exact Kd.R_nil _ _ _ _ _ | exact Kd.N_nil _ _ _ _ _ | exact Kd.V_nil _ _ _ _ _ | exact Kd.Q_nil _ _ _ _ _ | exact Kd.S_nil _ _ _ _ _,belg_⟩
    ·have HC18:=Aside0.mk H;clear H
     go_upto_region 5 with (fail)
     go_cut [42] (fun v42 wc=>∃ (kq:Nat) (x42_17:Bool),v42 = .bool x42_17∧Aside0 (pr21_Expand.j1 kq a1 a2 a3 a4 x42_17 a0_0 a0_1 a0_2 a0_3 l0_4 l0_5 l0_6=some (r1,r2))∧Aside0 (kq≤kj7)∧Aside0 (wc.heap[gb398]? = some (.cells #[.int .i64 a0_0,.int .i64 a0_1,.int .i64 a0_2,.int .i64 a0_3,(.slice A0_4 l0_4.length c0_4),(.slice A0_5 l0_5.length c0_5),(.slice A0_6 l0_6.length c0_6)] 34 (0,0)))∧Aside0 (Below w.heap.size w wc))
     case first =>
      have H:=HC18.out;clear HC18
      replace H:=dc_ H;rcases H with ⟨H,c19b0⟩|⟨H,c19b0⟩
      ·(first | rw [c19b0] | (simp only [i64_w,i32_w];rw [c19b0]) | skip)
       have H':=ad_ H;clear H
       go_wp2
       go_meet
       case rel=>exact ⟨_,(true),val_,H',⟨by have:=HJ7.out;first | omega | exact Nat.le_refl _⟩,⟨blo_ BK398.out⟩,⟨belg_⟩⟩
      ·(first | rw [c19b0] | (simp only [i64_w,i32_w];rw [c19b0]) | skip)
       replace H:=dg_ H;rcases H with ⟨H,c20b0⟩|⟨H,c20b0⟩
       ·have H':=ad_ H;clear H
        go_wp2
        go_meet
        case rel=>exact ⟨_,(true),val_,H',⟨by have:=HJ7.out;first | omega | exact Nat.le_refl _⟩,⟨blo_ BK398.out⟩,⟨belg_⟩⟩
       ·have H':=ad_ H;clear H
        go_wp2
        go_meet
        case rel=>exact ⟨_,(decide ((wrap64 (a3 - a1)) > 631152000)),val_,H',⟨by have:=HJ7.out;first | omega | exact Nat.le_refl _⟩,⟨blo_ BK398.out⟩,⟨belg_⟩⟩
     case rest =>
      clear HC18;obtain ⟨kq,x42_17,rfl,HA,HJ17,BK398,HB⟩:=hcut
      cases kq with
      | zero=>exact absurd HA.out (by simp [pr21_Expand.j1])
      | succ kj17 =>
       have H:=HA.out;clear HA
       simp only [pr21_Expand.j1] at H
       replace H:=db_ H;rcases H with ⟨rfl,H⟩|⟨rfl,H⟩
       ·simp only [Option.some.injEq,Prod.mk.injEq] at H
        obtain ⟨rfl,rfl⟩:=H
        go_wp2
        go_ret2
        exact ⟨_,ret_,by first | exact Kd.R_nil _ _ _ _ _ | exact Kd.N_nil _ _ _ _ _ | exact Kd.V_nil _ _ _ _ _ | exact Kd.Q_nil _ _ _ _ _ | exact Kd.S_nil _ _ _ _ _,belg_⟩
       ·have H':=ad_ H;clear H
        go_wp2
        go_loopg [12,13,14] kj17 (fun kq v12 v13 v14 w'=>∃ (x12_3:List Int) (x13_3:Int) (x14_3:Int),v13 = .int .i64 x13_3∧v14 = .int .i64 x14_3∧Aside0 (pr21_Expand.l0 kq a1 a2 a3 a4 x12_3 x13_3 x14_3 a0_0 a0_1 a0_2 a0_3 l0_4 l0_5 l0_6=some (r1,r2))∧Aside0 (kq≤kj17)∧Aside0 (Kd.R (Kd.int .i64) 2 w' w.heap.size (fun _=>True) v12 x12_3)∧Aside0 (w'.heap[gb398]? = some (.cells #[.int .i64 a0_0,.int .i64 a0_1,.int .i64 a0_2,.int .i64 a0_3,(.slice A0_4 l0_4.length c0_4),(.slice A0_5 l0_5.length c0_5),(.slice A0_6 l0_6.length c0_6)] 34 (0,0)))∧Aside0 (Below w.heap.size w w'))
        case atStart=>exact ⟨(([]:List Int)),(0),(a1),val_,val_,H',⟨Nat.le_refl _⟩,⟨by first | exact Kd.R_nil _ _ _ _ _ | exact Kd.N_nil _ _ _ _ _ | exact Kd.V_nil _ _ _ _ _ | exact Kd.Q_nil _ _ _ _ _ | exact Kd.S_nil _ _ _ _ _⟩,⟨blo_ BK398.out⟩,⟨belg_⟩⟩
        case round =>
         clear H';obtain ⟨x12_3,x13_3,x14_3,rfl,rfl,HA,HK3,HO_12,BK398,HB⟩:=hrel
         cases gk with
         | zero=>exact absurd HA.out (by simp [pr21_Expand.l0])
         | succ k3 =>
          have H:=HA.out;clear HA
          simp only [pr21_Expand.l0] at H
          have HC22:=Aside0.mk H;clear H
          go_upto_region 10 with (fail)
          go_cut [52] (fun v52 wc=>∃ (kq:Nat) (x52_21:Bool),v52 = .bool x52_21∧Aside0 (pr21_Expand.j3 kq a1 a2 a3 a4 x12_3 x13_3 x14_3 x52_21 a0_0 a0_1 a0_2 a0_3 l0_4 l0_5 l0_6=some (r1,r2))∧Aside0 (kq≤k3)∧Aside0 (Kd.R (Kd.int .i64) 2 wc w.heap.size (fun _=>True) u12 x12_3)∧Aside0 (wc.heap[gb398]? = some (.cells #[.int .i64 a0_0,.int .i64 a0_1,.int .i64 a0_2,.int .i64 a0_3,(.slice A0_4 l0_4.length c0_4),(.slice A0_5 l0_5.length c0_5),(.slice A0_6 l0_6.length c0_6)] 34 (0,0)))∧Aside0 (Below w.heap.size w wc))
          case first =>
           have H:=HC22.out;clear HC22
           replace H:=dc_ H;rcases H with ⟨H,c23b0⟩|⟨H,c23b0⟩
           ·(first | rw [c23b0] | (simp only [i64_w,i32_w];rw [c23b0]) | skip)
            have H':=ad_ H;clear H;obtain ⟨Ao24,co24,eo24⟩:=Kd.R_slice HO_12.out;subst eo24
            go_wp2
            go_meet
            case rel=>exact ⟨_,(decide ((x12_3.length:Int) < a4)),val_,H',⟨by have:=HJ7.out;have:=HJ17.out;have:=HK3.out;first | omega | exact Nat.le_refl _⟩,⟨rod_ HO_12⟩,⟨blo_ BK398.out⟩,⟨belg_⟩⟩
           ·(first | rw [c23b0] | (simp only [i64_w,i32_w];rw [c23b0]) | skip)
            have H':=ad_ H;clear H
            go_wp2
            go_meet
            case rel=>exact ⟨_,(false),val_,H',⟨by have:=HJ7.out;have:=HJ17.out;have:=HK3.out;first | omega | exact Nat.le_refl _⟩,⟨rod_ HO_12⟩,⟨blo_ BK398.out⟩,⟨belg_⟩⟩
          case rest =>
           clear HC22;obtain ⟨kq,x52_21,rfl,HA,HJ21,HO_12,BK398,HB⟩:=hcut
           cases kq with
           | zero=>exact absurd HA.out (by simp [pr21_Expand.j3])
           | succ kj21 =>
            have H:=HA.out;clear HA
            simp only [pr21_Expand.j3] at H
            replace H:=db_ H;rcases H with ⟨rfl,H⟩|⟨rfl,H⟩
            ·have HC26:=Aside0.mk H;clear H
             go_upto_region 12 with (fail)
             go_cut [66] (fun v66 wc=>∃ (kq:Nat) (x66_25:Bool),v66 = .bool x66_25∧Aside0 (pr21_Expand.j4 kq a1 a2 a3 a4 x12_3 x13_3 x14_3 x66_25 a0_0 a0_1 a0_2 a0_3 l0_4 l0_5 l0_6=some (r1,r2))∧Aside0 (kq≤kj21)∧Aside0 (Kd.R (Kd.int .i64) 2 wc w.heap.size (fun _=>True) u12 x12_3)∧Aside0 (wc.heap[gb398]? = some (.cells #[.int .i64 a0_0,.int .i64 a0_1,.int .i64 a0_2,.int .i64 a0_3,(.slice A0_4 l0_4.length c0_4),(.slice A0_5 l0_5.length c0_5),(.slice A0_6 l0_6.length c0_6)] 34 (0,0)))∧Aside0 (Below w.heap.size w wc))
             case first =>
              have H:=HC26.out;clear HC26
              replace H:=dg_ H;rcases H with ⟨H,c27b0⟩|⟨H,c27b0⟩
              ·(first | rw [c27b0] | (simp only [i64_w,i32_w];rw [c27b0]) | skip)
               obtain ⟨t403,A280,H⟩:=bnd_ H
               try dsimp only at H
               have A28:=ad_ A280;clear A280;have H':=ad_ H;clear H;have hcz29_:=cells7_ BK398.out
               go_wp2_with (first | (go_at_call 51;(with_reducible refine (pr21_Matches.calls kj21 a0_0 a0_1 a0_2 a0_3 _ _ l0_4 _ _ l0_5 _ _ l0_6 (wrap64 (Int.tdiv a1 86400)) (wrap64 (Int.tdiv x14_3 86400)) t403 _ ?_ ?_ ?_ ?_ ?_ ?_ A28.out).mono ?_);(iterate 6 exact sc_);rintro e w30 ⟨rfl,hb⟩;replace HO_12:=ad_ (Kd.R_below (rod_ HO_12) hb);replace BK398:=bkb_ BK398 hb;replace HB:=hbb_ hb;clear hb))
               go_meet
               case rel=>exact ⟨_,(!t403),val_,H',⟨by have:=HJ7.out;have:=HJ17.out;have:=HK3.out;have:=HJ21.out;first | omega | exact Nat.le_refl _⟩,⟨rod_ HO_12⟩,⟨blo_ BK398.out⟩,⟨belg_⟩⟩
              ·(first | rw [c27b0] | (simp only [i64_w,i32_w];rw [c27b0]) | skip)
               have H':=ad_ H;clear H
               go_wp2
               go_meet
               case rel=>exact ⟨_,(false),val_,H',⟨by have:=HJ7.out;have:=HJ17.out;have:=HK3.out;have:=HJ21.out;first | omega | exact Nat.le_refl _⟩,⟨rod_ HO_12⟩,⟨blo_ BK398.out⟩,⟨belg_⟩⟩
             case rest =>
              clear HC26;obtain ⟨kq,x66_25,rfl,HA,HJ25,HO_12,BK398,HB⟩:=hcut
              cases kq with
              | zero=>exact absurd HA.out (by simp [pr21_Expand.j4])
              | succ kj25 =>
               have H:=HA.out;clear HA
               simp only [pr21_Expand.j4] at H
               replace H:=db_ H;rcases H with ⟨rfl,H⟩|⟨rfl,H⟩
               ·have H':=ad_ H;clear H
                go_wp2
                go_roundg kj25
                case measure=>have:=HJ7.out;have:=HJ17.out;have:=HK3.out;have:=HJ21.out;have:=HJ25.out;omega
                case rel=>exact ⟨(x12_3),(x13_3),(wrap64 (x14_3 + 86400)),val_,val_,H',⟨by have:=HJ7.out;have:=HJ17.out;have:=HK3.out;have:=HJ21.out;have:=HJ25.out;omega⟩,⟨rod_ HO_12⟩,⟨blo_ BK398.out⟩,⟨belg_⟩⟩
               ·have HC32:=Aside0.mk H;clear H
                go_upto_region 14 with (fail)
                go_cut [88] (fun v88 wc=>∃ (kq:Nat) (x88_31:Bool),v88 = .bool x88_31∧Aside0 (pr21_Expand.j5 kq a1 a2 a3 a4 x12_3 (wrap64 (x13_3 + 1)) x14_3 x88_31 a0_0 a0_1 a0_2 a0_3 l0_4 l0_5 l0_6=some (r1,r2))∧Aside0 (kq≤kj25)∧Aside0 (Kd.R (Kd.int .i64) 2 wc w.heap.size (fun _=>True) u12 x12_3)∧Aside0 (wc.heap[gb398]? = some (.cells #[.int .i64 a0_0,.int .i64 a0_1,.int .i64 a0_2,.int .i64 a0_3,(.slice A0_4 l0_4.length c0_4),(.slice A0_5 l0_5.length c0_5),(.slice A0_6 l0_6.length c0_6)] 34 (0,0)))∧Aside0 (Below w.heap.size w wc))
                case first =>
                 have H:=HC32.out;clear HC32
                 replace H:=dg_ H;rcases H with ⟨H,c33b0⟩|⟨H,c33b0⟩
                 ·(first | rw [c33b0] | (simp only [i64_w,i32_w];rw [c33b0]) | skip)
                  replace H:=dg_ H;rcases H with ⟨H,c34b0⟩|⟨H,c34b0⟩
                  ·have H':=ad_ H;clear H;have hcz35_:=cells7_ BK398.out
                   go_wp2
                   go_meet
                   case rel=>exact ⟨_,(true),val_,H',⟨by have:=HJ7.out;have:=HJ17.out;have:=HK3.out;have:=HJ21.out;have:=HJ25.out;first | omega | exact Nat.le_refl _⟩,⟨rod_ HO_12⟩,⟨blo_ BK398.out⟩,⟨belg_⟩⟩
                  ·replace H:=dh_ H;rcases H with ⟨H,c36b0⟩|⟨H,c36b0⟩
                   ·have H':=ad_ H;clear H;have hcz37_:=cells7_ BK398.out
                    go_wp2
                    go_meet
                    case rel=>exact ⟨_,(decide (x14_3 > a0_3)),val_,H',⟨by have:=HJ7.out;have:=HJ17.out;have:=HK3.out;have:=HJ21.out;have:=HJ25.out;first | omega | exact Nat.le_refl _⟩,⟨rod_ HO_12⟩,⟨blo_ BK398.out⟩,⟨belg_⟩⟩
                   ·have H':=ad_ H;clear H;have hcz38_:=cells7_ BK398.out
                    go_wp2
                    go_meet
                    case rel=>exact ⟨_,(false),val_,H',⟨by have:=HJ7.out;have:=HJ17.out;have:=HK3.out;have:=HJ21.out;have:=HJ25.out;first | omega | exact Nat.le_refl _⟩,⟨rod_ HO_12⟩,⟨blo_ BK398.out⟩,⟨belg_⟩⟩
                 ·(first | rw [c33b0] | (simp only [i64_w,i32_w];rw [c33b0]) | skip)
                  replace H:=dh_ H;rcases H with ⟨H,c39b0⟩|⟨H,c39b0⟩
                  ·have H':=ad_ H;clear H;have hcz40_:=cells7_ BK398.out
                   go_wp2
                   go_meet
                   case rel=>exact ⟨_,(decide (x14_3 > a0_3)),val_,H',⟨by have:=HJ7.out;have:=HJ17.out;have:=HK3.out;have:=HJ21.out;have:=HJ25.out;first | omega | exact Nat.le_refl _⟩,⟨rod_ HO_12⟩,⟨blo_ BK398.out⟩,⟨belg_⟩⟩
                  ·have H':=ad_ H;clear H;have hcz41_:=cells7_ BK398.out
                   go_wp2
                   go_meet
                   case rel=>exact ⟨_,(false),val_,H',⟨by have:=HJ7.out;have:=HJ17.out;have:=HK3.out;have:=HJ21.out;have:=HJ25.out;first | omega | exact Nat.le_refl _⟩,⟨rod_ HO_12⟩,⟨blo_ BK398.out⟩,⟨belg_⟩⟩
                case rest =>
                 clear HC32;obtain ⟨kq,x88_31,rfl,HA,HJ31,HO_12,BK398,HB⟩:=hcut
                 cases kq with
                 | zero=>exact absurd HA.out (by simp [pr21_Expand.j5])
                 | succ kj31 =>
                  have H:=HA.out;clear HA
                  simp only [pr21_Expand.j5] at H
                  replace H:=db_ H;rcases H with ⟨rfl,H⟩|⟨rfl,H⟩
                  ·simp only [Option.some.injEq,Prod.mk.injEq] at H
                   obtain ⟨rfl,rfl⟩:=H
                   go_wp2
                   go_ret2
                   exact ⟨_,ret_,by (with_reducible repeat (first | apply Kd.R_alloc | apply Kd.R_drewN | apply Kd.R_drew));exact HO_12.out,belg_⟩
                  ·replace H:=dh_ H;rcases H with ⟨H,c43b0⟩|⟨H,c43b0⟩
                   ·replace H:=in_ H;obtain ⟨c44,H⟩:=H;have LMc44:=Aside0.mk c44;clear c44;obtain ⟨y404,hy404⟩:∃ y_:List Int,y_=(x12_3 ++ [x14_3]):=⟨_,rfl⟩
                    replace H:(pr21_Expand.l0 kj31 a1 a2 a3 a4 y404 (wrap64 (x13_3 + 1)) (wrap64 (x14_3 + 86400)) a0_0 a0_1 a0_2 a0_3 l0_4 l0_5 l0_6)=some (r1,r2):=by first | (rw [hy404];with_reducible exact H) | (have H2_:=(Option.bind_some _ _).symm.trans H;rw [hy404];with_reducible exact H2_) | (have H2_:=(Option.bind_some _ _).symm.trans H;with_reducible exact H2_) | with_reducible exact H | (rw [hy404];exact H) | exact H
                    have Ny404:=Aside0.mk hy404;clear hy404;have H':=ad_ H;clear H
                    go_wp2_with (first | ((with_reducible refine gate_builtin (b:=.append) (xs:=#[.tmp 93,.tmp 95]) rfl ?_);(try (refine gate_guard (by rfl) ?_;dsimp only));at_builtin;refine Kd.R_append (Kd.int .i64) (w0:=w) w.heap.size rfl (.tmp 93) (.tmp 95) 26 2 (.int .i64 0) 8 rfl Tryz.underlying26 info2 rfl (by decide) (by omega) u12 x12_3 x14_3 [.int .i64 x14_3] (fun _=>True) (fun _=>False) rfl rfl ?aP (fun _ hk=>hk.elim) ?aF ?aO ?aB ?aS ?aL ?_;(case aP=>exact rfl);(case aB=>exact belg_);(case aF=>exact (fun _ _=>trivial));(case aO=>exact (rod_ HO_12));(case aS=>exact (below_size belg_));(case aL=>have:=LMc44.out;omega);intro v405 w45 ho hb hg hat;rw [← Ny404.out] at ho;replace BK398:=ad_ (blk_grown (g:=gb398) (blo_ BK398.out) hg (Kd.R_ne HO_12.out BK398.out (by decide)));replace HB:=ad_ (hb);have HO406:=ad_ (ho);clear HO_12;clear ho hb hg hat))
                    go_roundg kj31
                    case measure=>have:=HJ7.out;have:=HJ17.out;have:=HK3.out;have:=HJ21.out;have:=HJ25.out;have:=HJ31.out;omega
                    case rel=>exact ⟨(y404),((wrap64 (x13_3 + 1))),(wrap64 (x14_3 + 86400)),val_,val_,H',⟨by have:=HJ7.out;have:=HJ17.out;have:=HK3.out;have:=HJ21.out;have:=HJ25.out;have:=HJ31.out;omega⟩,⟨rod_ HO406⟩,⟨blo_ BK398.out⟩,⟨belg_⟩⟩
                   ·have H':=ad_ H;clear H
                    go_wp2
                    go_roundg kj31
                    case measure=>have:=HJ7.out;have:=HJ17.out;have:=HK3.out;have:=HJ21.out;have:=HJ25.out;have:=HJ31.out;omega
                    case rel=>exact ⟨(x12_3),((wrap64 (x13_3 + 1))),(wrap64 (x14_3 + 86400)),val_,val_,H',⟨by have:=HJ7.out;have:=HJ17.out;have:=HK3.out;have:=HJ21.out;have:=HJ25.out;have:=HJ31.out;omega⟩,⟨rod_ HO_12⟩,⟨blo_ BK398.out⟩,⟨belg_⟩⟩
            ·simp only [Option.some.injEq,Prod.mk.injEq] at H
             obtain ⟨rfl,rfl⟩:=H
             go_wp2
             go_ret2
             exact ⟨_,ret_,by (with_reducible repeat (first | apply Kd.R_alloc | apply Kd.R_drewN | apply Kd.R_drew));exact HO_12.out,belg_⟩
 ·simp only [Option.some.injEq,Prod.mk.injEq] at H
  obtain ⟨rfl,rfl⟩:=H
  go_enter Tryz.func29,Tryz.ntmps29
  go_wp2_with (first | ((with_reducible refine gate_dst (N:=5) rfl ?_);(try (refine gate_guard (by rfl) ?_;dsimp only));refine bx_ 5 34 ?_;intro gb398 hg w46 hbox hb;have BK398:=ad_ (hbox);have GW398:=gw_ w hg;have GE398:=GW398;replace HB:=hbb_ hb;clear hb hbox hg;have hcz47_:=cells7_ BK398.out) | ((with_reducible refine gate_callee (f:=37) rfl ?_);refine gl_ 16 Tryz.func37 (pr21_Right.calls k a0_0 a0_1 a0_2 a0_3 _ _ l0_4 _ _ l0_5 _ _ l0_6 false _ ?_ ?_ ?_ ?_ ?_ ?_ A6.out) ?_;(iterate 6 exact sc_);rintro e w48 ⟨rfl,hb⟩;refine ⟨_,rfl,?_⟩;replace BK398:=bkb_ BK398 hb;replace HB:=hbb_ hb;clear hb))
  go_ret2
  exact ⟨_,ret_,by first | exact Kd.R_nil _ _ _ _ _ | exact Kd.N_nil _ _ _ _ _ | exact Kd.V_nil _ _ _ _ _ | exact Kd.Q_nil _ _ _ _ _ | exact Kd.S_nil _ _ _ _ _,belg_⟩
end Go.Proofs.YtkgkblmeafhkfaaGreat.PH

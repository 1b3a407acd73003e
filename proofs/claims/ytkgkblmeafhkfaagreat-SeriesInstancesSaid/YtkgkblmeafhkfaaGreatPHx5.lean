-- Written by a program of the session (wip/tools).
import Derived.Test.YtkgkblmeafhkfaaGreatPHx0
import Derived.Test.YtkgkblmeafhkfaaGreatPHx4
namespace Go.Proofs.YtkgkblmeafhkfaaGreat.PH
open Go.RowKit Go.Proofs.YtkgkblmeafhkfaaGreatW.PrintWords Go.Proofs.YtkgkblmeafhkfaaGreatW.PrintLast Go.Proofs.YtkgkblmeafhkfaaGreatW.PrintMore
attribute [local go_sem] max2_int min2_int max_two min_two max_three min_three max_four min_four   -- for this text's walks alone
set_option linter.unusedVariables false
set_option linter.unusedSimpArgs false

mutual
def recur_Right.j0:Nat→Bool→Int→Int→Int→Int→List Int→List Int→List (S91)→Option (Bool)
 | 0,_,_,_,_,_,_,_,_=>none
 | k + 1,x3,y0,y1,y2,y3,y4,y5,y6=>if y0 < 1 then (recur_Right.j1 k x3 true y0 y1 y2 y3 y4 y5 y6) else (if y0 > 4 then (recur_Right.j1 k x3 true y0 y1 y2 y3 y4 y5 y6) else (if y1 < 1 then (recur_Right.j1 k x3 true y0 y1 y2 y3 y4 y5 y6) else (if y1 > 1000 then (recur_Right.j1 k x3 true y0 y1 y2 y3 y4 y5 y6) else (if y2 < 0 then (recur_Right.j1 k x3 true y0 y1 y2 y3 y4 y5 y6) else (recur_Right.j1 k x3 (decide (y2 > 10000)) y0 y1 y2 y3 y4 y5 y6)))))
def recur_Right.j1:Nat→Bool→Bool→Int→Int→Int→Int→List Int→List Int→List (S91)→Option (Bool)
 | 0,_,_,_,_,_,_,_,_,_=>none
 | k + 1,x3,x41,y0,y1,y2,y3,y4,y5,y6=>if x41=true then (some false) else (if y3=(-1) then ((recur_rises.f k y4 1 12).bind fun t109=>(if t109=true then ((recur_rises.f k y5 (-31) 31).bind fun t110=>(if t110=true then (if x3=true then (recur_Right.j2 k x3 false y0 y1 y2 y3 y4 y5 y6) else (recur_Right.j2 k x3 (decide ((y5.length:Int) > 0)) y0 y1 y2 y3 y4 y5 y6)) else (recur_Right.j2 k x3 true y0 y1 y2 y3 y4 y5 y6))) else (recur_Right.j2 k x3 true y0 y1 y2 y3 y4 y5 y6))) else ((when_Right.f y3).bind fun t111=>(if t111=true then (if y2=0 then ((recur_rises.f k y4 1 12).bind fun t112=>(if t112=true then ((recur_rises.f k y5 (-31) 31).bind fun t113=>(if t113=true then (if x3=true then (recur_Right.j2 k x3 false y0 y1 y2 y3 y4 y5 y6) else (recur_Right.j2 k x3 (decide ((y5.length:Int) > 0)) y0 y1 y2 y3 y4 y5 y6)) else (recur_Right.j2 k x3 true y0 y1 y2 y3 y4 y5 y6))) else (recur_Right.j2 k x3 true y0 y1 y2 y3 y4 y5 y6))) else (recur_Right.j2 k x3 true y0 y1 y2 y3 y4 y5 y6)) else (recur_Right.j2 k x3 true y0 y1 y2 y3 y4 y5 y6))))
def recur_Right.j2:Nat→Bool→Bool→Int→Int→Int→Int→List Int→List Int→List (S91)→Option (Bool)
 | 0,_,_,_,_,_,_,_,_,_=>none
 | k + 1,x3,x77,y0,y1,y2,y3,y4,y5,y6=>if x77=true then (some false) else (recur_Right.l0 k x3 y6 (y6.length:Int) 0 y0 y1 y2 y3 y4 y5 y6)
def recur_Right.l0:Nat→Bool→List (S91)→Int→Int→Int→Int→Int→Int→List Int→List Int→List (S91)→Option (Bool)
 | 0,_,_,_,_,_,_,_,_,_,_,_=>none
 | k + 1,x3,x79,x80,x81,y0,y1,y2,y3,y4,y5,y6=>if x81 < x80 then (if 0≤x81 then (if x81 < (x79.length:Int) then (if ((rd_T91 x79 x81).f0) < 0 then (recur_Right.j4 k x3 x81 x79 x80 x81 true y0 y1 y2 y3 y4 y5 y6 ((rd_T91 x79 x81).f0) ((rd_T91 x79 x81).f1)) else (if ((rd_T91 x79 x81).f0) > 6 then (recur_Right.j4 k x3 x81 x79 x80 x81 true y0 y1 y2 y3 y4 y5 y6 ((rd_T91 x79 x81).f0) ((rd_T91 x79 x81).f1)) else (if ((rd_T91 x79 x81).f1) < (-5) then (recur_Right.j4 k x3 x81 x79 x80 x81 true y0 y1 y2 y3 y4 y5 y6 ((rd_T91 x79 x81).f0) ((rd_T91 x79 x81).f1)) else (if ((rd_T91 x79 x81).f1) > 5 then (recur_Right.j4 k x3 x81 x79 x80 x81 true y0 y1 y2 y3 y4 y5 y6 ((rd_T91 x79 x81).f0) ((rd_T91 x79 x81).f1)) else (if x3=true then (recur_Right.j4 k x3 x81 x79 x80 x81 false y0 y1 y2 y3 y4 y5 y6 ((rd_T91 x79 x81).f0) ((rd_T91 x79 x81).f1)) else (recur_Right.j4 k x3 x81 x79 x80 x81 (((rd_T91 x79 x81).f1) != 0) y0 y1 y2 y3 y4 y5 y6 ((rd_T91 x79 x81).f0) ((rd_T91 x79 x81).f1))))))) else (none)) else (none)) else (some true)
def recur_Right.j4:Nat→Bool→Int→List (S91)→Int→Int→Bool→Int→Int→Int→Int→List Int→List Int→List (S91)→Int→Int→Option (Bool)
 | 0,_,_,_,_,_,_,_,_,_,_,_,_,_,_,_=>none
 | k + 1,x3,x4,x79,x80,x81,x112,y0,y1,y2,y3,y4,y5,y6,y7,y8=>if x112=true then (some false) else (if x4 > 0 then (if 0≤(wrap64 (x4 - 1)) then (if (wrap64 (x4 - 1)) < (y6.length:Int) then ((recur_order.f ((rd_T91 y6 (wrap64 (x4 - 1))).f0) ((rd_T91 y6 (wrap64 (x4 - 1))).f1) y7 y8).bind fun t117=>(if t117 ≥ 0 then (some false) else (recur_Right.l0 k x3 x79 x80 (wrap64 (x81 + 1)) y0 y1 y2 y3 y4 y5 y6))) else (none)) else (none)) else (recur_Right.l0 k x3 x79 x80 (wrap64 (x81 + 1)) y0 y1 y2 y3 y4 y5 y6))
end
def recur_Right.f (k:Nat) (a0_0 a0_1:Int) (a0_2 a0_3:Int) (l0_4 l0_5:List Int) (l0_6:List (S91)):Option (Bool):=if a0_0=3 then (recur_Right.j0 k true a0_0 a0_1 a0_2 a0_3 l0_4 l0_5 l0_6) else (recur_Right.j0 k (a0_0 == 4) a0_0 a0_1 a0_2 a0_3 l0_4 l0_5 l0_6)
def recur_Right.T11:Bool×List (List Nat×List Nat):=(true,[([],[]),([0],[0]),([1],[1]),([2],[2]),([3,2],[2,3]),([2],[2]),([5,2],[2,5]),([4,6,2],[2,4,6]),([7,2],[2,7]),([2],[2]),([8,9,2,2],[2,8,9]),([10,2],[2,10]),([2,11],[2,11])])
def recur_Right.B11:List Nat:=[0,1,3,7,15,7,39,127,255,7,1023,2047,4095]
theorem recur_Right.tab11:rtab .any (opsOf Tryz.f32 11)=recur_Right.T11:=by kernel_rfl
theorem recur_Right.bits11:waitsOk recur_Right.T11.2 recur_Right.B11=true:=by kernel_rfl
set_option maxHeartbeats 8000000 in
set_option maxRecDepth 100000 in
theorem recur_Right.calls (k:Nat) (a0_0 a0_1:Int) (a0_2 a0_3:Int) (A0_4:Option Addr) (c0_4:Nat) (l0_4:List Int) (A0_5:Option Addr) (c0_5:Nat) (l0_5:List Int) (A0_6:Option Addr) (c0_6:Nat) (l0_6:List (S91)) (r:Bool) (w:World) (hr0_4:Kd.C (Kd.int .i64) w A0_4 l0_4.length l0_4) (hc0_4:l0_4.length≤c0_4) (hr0_5:Kd.C (Kd.int .i64) w A0_5 l0_5.length l0_5) (hc0_5:l0_5.length≤c0_5) (hr0_6:Kd.C k91 w A0_6 l0_6.length l0_6) (hc0_6:l0_6.length≤c0_6) (h:recur_Right.f k a0_0 a0_1 a0_2 a0_3 l0_4 l0_5 l0_6=some r) :
  Calls Tryz.prog 32 #[.agg #[.int .i64 a0_0,.int .i64 a0_1,.int .i64 a0_2,.int .i64 a0_3,.slice A0_4 l0_4.length c0_4,.slice A0_5 l0_5.length c0_5,.slice A0_6 l0_6.length c0_6]] w fun e w'=>e = .returned (.bool r)∧Below w.heap.size w w':=by
 have hu25:=Tryz.underlying25;have hu91:=Tryz.underlying91;have HR0_4:=Aside0.mk hr0_4;have HC0_4:=Aside0.mk hc0_4;clear hr0_4 hc0_4;have HR0_5:=Aside0.mk hr0_5;have HC0_5:=Aside0.mk hc0_5;clear hr0_5 hc0_5;have HR0_6:=Aside0.mk hr0_6;have HC0_6:=Aside0.mk hc0_6;clear hr0_6 hc0_6;have HB:=ad_ (Below.refl w.heap.size w);have H:(if a0_0=3 then (recur_Right.j0 k true a0_0 a0_1 a0_2 a0_3 l0_4 l0_5 l0_6) else (recur_Right.j0 k (a0_0 == 4) a0_0 a0_1 a0_2 a0_3 l0_4 l0_5 l0_6))=some r:=h;clear h;have HC2:=Aside0.mk H;clear H
 go_enter Tryz.func32,Tryz.ntmps32
 go_upto_region 1 with (first | ((with_reducible refine gate_dst (N:=1) rfl ?_);(try (refine gate_guard (by rfl) ?_;dsimp only));refine bx_ 1 25 ?_;intro gb108 hg w3 hbox hb;have BK108:=ad_ (hbox);have GW108:=gw_ w hg;have GE108:=GW108;replace HB:=hbb_ hb;clear hb hbox hg))
 (try simp only [Act.put,List.setIfInBounds_toArray,List.set_cons_zero,List.set_cons_succ])
 go_cut [3] (fun v3 wc=>∃ (kq:Nat) (x3_1:Bool),v3 = .bool x3_1∧Aside0 (recur_Right.j0 kq x3_1 a0_0 a0_1 a0_2 a0_3 l0_4 l0_5 l0_6=some r)∧Aside0 (kq≤k)∧Aside0 (wc.heap[gb108]? = some (.cells #[.int .i64 a0_0,.int .i64 a0_1,.int .i64 a0_2,.int .i64 a0_3,(.slice A0_4 l0_4.length c0_4),(.slice A0_5 l0_5.length c0_5),(.slice A0_6 l0_6.length c0_6)] 25 (0,0)))∧Aside0 (Below w.heap.size w wc))
 case first =>
  have H:=HC2.out;clear HC2
  replace H:=de_ H;rcases H with ⟨H,-,c4b0,c4b1⟩|⟨H,c4,c4b0,c4b1⟩
  ·(first | rw [c4b0] | (simp only [i64_w,i32_w];rw [c4b0]) | skip)
   have H':=ad_ H;clear H;have hcz5_:=cells7_ BK108.out
   go_wp2
   go_meet
   case rel=>exact ⟨_,(true),val_,H',⟨by first | omega | exact Nat.le_refl _⟩,⟨blo_ BK108.out⟩,⟨belg_⟩⟩
  ·(first | rw [c4b0] | (simp only [i64_w,i32_w];rw [c4b0]) | skip)
   have H':=ad_ H;clear H;have hcz6_:=cells7_ BK108.out
   go_wp2
   go_meet
   case rel=>exact ⟨_,((a0_0 == 4)),val_,H',⟨by first | omega | exact Nat.le_refl _⟩,⟨blo_ BK108.out⟩,⟨belg_⟩⟩
 case rest =>
  clear HC2;obtain ⟨kq,x3_1,rfl,HA,HJ1,BK108,HB⟩:=hcut
  cases kq with
  | zero=>exact absurd HA.out (by simp [recur_Right.j0])
  | succ kj1 =>
   have H:=HA.out;clear HA
   simp only [recur_Right.j0] at H
   have HC7:=Aside0.mk H;clear H
   go_upto_region 2 with (fail)
   go_cut [41] (fun v41 wc=>∃ (kq:Nat) (x41_6:Bool),v41 = .bool x41_6∧Aside0 (recur_Right.j1 kq x3_1 x41_6 a0_0 a0_1 a0_2 a0_3 l0_4 l0_5 l0_6=some r)∧Aside0 (kq≤kj1)∧Aside0 (wc.heap[gb108]? = some (.cells #[.int .i64 a0_0,.int .i64 a0_1,.int .i64 a0_2,.int .i64 a0_3,(.slice A0_4 l0_4.length c0_4),(.slice A0_5 l0_5.length c0_5),(.slice A0_6 l0_6.length c0_6)] 25 (0,0)))∧Aside0 (Below w.heap.size w wc))
   case first =>
    have H:=HC7.out;clear HC7
    replace H:=dc_ H;rcases H with ⟨H,c8b0⟩|⟨H,c8b0⟩
    ·(first | rw [c8b0] | (simp only [i64_w,i32_w];rw [c8b0]) | skip)
     have H':=ad_ H;clear H;have hcz9_:=cells7_ BK108.out
     go_wp2
     go_meet
     case rel=>exact ⟨_,(true),val_,H',⟨by have:=HJ1.out;first | omega | exact Nat.le_refl _⟩,⟨blo_ BK108.out⟩,⟨belg_⟩⟩
    ·(first | rw [c8b0] | (simp only [i64_w,i32_w];rw [c8b0]) | skip)
     replace H:=dg_ H;rcases H with ⟨H,c10b0⟩|⟨H,c10b0⟩
     ·have H':=ad_ H;clear H;have hcz11_:=cells7_ BK108.out
      go_wp2
      go_meet
      case rel=>exact ⟨_,(true),val_,H',⟨by have:=HJ1.out;first | omega | exact Nat.le_refl _⟩,⟨blo_ BK108.out⟩,⟨belg_⟩⟩
     ·replace H:=dc_ H;rcases H with ⟨H,c12b0⟩|⟨H,c12b0⟩
      ·have H':=ad_ H;clear H;have hcz13_:=cells7_ BK108.out
       go_wp2
       go_meet
       case rel=>exact ⟨_,(true),val_,H',⟨by have:=HJ1.out;first | omega | exact Nat.le_refl _⟩,⟨blo_ BK108.out⟩,⟨belg_⟩⟩
      ·replace H:=dg_ H;rcases H with ⟨H,c14b0⟩|⟨H,c14b0⟩
       ·have H':=ad_ H;clear H;have hcz15_:=cells7_ BK108.out
        go_wp2
        go_meet
        case rel=>exact ⟨_,(true),val_,H',⟨by have:=HJ1.out;first | omega | exact Nat.le_refl _⟩,⟨blo_ BK108.out⟩,⟨belg_⟩⟩
       ·replace H:=dc_ H;rcases H with ⟨H,c16b0⟩|⟨H,c16b0⟩
        ·have H':=ad_ H;clear H;have hcz17_:=cells7_ BK108.out
         go_wp2
         go_meet
         case rel=>exact ⟨_,(true),val_,H',⟨by have:=HJ1.out;first | omega | exact Nat.le_refl _⟩,⟨blo_ BK108.out⟩,⟨belg_⟩⟩
        ·have H':=ad_ H;clear H;have hcz18_:=cells7_ BK108.out
         go_wp2
         go_meet
         case rel=>exact ⟨_,(decide (a0_2 > 10000)),val_,H',⟨by have:=HJ1.out;first | omega | exact Nat.le_refl _⟩,⟨blo_ BK108.out⟩,⟨belg_⟩⟩
   case rest =>
    clear HC7;obtain ⟨kq,x41_6,rfl,HA,HJ6,BK108,HB⟩:=hcut
    cases kq with
    | zero=>exact absurd HA.out (by simp [recur_Right.j1])
    | succ kj6 =>
     have H:=HA.out;clear HA
     simp only [recur_Right.j1] at H
     replace H:=db_ H;rcases H with ⟨rfl,H⟩|⟨rfl,H⟩
     ·obtain rfl:=Option.some.inj H
      go_wp2
      go_ret
      exact ⟨ret_,belg_⟩
     ·have HC20:=Aside0.mk H;clear H
      go_upto_region 4 with (fail)
      go_cut [77] (fun v77 wc=>∃ (kq:Nat) (x77_19:Bool),v77 = .bool x77_19∧Aside0 (recur_Right.j2 kq x3_1 x77_19 a0_0 a0_1 a0_2 a0_3 l0_4 l0_5 l0_6=some r)∧Aside0 (kq≤kj6)∧Aside0 (wc.heap[gb108]? = some (.cells #[.int .i64 a0_0,.int .i64 a0_1,.int .i64 a0_2,.int .i64 a0_3,(.slice A0_4 l0_4.length c0_4),(.slice A0_5 l0_5.length c0_5),(.slice A0_6 l0_6.length c0_6)] 25 (0,0)))∧Aside0 (Below w.heap.size w wc))
      case first =>
       have H:=HC20.out;clear HC20
       replace H:=de_ H;rcases H with ⟨H,-,c21b0,c21b1⟩|⟨H,c21,c21b0,c21b1⟩
       ·(first | rw [c21b0] | (simp only [i64_w,i32_w];rw [c21b0]) | skip)
        obtain ⟨t109,A220,H⟩:=bnd_ H
        try dsimp only at H
        have A22:=ad_ A220;clear A220
        replace H:=db_ H;rcases H with ⟨rfl,H⟩|⟨rfl,H⟩
        ·obtain ⟨t110,A240,H⟩:=bnd_ H
         try dsimp only at H
         have A24:=ad_ A240;clear A240
         replace H:=db_ H;rcases H with ⟨rfl,H⟩|⟨rfl,H⟩
         ·replace H:=db_ H;rcases H with ⟨rfl,H⟩|⟨rfl,H⟩
          ·have H':=ad_ H;clear H;have hcz27_:=cells7_ BK108.out
           go_wp2_with (first | (go_at_call 52;(with_reducible refine (recur_rises.calls kj6 _ _ l0_4 1 12 true _ ?_ ?_ A22.out).mono ?_);(iterate 2 exact sc_);rintro e w' ⟨rfl,⟨nd,rfl⟩⟩) | (go_at_call 52;(with_reducible refine (recur_rises.calls kj6 _ _ l0_5 (-31) 31 true _ ?_ ?_ A24.out).mono ?_);exact cop_ (Kd.C_below HR0_5.out belg_);exact HC0_5.out;rintro e w' ⟨rfl,⟨nd,rfl⟩⟩))
           go_meet
           case rel=>exact ⟨_,(false),val_,H',⟨by have:=HJ1.out;have:=HJ6.out;first | omega | exact Nat.le_refl _⟩,⟨blo_ BK108.out⟩,⟨belg_⟩⟩
          ·have H':=ad_ H;clear H;have hcz28_:=cells7_ BK108.out
           go_wp2_with (first | (go_at_call 52;(with_reducible refine (recur_rises.calls kj6 _ _ l0_4 1 12 true _ ?_ ?_ A22.out).mono ?_);(iterate 2 exact sc_);rintro e w' ⟨rfl,⟨nd,rfl⟩⟩) | (go_at_call 52;(with_reducible refine (recur_rises.calls kj6 _ _ l0_5 (-31) 31 true _ ?_ ?_ A24.out).mono ?_);exact cop_ (Kd.C_below HR0_5.out belg_);exact HC0_5.out;rintro e w' ⟨rfl,⟨nd,rfl⟩⟩))
           go_meet
           case rel=>exact ⟨_,(decide ((l0_5.length:Int) > 0)),val_,H',⟨by have:=HJ1.out;have:=HJ6.out;first | omega | exact Nat.le_refl _⟩,⟨blo_ BK108.out⟩,⟨belg_⟩⟩
         ·have H':=ad_ H;clear H;have hcz29_:=cells7_ BK108.out
          go_wp2_with (first | (go_at_call 52;(with_reducible refine (recur_rises.calls kj6 _ _ l0_4 1 12 true _ ?_ ?_ A22.out).mono ?_);(iterate 2 exact sc_);rintro e w' ⟨rfl,⟨nd,rfl⟩⟩) | (go_at_call 52;(with_reducible refine (recur_rises.calls kj6 _ _ l0_5 (-31) 31 false _ ?_ ?_ A24.out).mono ?_);exact cop_ (Kd.C_below HR0_5.out belg_);exact HC0_5.out;rintro e w' ⟨rfl,⟨nd,rfl⟩⟩))
          go_meet
          case rel=>exact ⟨_,(true),val_,H',⟨by have:=HJ1.out;have:=HJ6.out;first | omega | exact Nat.le_refl _⟩,⟨blo_ BK108.out⟩,⟨belg_⟩⟩
        ·have H':=ad_ H;clear H;have hcz30_:=cells7_ BK108.out
         go_wp2_with (first | (go_at_call 52;(with_reducible refine (recur_rises.calls kj6 _ _ l0_4 1 12 false _ ?_ ?_ A22.out).mono ?_);(iterate 2 exact sc_);rintro e w' ⟨rfl,⟨nd,rfl⟩⟩))
         go_meet
         case rel=>exact ⟨_,(true),val_,H',⟨by have:=HJ1.out;have:=HJ6.out;first | omega | exact Nat.le_refl _⟩,⟨blo_ BK108.out⟩,⟨belg_⟩⟩
       ·(first | rw [c21b0] | (simp only [i64_w,i32_w];rw [c21b0]) | skip)
        obtain ⟨t111,A310,H⟩:=bnd_ H
        try dsimp only at H
        have A31:=ad_ A310;clear A310
        replace H:=db_ H;rcases H with ⟨rfl,H⟩|⟨rfl,H⟩
        ·replace H:=de_ H;rcases H with ⟨H,-,c33b0,c33b1⟩|⟨H,c33,c33b0,c33b1⟩
         ·obtain ⟨t112,A340,H⟩:=bnd_ H
          try dsimp only at H
          have A34:=ad_ A340;clear A340
          replace H:=db_ H;rcases H with ⟨rfl,H⟩|⟨rfl,H⟩
          ·obtain ⟨t113,A360,H⟩:=bnd_ H
           try dsimp only at H
           have A36:=ad_ A360;clear A360
           replace H:=db_ H;rcases H with ⟨rfl,H⟩|⟨rfl,H⟩
           ·replace H:=db_ H;rcases H with ⟨rfl,H⟩|⟨rfl,H⟩
            ·have H':=ad_ H;clear H;have hcz39_:=cells7_ BK108.out
             go_wp2_with (first | (go_at_call 26;(with_reducible refine (when_Right.calls a0_3 true _ A31.out).mono ?_);rintro e w' ⟨rfl,⟨nd,rfl⟩⟩) | (go_at_call 52;(with_reducible refine (recur_rises.calls kj6 _ _ l0_4 1 12 true _ ?_ ?_ A34.out).mono ?_);exact cop_ (Kd.C_below HR0_4.out belg_);exact HC0_4.out;rintro e w' ⟨rfl,⟨nd,rfl⟩⟩) | (go_at_call 52;(with_reducible refine (recur_rises.calls kj6 _ _ l0_5 (-31) 31 true _ ?_ ?_ A36.out).mono ?_);exact cop_ (Kd.C_below HR0_5.out belg_);exact HC0_5.out;rintro e w' ⟨rfl,⟨nd,rfl⟩⟩))
             go_meet
             case rel=>exact ⟨_,(false),val_,H',⟨by have:=HJ1.out;have:=HJ6.out;first | omega | exact Nat.le_refl _⟩,⟨blo_ BK108.out⟩,⟨belg_⟩⟩
            ·have H':=ad_ H;clear H;have hcz40_:=cells7_ BK108.out
             go_wp2_with (first | (go_at_call 26;(with_reducible refine (when_Right.calls a0_3 true _ A31.out).mono ?_);rintro e w' ⟨rfl,⟨nd,rfl⟩⟩) | (go_at_call 52;(with_reducible refine (recur_rises.calls kj6 _ _ l0_4 1 12 true _ ?_ ?_ A34.out).mono ?_);exact cop_ (Kd.C_below HR0_4.out belg_);exact HC0_4.out;rintro e w' ⟨rfl,⟨nd,rfl⟩⟩) | (go_at_call 52;(with_reducible refine (recur_rises.calls kj6 _ _ l0_5 (-31) 31 true _ ?_ ?_ A36.out).mono ?_);exact cop_ (Kd.C_below HR0_5.out belg_);exact HC0_5.out;rintro e w' ⟨rfl,⟨nd,rfl⟩⟩))
             go_meet
             case rel=>exact ⟨_,(decide ((l0_5.length:Int) > 0)),val_,H',⟨by have:=HJ1.out;have:=HJ6.out;first | omega | exact Nat.le_refl _⟩,⟨blo_ BK108.out⟩,⟨belg_⟩⟩
           ·have H':=ad_ H;clear H;have hcz41_:=cells7_ BK108.out
            go_wp2_with (first | (go_at_call 26;(with_reducible refine (when_Right.calls a0_3 true _ A31.out).mono ?_);rintro e w' ⟨rfl,⟨nd,rfl⟩⟩) | (go_at_call 52;(with_reducible refine (recur_rises.calls kj6 _ _ l0_4 1 12 true _ ?_ ?_ A34.out).mono ?_);exact cop_ (Kd.C_below HR0_4.out belg_);exact HC0_4.out;rintro e w' ⟨rfl,⟨nd,rfl⟩⟩) | (go_at_call 52;(with_reducible refine (recur_rises.calls kj6 _ _ l0_5 (-31) 31 false _ ?_ ?_ A36.out).mono ?_);exact cop_ (Kd.C_below HR0_5.out belg_);exact HC0_5.out;rintro e w' ⟨rfl,⟨nd,rfl⟩⟩))
            go_meet
            case rel=>exact ⟨_,(true),val_,H',⟨by have:=HJ1.out;have:=HJ6.out;first | omega | exact Nat.le_refl _⟩,⟨blo_ BK108.out⟩,⟨belg_⟩⟩
          ·have H':=ad_ H;clear H;have hcz42_:=cells7_ BK108.out
           go_wp2_with (first | (go_at_call 26;(with_reducible refine (when_Right.calls a0_3 true _ A31.out).mono ?_);rintro e w' ⟨rfl,⟨nd,rfl⟩⟩) | (go_at_call 52;(with_reducible refine (recur_rises.calls kj6 _ _ l0_4 1 12 false _ ?_ ?_ A34.out).mono ?_);exact cop_ (Kd.C_below HR0_4.out belg_);exact HC0_4.out;rintro e w' ⟨rfl,⟨nd,rfl⟩⟩))
           go_meet
           case rel=>exact ⟨_,(true),val_,H',⟨by have:=HJ1.out;have:=HJ6.out;first | omega | exact Nat.le_refl _⟩,⟨blo_ BK108.out⟩,⟨belg_⟩⟩
         ·have H':=ad_ H;clear H;have hcz43_:=cells7_ BK108.out
          go_wp2_with (first | (go_at_call 26;(with_reducible refine (when_Right.calls a0_3 true _ A31.out).mono ?_);rintro e w' ⟨rfl,⟨nd,rfl⟩⟩))
          go_meet
          case rel=>exact ⟨_,(true),val_,H',⟨by have:=HJ1.out;have:=HJ6.out;first | omega | exact Nat.le_refl _⟩,⟨blo_ BK108.out⟩,⟨belg_⟩⟩
        ·have H':=ad_ H;clear H;have hcz44_:=cells7_ BK108.out
         go_wp2_with (first | (go_at_call 26;(with_reducible refine (when_Right.calls a0_3 false _ A31.out).mono ?_);rintro e w' ⟨rfl,⟨nd,rfl⟩⟩))
         go_meet
         case rel=>exact ⟨_,(true),val_,H',⟨by have:=HJ1.out;have:=HJ6.out;first | omega | exact Nat.le_refl _⟩,⟨blo_ BK108.out⟩,⟨belg_⟩⟩
      case rest =>
       clear HC20;obtain ⟨kq,x77_19,rfl,HA,HJ19,BK108,HB⟩:=hcut
       cases kq with
       | zero=>exact absurd HA.out (by simp [recur_Right.j2])
       | succ kj19 =>
        have H:=HA.out;clear HA
        simp only [recur_Right.j2] at H
        replace H:=db_ H;rcases H with ⟨rfl,H⟩|⟨rfl,H⟩
        ·obtain rfl:=Option.some.inj H
         go_wp2
         go_ret
         exact ⟨ret_,belg_⟩
        ·have H':=ad_ H;clear H;have hcz46_:=cells7_ BK108.out
         go_wp2
         go_loopg [81] kj19 (fun kq v81 w'=>∃ (x81_4:Int),v81 = .int .i64 x81_4∧Aside0 (recur_Right.l0 kq x3_1 l0_6 (l0_6.length:Int) x81_4 a0_0 a0_1 a0_2 a0_3 l0_4 l0_5 l0_6=some r)∧Aside0 (kq≤kj19)∧Aside0 (w'.heap[gb108]? = some (.cells #[.int .i64 a0_0,.int .i64 a0_1,.int .i64 a0_2,.int .i64 a0_3,(.slice A0_4 l0_4.length c0_4),(.slice A0_5 l0_5.length c0_5),(.slice A0_6 l0_6.length c0_6)] 25 (0,0)))∧Aside0 (Below w.heap.size w w'))
         case atStart=>exact ⟨(0),val_,H',⟨Nat.le_refl _⟩,⟨blo_ BK108.out⟩,⟨belg_⟩⟩
         case round =>
          clear H';clear hcz46_;obtain ⟨x81_4,rfl,HA,HK4,BK108,HB⟩:=hrel
          cases gk with
          | zero=>exact absurd HA.out (by simp [recur_Right.l0])
          | succ k4 =>
           have H:=HA.out;clear HA
           simp only [recur_Right.l0] at H
           replace H:=dc_ H;rcases H with ⟨H,c47b0⟩|⟨H,c47b0⟩
           ·replace H:=ind_ H;obtain ⟨c48b0,H⟩:=H
            replace H:=ind_ H;obtain ⟨c49b0,H⟩:=H;have HC50:=Aside0.mk H;clear H;have p114:0≤(x81_4:Int):=dec_;have q114:x81_4 < (l0_6.length:Int):=dec_;obtain ⟨ad114,e114,hx114_0,hx114_1⟩:=at_T91 HR0_6.out x81_4 p114 q114
            cases e114
            replace hx114_0:=(HB.out.cell (World.block_lt_of_cell? w _ hx114_0)).trans hx114_0;replace hx114_1:=(HB.out.cell (World.block_lt_of_cell? w _ hx114_1)).trans hx114_1;replace p114:=eq_true p114;replace q114:=eq_true q114
            go_upto_region 9 with (first | ((with_reducible refine gate_dst (N:=5) rfl ?_);(try (refine gate_guard (by rfl) ?_;dsimp only));refine bx_ 5 91 ?_;intro gb115 hg w51 hbox hb;have BK115:=ad_ (hbox);have GW115:=gw_ w hg;have GE115:=GW115;replace HB:=hbb_ hb;have NB108_115:=nlt_ hg BK108;have NB115_108:=ngt_ hg BK108;replace BK108:=bkb_ BK108 hb;clear hb hbox hg;have hnb52:=NB115_108.out;have hnc52:=NB108_115.out;have hcz53_:=cells2_ BK115.out))
            (try simp only [Act.put,List.setIfInBounds_toArray,List.set_cons_zero,List.set_cons_succ])
            go_cut [112] (fun v112 wc=>∃ (kq:Nat) (x112_49:Bool),v112 = .bool x112_49∧Aside0 (recur_Right.j4 kq x3_1 x81_4 l0_6 (l0_6.length:Int) x81_4 x112_49 a0_0 a0_1 a0_2 a0_3 l0_4 l0_5 l0_6 ((rd_T91 l0_6 x81_4).f0) ((rd_T91 l0_6 x81_4).f1)=some r)∧Aside0 (kq≤k4)∧Aside0 (wc.heap[gb108]? = some (.cells #[.int .i64 a0_0,.int .i64 a0_1,.int .i64 a0_2,.int .i64 a0_3,(.slice A0_4 l0_4.length c0_4),(.slice A0_5 l0_5.length c0_5),(.slice (some ad114) l0_6.length c0_6)] 25 (0,0)))∧Aside0 (wc.heap[gb115]? = some (.cells #[.int .i64 ((rd_T91 l0_6 x81_4).f0),.int .i64 ((rd_T91 l0_6 x81_4).f1)] 91 (0,0)))∧Aside0 (Below w.heap.size w wc))
            case first =>
             have H:=HC50.out;clear HC50
             replace H:=dc_ H;rcases H with ⟨H,c54b0⟩|⟨H,c54b0⟩
             ·(first | rw [c54b0] | (simp only [i64_w,i32_w];rw [c54b0]) | skip)
              have H':=ad_ H;clear H;have hnb55:=NB115_108.out;have hnc55:=NB108_115.out;have hcz56_:=cells2_ BK115.out
              go_wp2
              go_meet
              case rel=>exact ⟨_,(true),val_,H',⟨by have:=HJ1.out;have:=HJ6.out;have:=HJ19.out;have:=HK4.out;first | omega | exact Nat.le_refl _⟩,⟨blf_ BK108.out⟩,⟨put_ BK115⟩,⟨belg_⟩⟩
             ·(first | rw [c54b0] | (simp only [i64_w,i32_w];rw [c54b0]) | skip)
              replace H:=dg_ H;rcases H with ⟨H,c57b0⟩|⟨H,c57b0⟩
              ·have H':=ad_ H;clear H;have hnb58:=NB115_108.out;have hnc58:=NB108_115.out;have hcz59_:=cells2_ BK115.out
               go_wp2
               go_meet
               case rel=>exact ⟨_,(true),val_,H',⟨by have:=HJ1.out;have:=HJ6.out;have:=HJ19.out;have:=HK4.out;first | omega | exact Nat.le_refl _⟩,⟨blf_ BK108.out⟩,⟨put_ BK115⟩,⟨belg_⟩⟩
              ·replace H:=dc_ H;rcases H with ⟨H,c60b0⟩|⟨H,c60b0⟩
               ·have H':=ad_ H;clear H;have hnb61:=NB115_108.out;have hnc61:=NB108_115.out;have hcz62_:=cells2_ BK115.out
                go_wp2
                go_meet
                case rel=>exact ⟨_,(true),val_,H',⟨by have:=HJ1.out;have:=HJ6.out;have:=HJ19.out;have:=HK4.out;first | omega | exact Nat.le_refl _⟩,⟨blf_ BK108.out⟩,⟨put_ BK115⟩,⟨belg_⟩⟩
               ·replace H:=dg_ H;rcases H with ⟨H,c63b0⟩|⟨H,c63b0⟩
                ·have H':=ad_ H;clear H;have hnb64:=NB115_108.out;have hnc64:=NB108_115.out;have hcz65_:=cells2_ BK115.out
                 go_wp2
                 go_meet
                 case rel=>exact ⟨_,(true),val_,H',⟨by have:=HJ1.out;have:=HJ6.out;have:=HJ19.out;have:=HK4.out;first | omega | exact Nat.le_refl _⟩,⟨blf_ BK108.out⟩,⟨put_ BK115⟩,⟨belg_⟩⟩
                ·replace H:=db_ H;rcases H with ⟨rfl,H⟩|⟨rfl,H⟩
                 ·have H':=ad_ H;clear H;have hnb67:=NB115_108.out;have hnc67:=NB108_115.out;have hcz68_:=cells2_ BK115.out
                  go_wp2
                  go_meet
                  case rel=>exact ⟨_,(false),val_,H',⟨by have:=HJ1.out;have:=HJ6.out;have:=HJ19.out;have:=HK4.out;first | omega | exact Nat.le_refl _⟩,⟨blf_ BK108.out⟩,⟨put_ BK115⟩,⟨belg_⟩⟩
                 ·have H':=ad_ H;clear H;have hnb69:=NB115_108.out;have hnc69:=NB108_115.out;have hcz70_:=cells2_ BK115.out
                  go_wp2
                  go_meet
                  case rel=>exact ⟨_,((((rd_T91 l0_6 x81_4).f1) != 0)),val_,H',⟨by have:=HJ1.out;have:=HJ6.out;have:=HJ19.out;have:=HK4.out;first | omega | exact Nat.le_refl _⟩,⟨blf_ BK108.out⟩,⟨put_ BK115⟩,⟨belg_⟩⟩
            case rest =>
             clear HC50;clear c47b0 c48b0 c49b0 hcz53_;(try clear hx114_0);(try clear hx114_1);(try clear p114);(try clear q114);obtain ⟨kq,x112_49,rfl,HA,HJ49,BK108,BK115,HB⟩:=hcut
             cases kq with
             | zero=>exact absurd HA.out (by simp [recur_Right.j4])
             | succ kj49 =>
              have H:=HA.out;clear HA
              simp only [recur_Right.j4] at H
              replace H:=db_ H;rcases H with ⟨rfl,H⟩|⟨rfl,H⟩
              ·obtain rfl:=Option.some.inj H
               go_wp2
               go_ret
               exact ⟨ret_,belg_⟩
              ·replace H:=dg_ H;rcases H with ⟨H,c72b0⟩|⟨H,c72b0⟩
               ·obtain ⟨ji73,hji73⟩:∃ j_:Int,(wrap64 (x81_4 - 1))=j_:=⟨_,rfl⟩
                replace H:(if 0≤(ji73) then (if (ji73) < (l0_6.length:Int) then ((recur_order.f ((rd_T91 l0_6 (ji73)).f0) ((rd_T91 l0_6 (ji73)).f1) ((rd_T91 l0_6 x81_4).f0) ((rd_T91 l0_6 x81_4).f1)).bind fun t117=>(if t117 ≥ 0 then (some false) else (recur_Right.l0 kj49 x3_1 l0_6 (l0_6.length:Int) (wrap64 (x81_4 + 1)) a0_0 a0_1 a0_2 a0_3 l0_4 l0_5 l0_6))) else (none)) else (none))=some r:=by first | (rw [hji73] at H;exact H) | (simp only [hji73] at H ⊢;exact H)
                have hji73w:(IntKind.i64.wrap (x81_4 - 1))=ji73:=(i64_w _).trans hji73
                replace H:=ind_ H;obtain ⟨c74b0,H⟩:=H
                replace H:=ind_ H;obtain ⟨c75b0,H⟩:=H;obtain ⟨t117,A760,H⟩:=bnd_ H
                try dsimp only at H
                have A76:=ad_ A760;clear A760
                replace H:=dh_ H;rcases H with ⟨H,c77b0⟩|⟨H,c77b0⟩
                ·obtain rfl:=Option.some.inj H
                 try go_wp2
                 have n0_:=ad_ (blk_drew BK108.out);have n1_:=ad_ (blk_drew BK115.out);have n2_:=ad_ (below_drew1 HB.out);clear BK108;clear BK115;clear HB;have BK108:=n0_;have BK115:=n1_;have HB:=n2_;clear n0_ n1_ n2_;have p116:0≤((ji73):Int):=dec_;have q116:(ji73) < (l0_6.length:Int):=dec_;obtain ⟨ad116,e116,hx116_0,hx116_1⟩:=at_T91 HR0_6.out (ji73) p116 q116;have hw116_1:=hx116_1;have hw116_0:=hx116_0;obtain rfl:ad114=ad116:=(by injection e116);replace hx116_0:=(HB.out.cell (World.block_lt_of_cell? w _ hx116_0)).trans hx116_0;replace hx116_1:=(HB.out.cell (World.block_lt_of_cell? w _ hx116_1)).trans hx116_1;replace p116:=eq_true p116;replace q116:=eq_true q116
                 refine start_ (n:=13) (S:=fun w'=>w'.cell? ⟨gb108,0,none⟩=some (.int .i64 a0_0)∧w'.cell? ⟨gb108,1,none⟩=some (.int .i64 a0_1)∧w'.cell? ⟨gb108,2,none⟩=some (.int .i64 a0_2)∧w'.cell? ⟨gb108,3,none⟩=some (.int .i64 a0_3)∧w'.cell? ⟨gb108,4,none⟩=some (.slice A0_4 l0_4.length c0_4)∧w'.cell? ⟨gb108,5,none⟩=some (.slice A0_5 l0_5.length c0_5)∧w'.cell? ⟨gb108,6,none⟩=some (.slice (some ad114) l0_6.length c0_6)∧w'.cell? ⟨gb115,0,none⟩=some (.int .i64 ((rd_T91 l0_6 x81_4).f0))∧w'.cell? ⟨gb115,1,none⟩=some (.int .i64 ((rd_T91 l0_6 x81_4).f1))∧w'.cell? (ad114.add (((ji73)).toNat * 2))=some (.int .i64 ((rd_T91 l0_6 (ji73)).f0))∧w'.cell? ⟨(ad114.add (((ji73)).toNat * 2)).block,(ad114.add (((ji73)).toNat * 2)).off + 1,none⟩=some (.int .i64 ((rd_T91 l0_6 (ji73)).f1))) (ds:=[]) (.replicate 13 false) (by kernel_rfl) rfl rfl ⟨bc_ BK108,bc_ BK108,bc_ BK108,bc_ BK108,bc_ BK108,bc_ BK108,bc_ BK108,bc_ BK115,bc_ BK115,((HB.out.cell (World.block_lt_of_cell? w _ hw116_0)).trans hw116_0),((HB.out.cell (World.block_lt_of_cell? w _ hw116_1)).trans hw116_1)⟩ (fun hHeld=>?_);refine with_tabW recur_Right.tab11 recur_Right.bits11 (fun HT_ HW_=>?_)
                 generalize wc.drew=w78 at BK108 BK115 HB hx116_0 hx116_1 hHeld ⊢
                 refine pu_ 13 1 0 113 ?_;refine pu_ 13 3 1 114 ?_;refine pu_ 13 7 2 115 ?_;refine pu_ 13 15 3 116 ?_;refine pu_ 13 47 5 118 ?_;refine pu_ 13 111 6 119 ?_;refine tk_ 13 127 4 117 ?_;refine pu_ 13 255 7 120 ?_;refine tk_ 13 511 8 121 ?_;refine tk_ 13 1023 9 122 ?_
                 refine one_ (i:=10) (N:=some 123) #[true,true,true,true,true,true,true,true,true,true,true,false,false] rfl rfl (one_of HT_.out (by kernel_rfl)) (by decide) (fun K hK=>?_)
                 refine goes_ Tryz.func53 (by kernel_rfl) rfl #[.agg #[.int .i64 ((rd_T91 l0_6 (ji73)).f0),.int .i64 ((rd_T91 l0_6 (ji73)).f1)],.agg #[.int .i64 ((rd_T91 l0_6 x81_4).f0),.int .i64 ((rd_T91 l0_6 x81_4).f1)]] (by rfl) rfl rfl (by (try simp only [List.map_toArray,List.map_cons,List.map_nil]);first | done | (simp only [hji73];rfl) | rfl | (simp only [List.length_drop,List.length_take];rfl)) ?_
                 with_reducible refine (recur_order.calls ((rd_T91 l0_6 (ji73)).f0) ((rd_T91 l0_6 (ji73)).f1) ((rd_T91 l0_6 x81_4).f0) ((rd_T91 l0_6 x81_4).f1) t117 _ A76.out).mono ?_
                 rintro e w79 ⟨rfl,hb⟩
                 refine ⟨_,rfl,?_⟩
                 have n0_:=bkb_ BK108 hb;have n1_:=bkb_ BK115 hb;have n2_:=hbb_ hb;clear BK108;clear BK115;clear HB;have BK108:=n0_;have BK115:=n1_;have HB:=n2_;clear n0_ n1_ n2_
                 (try clear hb)
                 refine hK.out _ _ ⟨bc_ BK108,bc_ BK108,bc_ BK108,bc_ BK108,bc_ BK108,bc_ BK108,bc_ BK108,bc_ BK115,bc_ BK115,((HB.out.cell (World.block_lt_of_cell? w _ hw116_0)).trans hw116_0),((HB.out.cell (World.block_lt_of_cell? w _ hw116_1)).trans hw116_1)⟩ (fun hHeld=>?_)
                 clear hK K
                 refine norm_ (a':=?_) ?_ ?_
                 rotate_left
                 ·show Act.put _ (some 123) _=_
                  simp only [Act.put,List.setIfInBounds_toArray,List.set_cons_zero,List.set_cons_succ,i64_w,i32_w]
                  rfl
                 refine pu_ 13 4095 11 124 ?_;refine pu_ 13 8191 12 125 ?_
                 refine done_ (done_of HT_.out (by kernel_rfl)) ?_
                 try go_wp2
                 go_ret
                 exact ⟨by first | rfl | (simp [errW_none,errW_some] <;> rfl) | (simp only [← hji73];first | rfl | (simp [errW_none,errW_some] <;> rfl)) | (simp [*,errW_none,errW_some] <;> rfl),belg_⟩
                ·have H':=ad_ H;clear H
                 try go_wp2
                 have n0_:=ad_ (blk_drew BK108.out);have n1_:=ad_ (blk_drew BK115.out);have n2_:=ad_ (below_drew1 HB.out);clear BK108;clear BK115;clear HB;have BK108:=n0_;have BK115:=n1_;have HB:=n2_;clear n0_ n1_ n2_;have p116:0≤((ji73):Int):=dec_;have q116:(ji73) < (l0_6.length:Int):=dec_;obtain ⟨ad116,e116,hx116_0,hx116_1⟩:=at_T91 HR0_6.out (ji73) p116 q116;have hw116_1:=hx116_1;have hw116_0:=hx116_0;obtain rfl:ad114=ad116:=(by injection e116);replace hx116_0:=(HB.out.cell (World.block_lt_of_cell? w _ hx116_0)).trans hx116_0;replace hx116_1:=(HB.out.cell (World.block_lt_of_cell? w _ hx116_1)).trans hx116_1;replace p116:=eq_true p116;replace q116:=eq_true q116
                 refine start_ (n:=13) (S:=fun w'=>w'.cell? ⟨gb108,0,none⟩=some (.int .i64 a0_0)∧w'.cell? ⟨gb108,1,none⟩=some (.int .i64 a0_1)∧w'.cell? ⟨gb108,2,none⟩=some (.int .i64 a0_2)∧w'.cell? ⟨gb108,3,none⟩=some (.int .i64 a0_3)∧w'.cell? ⟨gb108,4,none⟩=some (.slice A0_4 l0_4.length c0_4)∧w'.cell? ⟨gb108,5,none⟩=some (.slice A0_5 l0_5.length c0_5)∧w'.cell? ⟨gb108,6,none⟩=some (.slice (some ad114) l0_6.length c0_6)∧w'.cell? ⟨gb115,0,none⟩=some (.int .i64 ((rd_T91 l0_6 x81_4).f0))∧w'.cell? ⟨gb115,1,none⟩=some (.int .i64 ((rd_T91 l0_6 x81_4).f1))∧w'.cell? (ad114.add (((ji73)).toNat * 2))=some (.int .i64 ((rd_T91 l0_6 (ji73)).f0))∧w'.cell? ⟨(ad114.add (((ji73)).toNat * 2)).block,(ad114.add (((ji73)).toNat * 2)).off + 1,none⟩=some (.int .i64 ((rd_T91 l0_6 (ji73)).f1))) (ds:=[]) (.replicate 13 false) (by kernel_rfl) rfl rfl ⟨bc_ BK108,bc_ BK108,bc_ BK108,bc_ BK108,bc_ BK108,bc_ BK108,bc_ BK108,bc_ BK115,bc_ BK115,((HB.out.cell (World.block_lt_of_cell? w _ hw116_0)).trans hw116_0),((HB.out.cell (World.block_lt_of_cell? w _ hw116_1)).trans hw116_1)⟩ (fun hHeld=>?_);refine with_tabW recur_Right.tab11 recur_Right.bits11 (fun HT_ HW_=>?_)
                 generalize wc.drew=w80 at BK108 BK115 HB hx116_0 hx116_1 hHeld ⊢
                 refine pu_ 13 1 0 113 ?_;refine pu_ 13 3 1 114 ?_;refine pu_ 13 7 2 115 ?_;refine pu_ 13 15 3 116 ?_;refine pu_ 13 47 5 118 ?_;refine pu_ 13 111 6 119 ?_;refine tk_ 13 127 4 117 ?_;refine pu_ 13 255 7 120 ?_;refine tk_ 13 511 8 121 ?_;refine tk_ 13 1023 9 122 ?_
                 refine one_ (i:=10) (N:=some 123) #[true,true,true,true,true,true,true,true,true,true,true,false,false] rfl rfl (one_of HT_.out (by kernel_rfl)) (by decide) (fun K hK=>?_)
                 refine goes_ Tryz.func53 (by kernel_rfl) rfl #[.agg #[.int .i64 ((rd_T91 l0_6 (ji73)).f0),.int .i64 ((rd_T91 l0_6 (ji73)).f1)],.agg #[.int .i64 ((rd_T91 l0_6 x81_4).f0),.int .i64 ((rd_T91 l0_6 x81_4).f1)]] (by rfl) rfl rfl (by (try simp only [List.map_toArray,List.map_cons,List.map_nil]);first | done | (simp only [hji73];rfl) | rfl | (simp only [List.length_drop,List.length_take];rfl)) ?_
                 with_reducible refine (recur_order.calls ((rd_T91 l0_6 (ji73)).f0) ((rd_T91 l0_6 (ji73)).f1) ((rd_T91 l0_6 x81_4).f0) ((rd_T91 l0_6 x81_4).f1) t117 _ A76.out).mono ?_
                 rintro e w81 ⟨rfl,hb⟩
                 refine ⟨_,rfl,?_⟩
                 have n0_:=bkb_ BK108 hb;have n1_:=bkb_ BK115 hb;have n2_:=hbb_ hb;clear BK108;clear BK115;clear HB;have BK108:=n0_;have BK115:=n1_;have HB:=n2_;clear n0_ n1_ n2_
                 (try clear hb)
                 refine hK.out _ _ ⟨bc_ BK108,bc_ BK108,bc_ BK108,bc_ BK108,bc_ BK108,bc_ BK108,bc_ BK108,bc_ BK115,bc_ BK115,((HB.out.cell (World.block_lt_of_cell? w _ hw116_0)).trans hw116_0),((HB.out.cell (World.block_lt_of_cell? w _ hw116_1)).trans hw116_1)⟩ (fun hHeld=>?_)
                 clear hK K
                 refine norm_ (a':=?_) ?_ ?_
                 rotate_left
                 ·show Act.put _ (some 123) _=_
                  simp only [Act.put,List.setIfInBounds_toArray,List.set_cons_zero,List.set_cons_succ,i64_w,i32_w]
                  rfl
                 refine pu_ 13 4095 11 124 ?_;refine pu_ 13 8191 12 125 ?_
                 refine done_ (done_of HT_.out (by kernel_rfl)) ?_
                 try go_wp2
                 go_roundg kj49
                 case measure=>have:=HJ1.out;have:=HJ6.out;have:=HJ19.out;have:=HK4.out;have:=HJ49.out;omega
                 case rel=>exact ⟨(wrap64 (x81_4 + 1)),val_,H',⟨by have:=HJ1.out;have:=HJ6.out;have:=HJ19.out;have:=HK4.out;have:=HJ49.out;omega⟩,⟨blo_ BK108.out⟩,⟨belg_⟩⟩
               ·have H':=ad_ H;clear H
                try go_wp2
                have n0_:=ad_ (blk_drew BK108.out);have n1_:=ad_ (blk_drew BK115.out);have n2_:=ad_ (below_drew1 HB.out);clear BK108;clear BK115;clear HB;have BK108:=n0_;have BK115:=n1_;have HB:=n2_;clear n0_ n1_ n2_
                refine start_ (n:=13) (S:=fun w'=>True) (ds:=[]) (.replicate 13 false) (by kernel_rfl) rfl rfl trivial (fun hHeld=>?_);refine with_tabW recur_Right.tab11 recur_Right.bits11 (fun HT_ HW_=>?_)
                generalize wc.drew=w82 at BK108 BK115 HB hHeld ⊢
                refine pu_ 13 1 0 113 ?_;refine pu_ 13 3 1 114 ?_;refine pu_ 13 7 2 115 ?_;refine pn_ 13 15 3 116 ?_;refine pn_ 13 31 4 117 ?_;refine pn_ 13 63 5 118 ?_;refine pn_ 13 127 6 119 ?_;refine pn_ 13 255 7 120 ?_;refine pn_ 13 511 8 121 ?_;refine pn_ 13 1023 9 122 ?_;refine pn_ 13 2047 10 123 ?_;refine pn_ 13 4095 11 124 ?_;refine pu_ 13 8191 12 125 ?_
                refine done_ (done_of HT_.out (by kernel_rfl)) ?_
                try go_wp2
                go_roundg kj49
                case measure=>have:=HJ1.out;have:=HJ6.out;have:=HJ19.out;have:=HK4.out;have:=HJ49.out;omega
                case rel=>exact ⟨(wrap64 (x81_4 + 1)),val_,H',⟨by have:=HJ1.out;have:=HJ6.out;have:=HJ19.out;have:=HK4.out;have:=HJ49.out;omega⟩,⟨blo_ BK108.out⟩,⟨belg_⟩⟩
           ·obtain rfl:=Option.some.inj H
            go_wp2
            go_ret
            exact ⟨ret_,belg_⟩
end Go.Proofs.YtkgkblmeafhkfaaGreat.PH

-- Written by a program of the session (wip/tools).
import Derived.Test.YtkgkblmeafhkfaaGreatPHx0
import Derived.Test.YtkgkblmeafhkfaaGreatPHx21
namespace Go.Proofs.YtkgkblmeafhkfaaGreat.PH
open Go.RowKit Go.Proofs.YtkgkblmeafhkfaaGreatW.PrintWords Go.Proofs.YtkgkblmeafhkfaaGreatW.PrintLast Go.Proofs.YtkgkblmeafhkfaaGreatW.PrintMore
attribute [local go_sem] max2_int min2_int max_two min_two max_three min_three max_four min_four   -- for this text's walks alone
set_option linter.unusedVariables false
set_option linter.unusedSimpArgs false

mutual
def pr21_nth.l0:Nat→Int→Int→Int→Option (Bool)
 | 0,_,_,_=>none
 | k + 1,x2,x7,x8=>if x8 ≥ 1 then (pr21_nth.l0 k x2 (wrap64 (x7 + 1)) (wrap64 (x8 - 7))) else (some (x7 == x2))
def pr21_nth.l1:Nat→Int→Int→Int→Int→Option (Bool)
 | 0,_,_,_,_=>none
 | k + 1,x1,x2,x7,x9=>if x9≤x1 then (pr21_nth.l1 k x1 x2 (wrap64 (x7 + 1)) (wrap64 (x9 + 7))) else (some (x7 == (wrap64 (-x2))))
end
def pr21_nth.f (k:Nat) (a0 a1 a2:Int):Option (Bool):=if a2=0 then (some true) else (if a2 > 0 then (pr21_nth.l0 k a2 0 a0) else (pr21_nth.l1 k a1 a2 0 a0))
set_option maxHeartbeats 8000000 in
set_option maxRecDepth 100000 in
theorem pr21_nth.calls (k:Nat) (a0 a1 a2:Int) (r:Bool) (w:World) (h:pr21_nth.f k a0 a1 a2=some r) :
  Calls Tryz.prog 97 #[.int .i64 a0,.int .i64 a1,.int .i64 a2] w fun e w'=>e = .returned (.bool r)∧Drawn0 w w':=by
 have H:(if a2=0 then (some true) else (if a2 > 0 then (pr21_nth.l0 k a2 0 a0) else (pr21_nth.l1 k a1 a2 0 a0)))=some r:=h;clear h
 replace H:=de_ H;rcases H with ⟨H,-,c4b0,c4b1⟩|⟨H,c4,c4b0,c4b1⟩
 ·obtain rfl:=Option.some.inj H
  go_enter Tryz.func97,Tryz.ntmps97
  go_wp2
  go_ret
  exact ⟨val_,by repeat (first | exact Drawn0.refl _ | apply Drawn0.step)⟩
 ·replace H:=dg_ H;rcases H with ⟨H,c5b0⟩|⟨H,c5b0⟩
  ·have H':=ad_ H;clear H
   go_enter Tryz.func97,Tryz.ntmps97
   go_wp2
   go_loopg [7,8] k (fun kq v7 v8 w'=>∃ (x7_1:Int) (x8_1:Int),v7 = .int .i64 x7_1∧v8 = .int .i64 x8_1∧Aside0 (pr21_nth.l0 kq a2 x7_1 x8_1=some r)∧Aside0 (kq≤k)∧Drawn0 w w')
   case atStart=>exact ⟨(0),(a0),val_,val_,H',⟨Nat.le_refl _⟩,by repeat (first | exact Drawn0.refl _ | apply Drawn0.step)⟩
   case round =>
    clear H';clear c4b0 c4b1 c5b0;(try clear c4);obtain ⟨x7_1,x8_1,rfl,rfl,HA,HK1,⟨m1,rfl⟩⟩:=hrel
    cases gk with
    | zero=>exact absurd HA.out (by simp [pr21_nth.l0])
    | succ k1 =>
     have H:=HA.out;clear HA
     simp only [pr21_nth.l0] at H
     replace H:=dh_ H;rcases H with ⟨H,c6b0⟩|⟨H,c6b0⟩
     ·have H':=ad_ H;clear H
      go_wp2
      go_roundg k1
      case measure=>have:=HK1.out;omega
      case rel=>exact ⟨(wrap64 (x7_1 + 1)),(wrap64 (x8_1 - 7)),val_,val_,H',⟨by have:=HK1.out;omega⟩,by repeat (first | exact Drawn0.refl _ | apply Drawn0.step)⟩
     ·obtain rfl:=Option.some.inj H
      go_wp2
      go_ret
      exact ⟨val_,by repeat (first | exact Drawn0.refl _ | apply Drawn0.step)⟩
  ·have H':=ad_ H;clear H
   go_enter Tryz.func97,Tryz.ntmps97
   go_wp2
   go_loopg [7,9] k (fun kq v7 v9 w'=>∃ (x7_1:Int) (x9_1:Int),v7 = .int .i64 x7_1∧v9 = .int .i64 x9_1∧Aside0 (pr21_nth.l1 kq a1 a2 x7_1 x9_1=some r)∧Aside0 (kq≤k)∧Drawn0 w w')
   case atStart=>exact ⟨(0),(a0),val_,val_,H',⟨Nat.le_refl _⟩,by repeat (first | exact Drawn0.refl _ | apply Drawn0.step)⟩
   case round =>
    clear H';clear c4b0 c4b1 c5b0;(try clear c4);obtain ⟨x7_1,x9_1,rfl,rfl,HA,HK1,⟨m1,rfl⟩⟩:=hrel
    cases gk with
    | zero=>exact absurd HA.out (by simp [pr21_nth.l1])
    | succ k1 =>
     have H:=HA.out;clear HA
     simp only [pr21_nth.l1] at H
     replace H:=dc_ H;rcases H with ⟨H,c7b0⟩|⟨H,c7b0⟩
     ·have H':=ad_ H;clear H
      go_wp2
      go_roundg k1
      case measure=>have:=HK1.out;omega
      case rel=>exact ⟨(wrap64 (x7_1 + 1)),(wrap64 (x9_1 + 7)),val_,val_,H',⟨by have:=HK1.out;omega⟩,by repeat (first | exact Drawn0.refl _ | apply Drawn0.step)⟩
     ·obtain rfl:=Option.some.inj H
      go_wp2
      go_ret
      exact ⟨val_,by repeat (first | exact Drawn0.refl _ | apply Drawn0.step)⟩
mutual
def pr21_month.j0:Nat→Int→Int→Int→Int→Bool→Int→Int→Int→Int→List Int→List Int→List (S92)→Option (Bool)
 | 0,_,_,_,_,_,_,_,_,_,_,_,_=>none
 | k + 1,x3,x4,x5,x13,x27,y0,y1,y2,y3,y4,y5,y6=>if x27=true then (some (x3 == x5)) else (if (y5.length:Int) > 0 then ((pr21_has.f k y5 x3).bind fun t374=>(if t374=true then (pr21_month.j1 k x3 x4 x13 false y0 y1 y2 y3 y4 y5 y6) else ((pr21_has.f k y5 (wrap64 ((wrap64 (x3 - 1)) - x13))).bind fun t375=>(pr21_month.j1 k x3 x4 x13 (!t375) y0 y1 y2 y3 y4 y5 y6)))) else (pr21_month.j1 k x3 x4 x13 false y0 y1 y2 y3 y4 y5 y6))
def pr21_month.j1:Nat→Int→Int→Int→Bool→Int→Int→Int→Int→List Int→List Int→List (S92)→Option (Bool)
 | 0,_,_,_,_,_,_,_,_,_,_,_=>none
 | k + 1,x3,x4,x13,x51,y0,y1,y2,y3,y4,y5,y6=>if x51=true then (some false) else (pr21_month.l0 k x3 x4 x13 0 y0 y1 y2 y3 y4 y5 y6)
def pr21_month.l0:Nat→Int→Int→Int→Int→Int→Int→Int→Int→List Int→List Int→List (S92)→Option (Bool)
 | 0,_,_,_,_,_,_,_,_,_,_,_=>none
 | k + 1,x3,x4,x13,x14,y0,y1,y2,y3,y4,y5,y6=>if x14 < (y6.length:Int) then (if 0≤x14 then (if ((rd_T92 y6 x14).f0)=x4 then ((pr21_nth.f k x3 x13 ((rd_T92 y6 x14).f1)).bind fun t378=>(if t378=true then (some true) else (pr21_month.l0 k x3 x4 x13 (wrap64 (x14 + 1)) y0 y1 y2 y3 y4 y5 y6))) else (pr21_month.l0 k x3 x4 x13 (wrap64 (x14 + 1)) y0 y1 y2 y3 y4 y5 y6)) else (none)) else (some ((y6.length:Int) == 0))
end
def pr21_month.f (k:Nat) (a0_0 a0_1:Int) (a0_2 a0_3:Int) (l0_4 l0_5:List Int) (l0_6:List (S92)) (a1 a2:Int) (a3 a4 a5:Int):Option (Bool):=(pr12_Month.f k a1 a2).bind fun t373=>(if (l0_5.length:Int)=0 then (pr21_month.j0 k a3 a4 a5 t373 ((l0_6.length:Int) == 0) a0_0 a0_1 a0_2 a0_3 l0_4 l0_5 l0_6) else (pr21_month.j0 k a3 a4 a5 t373 false a0_0 a0_1 a0_2 a0_3 l0_4 l0_5 l0_6))
set_option maxHeartbeats 8000000 in
set_option maxRecDepth 100000 in
theorem pr21_month.calls (k:Nat) (a0_0 a0_1:Int) (a0_2 a0_3:Int) (A0_4:Option Addr) (c0_4:Nat) (l0_4:List Int) (A0_5:Option Addr) (c0_5:Nat) (l0_5:List Int) (A0_6:Option Addr) (c0_6:Nat) (l0_6:List (S92)) (a1 a2:Int) (a3 a4 a5:Int) (r:Bool) (w:World) (hr0_4:Kd.C (Kd.int .i64) w A0_4 l0_4.length l0_4) (hc0_4:l0_4.length≤c0_4) (hr0_5:Kd.C (Kd.int .i64) w A0_5 l0_5.length l0_5) (hc0_5:l0_5.length≤c0_5) (hr0_6:Kd.C k92 w A0_6 l0_6.length l0_6) (hc0_6:l0_6.length≤c0_6) (h:pr21_month.f k a0_0 a0_1 a0_2 a0_3 l0_4 l0_5 l0_6 a1 a2 a3 a4 a5=some r) :
  Calls Tryz.prog 68 #[.agg #[.int .i64 a0_0,.int .i64 a0_1,.int .i64 a0_2,.int .i64 a0_3,.slice A0_4 l0_4.length c0_4,.slice A0_5 l0_5.length c0_5,.slice A0_6 l0_6.length c0_6],.int .i64 a1,.int .i64 a2,.int .i64 a3,.int .i64 a4,.int .i64 a5] w fun e w'=>e = .returned (.bool r)∧Below w.heap.size w w':=by
 have hu34:=Tryz.underlying34;have HR0_4:=Aside0.mk hr0_4;have HC0_4:=Aside0.mk hc0_4;clear hr0_4 hc0_4;have HR0_5:=Aside0.mk hr0_5;have HC0_5:=Aside0.mk hc0_5;clear hr0_5 hc0_5;have HR0_6:=Aside0.mk hr0_6;have HC0_6:=Aside0.mk hc0_6;clear hr0_6 hc0_6;have HB:=ad_ (Below.refl w.heap.size w);have H:((pr12_Month.f k a1 a2).bind fun t373=>(if (l0_5.length:Int)=0 then (pr21_month.j0 k a3 a4 a5 t373 ((l0_6.length:Int) == 0) a0_0 a0_1 a0_2 a0_3 l0_4 l0_5 l0_6) else (pr21_month.j0 k a3 a4 a5 t373 false a0_0 a0_1 a0_2 a0_3 l0_4 l0_5 l0_6)))=some r:=h;clear h;obtain ⟨t373,A70,H⟩:=bnd_ H
 try dsimp only at H
 have A7:=ad_ A70;clear A70;have HC8:=Aside0.mk H;clear H
 go_enter Tryz.func68,Tryz.ntmps68
 go_upto_region 2 with (first | ((with_reducible refine gate_dst (N:=6) rfl ?_);(try (refine gate_guard (by rfl) ?_;dsimp only));refine bx_ 6 34 ?_;intro gb372 hg w9 hbox hb;have BK372:=ad_ (hbox);have GW372:=gw_ w hg;have GE372:=GW372;replace HB:=hbb_ hb;clear hb hbox hg) | ((with_reducible refine gate_callee (f:=96) rfl ?_);refine gl_ 17 Tryz.func96 (pr12_Month.calls k a1 a2 t373 _ A7.out) ?_;rintro e w' ⟨rfl,⟨nd,rfl⟩⟩;refine ⟨_,rfl,?_⟩))
 (try simp only [Act.put,List.setIfInBounds_toArray,List.set_cons_zero,List.set_cons_succ])
 go_cut [27] (fun v27 wc=>∃ (kq:Nat) (x27_7:Bool),v27 = .bool x27_7∧Aside0 (pr21_month.j0 kq a3 a4 a5 t373 x27_7 a0_0 a0_1 a0_2 a0_3 l0_4 l0_5 l0_6=some r)∧Aside0 (kq≤k)∧Aside0 (wc.heap[gb372]? = some (.cells #[.int .i64 a0_0,.int .i64 a0_1,.int .i64 a0_2,.int .i64 a0_3,(.slice A0_4 l0_4.length c0_4),(.slice A0_5 l0_5.length c0_5),(.slice A0_6 l0_6.length c0_6)] 34 (0,0)))∧Aside0 (Below w.heap.size w wc))
 case first =>
  have H:=HC8.out;clear HC8
  replace H:=de_ H;rcases H with ⟨H,-,c10b0,c10b1⟩|⟨H,c10,c10b0,c10b1⟩
  ·(first | rw [c10b0] | (simp only [i64_w,i32_w];rw [c10b0]) | skip)
   have H':=ad_ H;clear H;have hcz11_:=cells7_ BK372.out
   go_wp2
   go_meet
   case rel=>exact ⟨_,(((l0_6.length:Int) == 0)),val_,H',⟨by first | omega | exact Nat.le_refl _⟩,⟨blo_ BK372.out⟩,⟨belg_⟩⟩
  ·have c10b2:¬(l0_5 = []):=fun h_=>c10 (by rw [h_];rfl)
   (first | rw [c10b0] | (simp only [i64_w,i32_w];rw [c10b0]) | skip)
   have H':=ad_ H;clear H;have hcz12_:=cells7_ BK372.out
   go_wp2
   go_meet
   case rel=>exact ⟨_,(false),val_,H',⟨by first | omega | exact Nat.le_refl _⟩,⟨blo_ BK372.out⟩,⟨belg_⟩⟩
 case rest =>
  clear HC8;obtain ⟨kq,x27_7,rfl,HA,HJ7,BK372,HB⟩:=hcut
  cases kq with
  | zero=>exact absurd HA.out (by simp [pr21_month.j0])
  | succ kj7 =>
   have H:=HA.out;clear HA
   simp only [pr21_month.j0] at H
   replace H:=db_ H;rcases H with ⟨rfl,H⟩|⟨rfl,H⟩
   ·obtain rfl:=Option.some.inj H
    go_wp2
    go_ret
    exact ⟨ret_,belg_⟩
   ·have HC14:=Aside0.mk H;clear H
    go_upto_region 4 with (fail)
    go_cut [51] (fun v51 wc=>∃ (kq:Nat) (x51_13:Bool),v51 = .bool x51_13∧Aside0 (pr21_month.j1 kq a3 a4 t373 x51_13 a0_0 a0_1 a0_2 a0_3 l0_4 l0_5 l0_6=some r)∧Aside0 (kq≤kj7)∧Aside0 (wc.heap[gb372]? = some (.cells #[.int .i64 a0_0,.int .i64 a0_1,.int .i64 a0_2,.int .i64 a0_3,(.slice A0_4 l0_4.length c0_4),(.slice A0_5 l0_5.length c0_5),(.slice A0_6 l0_6.length c0_6)] 34 (0,0)))∧Aside0 (Below w.heap.size w wc))
    case first =>
     have H:=HC14.out;clear HC14
     by_cases c15:(l0_5.length:Int) > 0
     ·rw [if_pos c15] at H;have c15b0:decide (0 < (l0_5.length:Int))=true:=decide_eq_true c15;have c15b1:decide (0 < l0_5.length)=true:=decide_eq_true (by omega);clear c15
      (first | rw [c15b0] | (simp only [i64_w,i32_w];rw [c15b0]) | skip)
      obtain ⟨t374,A160,H⟩:=bnd_ H
      try dsimp only at H
      have A16:=ad_ A160;clear A160
      replace H:=db_ H;rcases H with ⟨rfl,H⟩|⟨rfl,H⟩
      ·have H':=ad_ H;clear H;have hcz18_:=cells7_ BK372.out
       go_wp2_with (first | (go_at_call 66;(with_reducible refine (pr21_has.calls kj7 _ _ l0_5 a3 true _ ?_ ?_ A16.out).mono ?_);(iterate 2 exact sc_);rintro e w' ⟨rfl,⟨nd,rfl⟩⟩))
       go_meet
       case rel=>exact ⟨_,(false),val_,H',⟨by have:=HJ7.out;first | omega | exact Nat.le_refl _⟩,⟨blo_ BK372.out⟩,⟨belg_⟩⟩
      ·obtain ⟨t375,A190,H⟩:=bnd_ H
       try dsimp only at H
       have A19:=ad_ A190;clear A190;have H':=ad_ H;clear H;have hcz20_:=cells7_ BK372.out
       go_wp2_with (first | (go_at_call 66;(with_reducible refine (pr21_has.calls kj7 _ _ l0_5 a3 false _ ?_ ?_ A16.out).mono ?_);(iterate 2 exact sc_);rintro e w' ⟨rfl,⟨nd,rfl⟩⟩) | (go_at_call 66;(with_reducible refine (pr21_has.calls kj7 _ _ l0_5 (wrap64 ((wrap64 (a3 - 1)) - t373)) t375 _ ?_ ?_ A19.out).mono ?_);exact cop_ (Kd.C_below HR0_5.out belg_);exact HC0_5.out;rintro e w' ⟨rfl,⟨nd,rfl⟩⟩))
       go_meet
       case rel=>exact ⟨_,(!t375),val_,H',⟨by have:=HJ7.out;first | omega | exact Nat.le_refl _⟩,⟨blo_ BK372.out⟩,⟨belg_⟩⟩
     ·rw [if_neg c15] at H;have c15b0:decide (0 < (l0_5.length:Int))=false:=decide_eq_false c15;have c15b1:decide (0 < l0_5.length)=false:=decide_eq_false (by omega);clear c15
      (first | rw [c15b0] | (simp only [i64_w,i32_w];rw [c15b0]) | skip)
      have H':=ad_ H;clear H;have hcz21_:=cells7_ BK372.out
      go_wp2
      go_meet
      case rel=>exact ⟨_,(false),val_,H',⟨by have:=HJ7.out;first | omega | exact Nat.le_refl _⟩,⟨blo_ BK372.out⟩,⟨belg_⟩⟩
    case rest =>
     clear HC14;obtain ⟨kq,x51_13,rfl,HA,HJ13,BK372,HB⟩:=hcut
     cases kq with
     | zero=>exact absurd HA.out (by simp [pr21_month.j1])
     | succ kj13 =>
      have H:=HA.out;clear HA
      simp only [pr21_month.j1] at H
      replace H:=db_ H;rcases H with ⟨rfl,H⟩|⟨rfl,H⟩
      ·obtain rfl:=Option.some.inj H
       go_wp2
       go_ret
       exact ⟨ret_,belg_⟩
      ·have H':=ad_ H;clear H
       go_wp2
       go_loopg [14] kj13 (fun kq v14 w'=>∃ (x14_3:Int),v14 = .int .i64 x14_3∧Aside0 (pr21_month.l0 kq a3 a4 t373 x14_3 a0_0 a0_1 a0_2 a0_3 l0_4 l0_5 l0_6=some r)∧Aside0 (kq≤kj13)∧Aside0 (w'.heap[gb372]? = some (.cells #[.int .i64 a0_0,.int .i64 a0_1,.int .i64 a0_2,.int .i64 a0_3,(.slice A0_4 l0_4.length c0_4),(.slice A0_5 l0_5.length c0_5),(.slice A0_6 l0_6.length c0_6)] 34 (0,0)))∧Aside0 (Below w.heap.size w w'))
       case atStart=>exact ⟨(0),val_,H',⟨Nat.le_refl _⟩,⟨blo_ BK372.out⟩,⟨belg_⟩⟩
       case round =>
        clear H';obtain ⟨x14_3,rfl,HA,HK3,BK372,HB⟩:=hrel
        cases gk with
        | zero=>exact absurd HA.out (by simp [pr21_month.l0])
        | succ k3 =>
         have H:=HA.out;clear HA
         simp only [pr21_month.l0] at H
         replace H:=dc_ H;rcases H with ⟨H,c23b0⟩|⟨H,c23b0⟩
         ·replace H:=ind_ H;obtain ⟨c24b0,H⟩:=H
          replace H:=de_ H;rcases H with ⟨H,-,c25b0,c25b1⟩|⟨H,c25,c25b0,c25b1⟩
          ·obtain ⟨t378,A260,H⟩:=bnd_ H
           try dsimp only at H
           have A26:=ad_ A260;clear A260
           replace H:=db_ H;rcases H with ⟨rfl,H⟩|⟨rfl,H⟩
           ·obtain rfl:=Option.some.inj H;have hcz28_:=cells7_ BK372.out;have p376:0≤(x14_3:Int):=dec_;have q376:x14_3 < (l0_6.length:Int):=dec_;obtain ⟨ad376,e376,hx376_0,hx376_1⟩:=at_T92 HR0_6.out x14_3 p376 q376
            cases e376
            replace hx376_0:=(HB.out.cell (World.block_lt_of_cell? w _ hx376_0)).trans hx376_0;replace hx376_1:=(HB.out.cell (World.block_lt_of_cell? w _ hx376_1)).trans hx376_1;replace p376:=eq_true p376;replace q376:=eq_true q376;have p377:0≤(x14_3:Int):=dec_;have q377:x14_3 < (l0_6.length:Int):=dec_;obtain ⟨ad377,e377,hx377_0,hx377_1⟩:=at_T92 HR0_6.out x14_3 p377 q377;obtain rfl:ad376=ad377:=(by injection e377);replace hx377_0:=(HB.out.cell (World.block_lt_of_cell? w _ hx377_0)).trans hx377_0;replace hx377_1:=(HB.out.cell (World.block_lt_of_cell? w _ hx377_1)).trans hx377_1;replace p377:=eq_true p377;replace q377:=eq_true q377
            go_wp2_with (first | (go_at_call 97;(with_reducible refine (pr21_nth.calls k3 a3 t373 ((rd_T92 l0_6 x14_3).f1) true _ A26.out).mono ?_);rintro e w' ⟨rfl,⟨nd,rfl⟩⟩))
            go_ret
            exact ⟨ret_,belg_⟩
           ·have H':=ad_ H;clear H;have hcz29_:=cells7_ BK372.out;have p376:0≤(x14_3:Int):=dec_;have q376:x14_3 < (l0_6.length:Int):=dec_;obtain ⟨ad376,e376,hx376_0,hx376_1⟩:=at_T92 HR0_6.out x14_3 p376 q376
            cases e376
            replace hx376_0:=(HB.out.cell (World.block_lt_of_cell? w _ hx376_0)).trans hx376_0;replace hx376_1:=(HB.out.cell (World.block_lt_of_cell? w _ hx376_1)).trans hx376_1;replace p376:=eq_true p376;replace q376:=eq_true q376;have p377:0≤(x14_3:Int):=dec_;have q377:x14_3 < (l0_6.length:Int):=dec_;obtain ⟨ad377,e377,hx377_0,hx377_1⟩:=at_T92 HR0_6.out x14_3 p377 q377;obtain rfl:ad376=ad377:=(by injection e377);replace hx377_0:=(HB.out.cell (World.block_lt_of_cell? w _ hx377_0)).trans hx377_0;replace hx377_1:=(HB.out.cell (World.block_lt_of_cell? w _ hx377_1)).trans hx377_1;replace p377:=eq_true p377;replace q377:=eq_true q377
            go_wp2_with (first | (go_at_call 97;(with_reducible refine (pr21_nth.calls k3 a3 t373 ((rd_T92 l0_6 x14_3).f1) false _ A26.out).mono ?_);rintro e w' ⟨rfl,⟨nd,rfl⟩⟩))
            go_roundg k3
            case measure=>have:=HJ7.out;have:=HJ13.out;have:=HK3.out;omega
            case rel=>exact ⟨(wrap64 (x14_3 + 1)),val_,H',⟨by have:=HJ7.out;have:=HJ13.out;have:=HK3.out;omega⟩,⟨blo_ BK372.out⟩,⟨belg_⟩⟩
          ·have H':=ad_ H;clear H;have hcz30_:=cells7_ BK372.out;have p376:0≤(x14_3:Int):=dec_;have q376:x14_3 < (l0_6.length:Int):=dec_;obtain ⟨ad376,e376,hx376_0,hx376_1⟩:=at_T92 HR0_6.out x14_3 p376 q376
           cases e376
           replace hx376_0:=(HB.out.cell (World.block_lt_of_cell? w _ hx376_0)).trans hx376_0;replace hx376_1:=(HB.out.cell (World.block_lt_of_cell? w _ hx376_1)).trans hx376_1;replace p376:=eq_true p376;replace q376:=eq_true q376
           go_wp2
           go_roundg k3
           case measure=>have:=HJ7.out;have:=HJ13.out;have:=HK3.out;omega
           case rel=>exact ⟨(wrap64 (x14_3 + 1)),val_,H',⟨by have:=HJ7.out;have:=HJ13.out;have:=HK3.out;omega⟩,⟨blo_ BK372.out⟩,⟨belg_⟩⟩
         ·obtain rfl:=Option.some.inj H;have hcz31_:=cells7_ BK372.out
          go_wp2
          go_ret
          exact ⟨ret_,belg_⟩
end Go.Proofs.YtkgkblmeafhkfaaGreat.PH

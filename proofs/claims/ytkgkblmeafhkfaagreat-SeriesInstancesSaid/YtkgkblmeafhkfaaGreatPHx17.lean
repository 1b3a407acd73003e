-- Written by a program of the session (wip/tools).
import Derived.Test.YtkgkblmeafhkfaaGreatPHx0
namespace Go.Proofs.YtkgkblmeafhkfaaGreat.PH
open Go.RowKit Go.Proofs.YtkgkblmeafhkfaaGreatW.PrintWords Go.Proofs.YtkgkblmeafhkfaaGreatW.PrintLast Go.Proofs.YtkgkblmeafhkfaaGreatW.PrintMore
attribute [local go_sem] max2_int min2_int max_two min_two max_three min_three max_four min_four   -- for this text's walks alone
set_option linter.unusedVariables false
set_option linter.unusedSimpArgs false

mutual
def pr21_list.l0:Nat→List Int→Int→Int→Int→Option (Bool)
 | 0,_,_,_,_=>none
 | k + 1,x0,x1,x2,x7=>if x7 < (x0.length:Int) then (if 0≤x7 then (if (rd x0 x7)=0 then (pr21_list.j1 k x0 x1 x2 x7 true) else (if (rd x0 x7) < x1 then (pr21_list.j1 k x0 x1 x2 x7 true) else (pr21_list.j1 k x0 x1 x2 x7 (decide ((rd x0 x7) > x2))))) else (none)) else (some true)
def pr21_list.j1:Nat→List Int→Int→Int→Int→Bool→Option (Bool)
 | 0,_,_,_,_,_=>none
 | k + 1,x0,x1,x2,x7,x34=>if x34=true then (some false) else (if x7 > 0 then (if 0≤x7 then (if x7 < (x0.length:Int) then (if 0≤(wrap64 (x7 - 1)) then (if (wrap64 (x7 - 1)) < (x0.length:Int) then (if (rd x0 x7)≤(rd x0 (wrap64 (x7 - 1))) then (some false) else (pr21_list.l0 k x0 x1 x2 (wrap64 (x7 + 1)))) else (none)) else (none)) else (none)) else (none)) else (pr21_list.l0 k x0 x1 x2 (wrap64 (x7 + 1))))
end
def pr21_list.f (k:Nat) (l0:List Int) (a1 a2:Int):Option (Bool):=pr21_list.l0 k l0 a1 a2 0
set_option maxHeartbeats 8000000 in
set_option maxRecDepth 100000 in
theorem pr21_list.calls (k:Nat) (A0:Option Addr) (c0:Nat) (l0:List Int) (a1 a2:Int) (r:Bool) (w:World) (hr0:Kd.C (Kd.int .i64) w A0 l0.length l0) (hc0:l0.length≤c0) (h:pr21_list.f k l0 a1 a2=some r) :
  Calls Tryz.prog 54 #[.slice A0 l0.length c0,.int .i64 a1,.int .i64 a2] w fun e w'=>e = .returned (.bool r)∧Drawn0 w w':=by
 have HR0:=Aside0.mk hr0;have HC0:=Aside0.mk hc0;clear hr0 hc0;have H:(pr21_list.l0 k l0 a1 a2 0)=some r:=h;clear h;have H':=ad_ H;clear H
 go_enter Tryz.func54,Tryz.ntmps54
 go_wp2
 repeat (go_quiet (fail);try go_wp2)
 go_loopg [7] k (fun kq v7 w'=>∃ (x7_1:Int),v7 = .int .i64 x7_1∧Aside0 (pr21_list.l0 kq l0 a1 a2 x7_1=some r)∧Aside0 (kq≤k)∧Drawn0 w w')
 case atStart=>exact ⟨(0),val_,H',⟨Nat.le_refl _⟩,by repeat (first | exact Drawn0.refl _ | apply Drawn0.step)⟩
 case round =>
  clear H';obtain ⟨x7_1,rfl,HA,HK1,⟨m1,rfl⟩⟩:=hrel
  cases gk with
  | zero=>exact absurd HA.out (by simp [pr21_list.l0])
  | succ k1 =>
   have H:=HA.out;clear HA
   simp only [pr21_list.l0] at H
   replace H:=dc_ H;rcases H with ⟨H,c4b0⟩|⟨H,c4b0⟩
   ·have HC5:=Aside0.mk H;clear H
    go_upto_region 4 with (fail)
    repeat (go_quiet (fail);go_upto_region 4 with (fail))
    go_cut [34] (fun v34 wc=>∃ (kq:Nat) (x34_4:Bool),v34 = .bool x34_4∧Aside0 (pr21_list.j1 kq l0 a1 a2 x7_1 x34_4=some r)∧Aside0 (kq≤k1)∧Drawn0 w wc)
    case first =>
     have H:=HC5.out;clear HC5
     replace H:=ind_ H;obtain ⟨c6b0,H⟩:=H
     (first | rw [c6b0] | (simp only [i64_w,i32_w];rw [c6b0]) | skip)
     replace H:=de_ H;rcases H with ⟨H,-,c7b0,c7b1⟩|⟨H,c7,c7b0,c7b1⟩
     ·have H':=ad_ H;clear H;have p330:0≤(x7_1:Int):=dec_;have q330:x7_1 < (l0.length:Int):=dec_;obtain ⟨ad330,e330,hx330_0⟩:=Kd.at_int HR0.out x7_1 p330 q330
      cases e330
      replace p330:=eq_true p330;replace q330:=eq_true q330
      go_wp2
      repeat (go_quiet (fail);try go_wp2)
      go_meet
      case rel=>exact ⟨_,(true),val_,H',⟨by have:=HK1.out;first | omega | exact Nat.le_refl _⟩,by repeat (first | exact Drawn0.refl _ | apply Drawn0.step)⟩
     ·replace H:=dc_ H;rcases H with ⟨H,c8b0⟩|⟨H,c8b0⟩
      ·have H':=ad_ H;clear H;have p330:0≤(x7_1:Int):=dec_;have q330:x7_1 < (l0.length:Int):=dec_;obtain ⟨ad330,e330,hx330_0⟩:=Kd.at_int HR0.out x7_1 p330 q330
       cases e330
       replace p330:=eq_true p330;replace q330:=eq_true q330;have p331:0≤(x7_1:Int):=dec_;have q331:x7_1 < (l0.length:Int):=dec_;obtain ⟨ad331,e331,hx331_0⟩:=Kd.at_int HR0.out x7_1 p331 q331;obtain rfl:ad330=ad331:=(by injection e331);replace p331:=eq_true p331;replace q331:=eq_true q331
       go_wp2
       repeat (go_quiet (fail);try go_wp2)
       go_meet
       case rel=>exact ⟨_,(true),val_,H',⟨by have:=HK1.out;first | omega | exact Nat.le_refl _⟩,by repeat (first | exact Drawn0.refl _ | apply Drawn0.step)⟩
      ·have H':=ad_ H;clear H;have p330:0≤(x7_1:Int):=dec_;have q330:x7_1 < (l0.length:Int):=dec_;obtain ⟨ad330,e330,hx330_0⟩:=Kd.at_int HR0.out x7_1 p330 q330
       cases e330
       replace p330:=eq_true p330;replace q330:=eq_true q330;have p331:0≤(x7_1:Int):=dec_;have q331:x7_1 < (l0.length:Int):=dec_;obtain ⟨ad331,e331,hx331_0⟩:=Kd.at_int HR0.out x7_1 p331 q331;obtain rfl:ad330=ad331:=(by injection e331);replace p331:=eq_true p331;replace q331:=eq_true q331;have p332:0≤(x7_1:Int):=dec_;have q332:x7_1 < (l0.length:Int):=dec_;obtain ⟨ad332,e332,hx332_0⟩:=Kd.at_int HR0.out x7_1 p332 q332;obtain rfl:ad330=ad332:=(by injection e332);replace p332:=eq_true p332;replace q332:=eq_true q332
       go_wp2
       repeat (go_quiet (fail);try go_wp2)
       go_meet
       case rel=>exact ⟨_,(decide ((rd l0 x7_1) > a2)),val_,H',⟨by have:=HK1.out;first | omega | exact Nat.le_refl _⟩,by repeat (first | exact Drawn0.refl _ | apply Drawn0.step)⟩
    case rest =>
     clear HC5;clear c4b0;obtain ⟨kq,x34_4,rfl,HA,HJ4,⟨mc4,rfl⟩⟩:=hcut
     cases kq with
     | zero=>exact absurd HA.out (by simp [pr21_list.j1])
     | succ kj4 =>
      have H:=HA.out;clear HA
      simp only [pr21_list.j1] at H
      replace H:=db_ H;rcases H with ⟨rfl,H⟩|⟨rfl,H⟩
      ·obtain rfl:=Option.some.inj H
       go_wp2
       repeat (go_quiet (fail);try go_wp2)
       go_ret
       exact ⟨val_,by repeat (first | exact Drawn0.refl _ | apply Drawn0.step)⟩
      ·replace H:=dg_ H;rcases H with ⟨H,c10b0⟩|⟨H,c10b0⟩
       ·replace H:=ind_ H;obtain ⟨c11b0,H⟩:=H
        replace H:=ind_ H;obtain ⟨c12b0,H⟩:=H;obtain ⟨ji13,hji13⟩:∃ j_:Int,(wrap64 (x7_1 - 1))=j_:=⟨_,rfl⟩
        replace H:(if 0≤(ji13) then (if (ji13) < (l0.length:Int) then (if (rd l0 x7_1)≤(rd l0 (ji13)) then (some false) else (pr21_list.l0 kj4 l0 a1 a2 (wrap64 (x7_1 + 1)))) else (none)) else (none))=some r:=by first | (rw [hji13] at H;exact H) | (simp only [hji13] at H ⊢;exact H)
        have hji13w:(IntKind.i64.wrap (x7_1 - 1))=ji13:=(i64_w _).trans hji13
        replace H:=ind_ H;obtain ⟨c14b0,H⟩:=H
        replace H:=ind_ H;obtain ⟨c15b0,H⟩:=H
        replace H:=dc_ H;rcases H with ⟨H,c16b0⟩|⟨H,c16b0⟩
        ·obtain rfl:=Option.some.inj H;have p333:0≤(x7_1:Int):=dec_;have q333:x7_1 < (l0.length:Int):=dec_;obtain ⟨ad333,e333,hx333_0⟩:=Kd.at_int HR0.out x7_1 p333 q333
         cases e333
         replace p333:=eq_true p333;replace q333:=eq_true q333;have p334:0≤((ji13):Int):=dec_;have q334:(ji13) < (l0.length:Int):=dec_;obtain ⟨ad334,e334,hx334_0⟩:=Kd.at_int HR0.out (ji13) p334 q334;obtain rfl:ad333=ad334:=(by injection e334);replace p334:=eq_true p334;replace q334:=eq_true q334
         go_wp2
         repeat (go_quiet (fail);try go_wp2)
         go_ret
         exact ⟨by first | rfl | (simp;done) | (simp only [← hji13] <;> (first | rfl | simp)) | (simp [*];done),by repeat (first | exact Drawn0.refl _ | apply Drawn0.step)⟩
        ·have H':=ad_ H;clear H;have p333:0≤(x7_1:Int):=dec_;have q333:x7_1 < (l0.length:Int):=dec_;obtain ⟨ad333,e333,hx333_0⟩:=Kd.at_int HR0.out x7_1 p333 q333
         cases e333
         replace p333:=eq_true p333;replace q333:=eq_true q333;have p334:0≤((ji13):Int):=dec_;have q334:(ji13) < (l0.length:Int):=dec_;obtain ⟨ad334,e334,hx334_0⟩:=Kd.at_int HR0.out (ji13) p334 q334;obtain rfl:ad333=ad334:=(by injection e334);replace p334:=eq_true p334;replace q334:=eq_true q334
         go_wp2
         repeat (go_quiet (fail);try go_wp2)
         go_roundg kj4
         case measure=>have:=HK1.out;have:=HJ4.out;omega
         case rel=>exact ⟨(wrap64 (x7_1 + 1)),val_,H',⟨by have:=HK1.out;have:=HJ4.out;omega⟩,by repeat (first | exact Drawn0.refl _ | apply Drawn0.step)⟩
       ·have H':=ad_ H;clear H
        go_wp2
        repeat (go_quiet (fail);try go_wp2)
        go_roundg kj4
        case measure=>have:=HK1.out;have:=HJ4.out;omega
        case rel=>exact ⟨(wrap64 (x7_1 + 1)),val_,H',⟨by have:=HK1.out;have:=HJ4.out;omega⟩,by repeat (first | exact Drawn0.refl _ | apply Drawn0.step)⟩
   ·obtain rfl:=Option.some.inj H
    go_wp2
    repeat (go_quiet (fail);try go_wp2)
    go_ret
    exact ⟨val_,by repeat (first | exact Drawn0.refl _ | apply Drawn0.step)⟩
mutual
def pr21_week.l0:Nat→List (S92)→Bool→Int→Option (Bool)
 | 0,_,_,_=>none
 | k + 1,x0,x1,x5=>if x5 < (x0.length:Int) then (if 0≤x5 then (if ((rd_T92 x0 x5).f0) < 0 then (pr21_week.j1 k x0 x1 x5 true ((rd_T92 x0 x5).f0) ((rd_T92 x0 x5).f1)) else (if ((rd_T92 x0 x5).f0) > 6 then (pr21_week.j1 k x0 x1 x5 true ((rd_T92 x0 x5).f0) ((rd_T92 x0 x5).f1)) else (if ((rd_T92 x0 x5).f1) < (-5) then (pr21_week.j1 k x0 x1 x5 true ((rd_T92 x0 x5).f0) ((rd_T92 x0 x5).f1)) else (if ((rd_T92 x0 x5).f1) > 5 then (pr21_week.j1 k x0 x1 x5 true ((rd_T92 x0 x5).f0) ((rd_T92 x0 x5).f1)) else (if ((rd_T92 x0 x5).f1)=0 then (pr21_week.j1 k x0 x1 x5 false ((rd_T92 x0 x5).f0) ((rd_T92 x0 x5).f1)) else (pr21_week.j1 k x0 x1 x5 (!x1) ((rd_T92 x0 x5).f0) ((rd_T92 x0 x5).f1))))))) else (none)) else (some true)
def pr21_week.j1:Nat→List (S92)→Bool→Int→Bool→Int→Int→Option (Bool)
 | 0,_,_,_,_,_,_=>none
 | k + 1,x0,x1,x5,x43,y0,y1=>if x43=true then (some false) else (if x5 > 0 then (if 0≤(wrap64 (x5 - 1)) then (if (wrap64 (x5 - 1)) < (x0.length:Int) then (if ((rd_T92 x0 (wrap64 (x5 - 1))).f0) > y0 then (some false) else (if ((rd_T92 x0 (wrap64 (x5 - 1))).f0)=y0 then (if ((rd_T92 x0 (wrap64 (x5 - 1))).f1) ≥ y1 then (some false) else (pr21_week.l0 k x0 x1 (wrap64 (x5 + 1)))) else (pr21_week.l0 k x0 x1 (wrap64 (x5 + 1))))) else (none)) else (none)) else (pr21_week.l0 k x0 x1 (wrap64 (x5 + 1))))
end
def pr21_week.f (k:Nat) (l0:List (S92)) (a1:Bool):Option (Bool):=pr21_week.l0 k l0 a1 0
set_option maxHeartbeats 8000000 in
set_option maxRecDepth 100000 in
theorem pr21_week.calls (k:Nat) (A0:Option Addr) (c0:Nat) (l0:List (S92)) (a1 r:Bool) (w:World) (hr0:Kd.C k92 w A0 l0.length l0) (hc0:l0.length≤c0) (h:pr21_week.f k l0 a1=some r) :
  Calls Tryz.prog 55 #[.slice A0 l0.length c0,.bool a1] w fun e w'=>e = .returned (.bool r)∧Below w.heap.size w w':=by
 have hu92:=Tryz.underlying92;have HR0:=Aside0.mk hr0;have HC0:=Aside0.mk hc0;clear hr0 hc0;have HB:=ad_ (Below.refl w.heap.size w);have H:(pr21_week.l0 k l0 a1 0)=some r:=h;clear h;have H':=ad_ H;clear H
 go_enter Tryz.func55,Tryz.ntmps55
 go_wp2
 repeat (go_quiet (fail);try go_wp2)
 go_loopg [5] k (fun kq v5 w'=>∃ (x5_1:Int),v5 = .int .i64 x5_1∧Aside0 (pr21_week.l0 kq l0 a1 x5_1=some r)∧Aside0 (kq≤k)∧Aside0 (Below w.heap.size w w'))
 case atStart=>exact ⟨(0),val_,H',⟨Nat.le_refl _⟩,⟨bel_⟩⟩
 case round =>
  clear H';obtain ⟨x5_1,rfl,HA,HK1,HB⟩:=hrel
  cases gk with
  | zero=>exact absurd HA.out (by simp [pr21_week.l0])
  | succ k1 =>
   have H:=HA.out;clear HA
   simp only [pr21_week.l0] at H
   replace H:=dc_ H;rcases H with ⟨H,c3b0⟩|⟨H,c3b0⟩
   ·replace H:=ind_ H;obtain ⟨c4b0,H⟩:=H;have HC5:=Aside0.mk H;clear H;have p335:0≤(x5_1:Int):=dec_;have q335:x5_1 < (l0.length:Int):=dec_;obtain ⟨ad335,e335,hx335_0,hx335_1⟩:=at_T92 HR0.out x5_1 p335 q335
    cases e335
    replace hx335_0:=(HB.out.cell (World.block_lt_of_cell? w _ hx335_0)).trans hx335_0;replace hx335_1:=(HB.out.cell (World.block_lt_of_cell? w _ hx335_1)).trans hx335_1;replace p335:=eq_true p335;replace q335:=eq_true q335
    go_upto_region 5 with (first | ((with_reducible refine gate_dst (N:=6) rfl ?_);refine bx_ 6 92 ?_;intro gb336 hg w6 hbox hb;have BK336:=ad_ (hbox);have GW336:=gw_ w hg;have GE336:=GW336;replace HB:=hbb_ hb;clear hb hbox hg;have hcz7_:=cells2_ BK336.out))
    repeat (go_quiet (first | ((with_reducible refine gate_dst (N:=6) rfl ?_);refine bx_ 6 92 ?_;intro gb336 hg w6 hbox hb;have BK336:=ad_ (hbox);have GW336:=gw_ w hg;have GE336:=GW336;replace HB:=hbb_ hb;clear hb hbox hg;have hcz7_:=cells2_ BK336.out));go_upto_region 5 with (first | ((with_reducible refine gate_dst (N:=6) rfl ?_);refine bx_ 6 92 ?_;intro gb336 hg w6 hbox hb;have BK336:=ad_ (hbox);have GW336:=gw_ w hg;have GE336:=GW336;replace HB:=hbb_ hb;clear hb hbox hg;have hcz7_:=cells2_ BK336.out)))
    (try simp only [Act.put,List.setIfInBounds_toArray,List.set_cons_zero,List.set_cons_succ])
    go_cut [43] (fun v43 wc=>∃ (kq:Nat) (x43_4:Bool),v43 = .bool x43_4∧Aside0 (pr21_week.j1 kq l0 a1 x5_1 x43_4 ((rd_T92 l0 x5_1).f0) ((rd_T92 l0 x5_1).f1)=some r)∧Aside0 (kq≤k1)∧Aside0 (wc.heap[gb336]? = some (.cells #[.int .i64 ((rd_T92 l0 x5_1).f0),.int .i64 ((rd_T92 l0 x5_1).f1)] 92 (0,0)))∧Aside0 (Below w.heap.size w wc))
    case first =>
     have H:=HC5.out;clear HC5
     replace H:=dc_ H;rcases H with ⟨H,c8b0⟩|⟨H,c8b0⟩
     ·(first | rw [c8b0] | (simp only [i64_w,i32_w];rw [c8b0]) | skip)
      have H':=ad_ H;clear H;have hcz9_:=cells2_ BK336.out
      go_wp2
      repeat (go_quiet (fail);try go_wp2)
      go_meet
      case rel=>exact ⟨_,(true),val_,H',⟨by have:=HK1.out;first | omega | exact Nat.le_refl _⟩,⟨put_ BK336⟩,⟨belg_⟩⟩
     ·(first | rw [c8b0] | (simp only [i64_w,i32_w];rw [c8b0]) | skip)
      replace H:=dg_ H;rcases H with ⟨H,c10b0⟩|⟨H,c10b0⟩
      ·have H':=ad_ H;clear H;have hcz11_:=cells2_ BK336.out
       go_wp2
       repeat (go_quiet (fail);try go_wp2)
       go_meet
       case rel=>exact ⟨_,(true),val_,H',⟨by have:=HK1.out;first | omega | exact Nat.le_refl _⟩,⟨put_ BK336⟩,⟨belg_⟩⟩
      ·replace H:=dc_ H;rcases H with ⟨H,c12b0⟩|⟨H,c12b0⟩
       ·have H':=ad_ H;clear H;have hcz13_:=cells2_ BK336.out
        go_wp2
        repeat (go_quiet (fail);try go_wp2)
        go_meet
        case rel=>exact ⟨_,(true),val_,H',⟨by have:=HK1.out;first | omega | exact Nat.le_refl _⟩,⟨put_ BK336⟩,⟨belg_⟩⟩
       ·replace H:=dg_ H;rcases H with ⟨H,c14b0⟩|⟨H,c14b0⟩
        ·have H':=ad_ H;clear H;have hcz15_:=cells2_ BK336.out
         go_wp2
         repeat (go_quiet (fail);try go_wp2)
         go_meet
         case rel=>exact ⟨_,(true),val_,H',⟨by have:=HK1.out;first | omega | exact Nat.le_refl _⟩,⟨put_ BK336⟩,⟨belg_⟩⟩
        ·replace H:=de_ H;rcases H with ⟨H,-,c16b0,c16b1⟩|⟨H,c16,c16b0,c16b1⟩
         ·have H':=ad_ H;clear H;have hcz17_:=cells2_ BK336.out
          go_wp2
          repeat (go_quiet (fail);try go_wp2)
          go_meet
          case rel=>exact ⟨_,(false),val_,H',⟨by have:=HK1.out;first | omega | exact Nat.le_refl _⟩,⟨put_ BK336⟩,⟨belg_⟩⟩
         ·have H':=ad_ H;clear H;have hcz18_:=cells2_ BK336.out
          go_wp2
          repeat (go_quiet (fail);try go_wp2)
          go_meet
          case rel=>exact ⟨_,(!a1),val_,H',⟨by have:=HK1.out;first | omega | exact Nat.le_refl _⟩,⟨put_ BK336⟩,⟨belg_⟩⟩
    case rest =>
     clear HC5;clear c3b0 c4b0 hcz7_;(try clear hx335_0);(try clear hx335_1);(try clear p335);(try clear q335);obtain ⟨kq,x43_4,rfl,HA,HJ4,BK336,HB⟩:=hcut
     cases kq with
     | zero=>exact absurd HA.out (by simp [pr21_week.j1])
     | succ kj4 =>
      have H:=HA.out;clear HA
      simp only [pr21_week.j1] at H
      replace H:=db_ H;rcases H with ⟨rfl,H⟩|⟨rfl,H⟩
      ·obtain rfl:=Option.some.inj H
       go_wp2
       repeat (go_quiet (fail);try go_wp2)
       go_ret
       exact ⟨ret_,belg_⟩
      ·replace H:=dg_ H;rcases H with ⟨H,c20b0⟩|⟨H,c20b0⟩
       ·obtain ⟨ji21,hji21⟩:∃ j_:Int,(wrap64 (x5_1 - 1))=j_:=⟨_,rfl⟩
        replace H:(if 0≤(ji21) then (if (ji21) < (l0.length:Int) then (if ((rd_T92 l0 (ji21)).f0) > ((rd_T92 l0 x5_1).f0) then (some false) else (if ((rd_T92 l0 (ji21)).f0)=((rd_T92 l0 x5_1).f0) then (if ((rd_T92 l0 (ji21)).f1) ≥ ((rd_T92 l0 x5_1).f1) then (some false) else (pr21_week.l0 kj4 l0 a1 (wrap64 (x5_1 + 1)))) else (pr21_week.l0 kj4 l0 a1 (wrap64 (x5_1 + 1))))) else (none)) else (none))=some r:=by first | (rw [hji21] at H;exact H) | (simp only [hji21] at H ⊢;exact H)
        have hji21w:(IntKind.i64.wrap (x5_1 - 1))=ji21:=(i64_w _).trans hji21
        replace H:=ind_ H;obtain ⟨c22b0,H⟩:=H
        replace H:=ind_ H;obtain ⟨c23b0,H⟩:=H
        replace H:=dg_ H;rcases H with ⟨H,c24b0⟩|⟨H,c24b0⟩
        ·obtain rfl:=Option.some.inj H;have p337:0≤((ji21):Int):=dec_;have q337:(ji21) < (l0.length:Int):=dec_;obtain ⟨ad337,e337,hx337_0,hx337_1⟩:=at_T92 HR0.out (ji21) p337 q337;obtain rfl:ad335=ad337:=(by injection e337);replace hx337_0:=(HB.out.cell (World.block_lt_of_cell? w _ hx337_0)).trans hx337_0;replace hx337_1:=(HB.out.cell (World.block_lt_of_cell? w _ hx337_1)).trans hx337_1;replace p337:=eq_true p337;replace q337:=eq_true q337;have hcz25_:=cells2_ BK336.out
         go_wp2
         repeat (go_quiet (fail);try go_wp2)
         go_ret
         exact ⟨by first | rfl | (simp [errW_none,errW_some] <;> rfl) | (simp only [← hji21];first | rfl | (simp [errW_none,errW_some] <;> rfl)) | (simp [*,errW_none,errW_some] <;> rfl),belg_⟩
        ·replace H:=de_ H;rcases H with ⟨H,-,c26b0,c26b1⟩|⟨H,c26,c26b0,c26b1⟩
         ·replace H:=dh_ H;rcases H with ⟨H,c27b0⟩|⟨H,c27b0⟩
          ·obtain rfl:=Option.some.inj H;have p337:0≤((ji21):Int):=dec_;have q337:(ji21) < (l0.length:Int):=dec_;obtain ⟨ad337,e337,hx337_0,hx337_1⟩:=at_T92 HR0.out (ji21) p337 q337;obtain rfl:ad335=ad337:=(by injection e337);replace hx337_0:=(HB.out.cell (World.block_lt_of_cell? w _ hx337_0)).trans hx337_0;replace hx337_1:=(HB.out.cell (World.block_lt_of_cell? w _ hx337_1)).trans hx337_1;replace p337:=eq_true p337;replace q337:=eq_true q337;have hcz28_:=cells2_ BK336.out;have p338:0≤((ji21):Int):=dec_;have q338:(ji21) < (l0.length:Int):=dec_;obtain ⟨ad338,e338,hx338_0,hx338_1⟩:=at_T92 HR0.out (ji21) p338 q338;obtain rfl:ad335=ad338:=(by injection e338);replace hx338_0:=(HB.out.cell (World.block_lt_of_cell? w _ hx338_0)).trans hx338_0;replace hx338_1:=(HB.out.cell (World.block_lt_of_cell? w _ hx338_1)).trans hx338_1;replace p338:=eq_true p338;replace q338:=eq_true q338;have p339:0≤((ji21):Int):=dec_;have q339:(ji21) < (l0.length:Int):=dec_;obtain ⟨ad339,e339,hx339_0,hx339_1⟩:=at_T92 HR0.out (ji21) p339 q339;obtain rfl:ad335=ad339:=(by injection e339);replace hx339_0:=(HB.out.cell (World.block_lt_of_cell? w _ hx339_0)).trans hx339_0;replace hx339_1:=(HB.out.cell (World.block_lt_of_cell? w _ hx339_1)).trans hx339_1;replace p339:=eq_true p339;replace q339:=eq_true q339
           go_wp2
           repeat (go_quiet (fail);try go_wp2)
           go_ret
           exact ⟨by first | rfl | (simp [errW_none,errW_some] <;> rfl) | (simp only [← hji21];first | rfl | (simp [errW_none,errW_some] <;> rfl)) | (simp [*,errW_none,errW_some] <;> rfl),belg_⟩
          ·have H':=ad_ H;clear H;have p337:0≤((ji21):Int):=dec_;have q337:(ji21) < (l0.length:Int):=dec_;obtain ⟨ad337,e337,hx337_0,hx337_1⟩:=at_T92 HR0.out (ji21) p337 q337;obtain rfl:ad335=ad337:=(by injection e337);replace hx337_0:=(HB.out.cell (World.block_lt_of_cell? w _ hx337_0)).trans hx337_0;replace hx337_1:=(HB.out.cell (World.block_lt_of_cell? w _ hx337_1)).trans hx337_1;replace p337:=eq_true p337;replace q337:=eq_true q337;have hcz29_:=cells2_ BK336.out;have p338:0≤((ji21):Int):=dec_;have q338:(ji21) < (l0.length:Int):=dec_;obtain ⟨ad338,e338,hx338_0,hx338_1⟩:=at_T92 HR0.out (ji21) p338 q338;obtain rfl:ad335=ad338:=(by injection e338);replace hx338_0:=(HB.out.cell (World.block_lt_of_cell? w _ hx338_0)).trans hx338_0;replace hx338_1:=(HB.out.cell (World.block_lt_of_cell? w _ hx338_1)).trans hx338_1;replace p338:=eq_true p338;replace q338:=eq_true q338;have p339:0≤((ji21):Int):=dec_;have q339:(ji21) < (l0.length:Int):=dec_;obtain ⟨ad339,e339,hx339_0,hx339_1⟩:=at_T92 HR0.out (ji21) p339 q339;obtain rfl:ad335=ad339:=(by injection e339);replace hx339_0:=(HB.out.cell (World.block_lt_of_cell? w _ hx339_0)).trans hx339_0;replace hx339_1:=(HB.out.cell (World.block_lt_of_cell? w _ hx339_1)).trans hx339_1;replace p339:=eq_true p339;replace q339:=eq_true q339
           go_wp2
           repeat (go_quiet (fail);try go_wp2)
           go_roundg kj4
           case measure=>have:=HK1.out;have:=HJ4.out;omega
           case rel=>exact ⟨(wrap64 (x5_1 + 1)),val_,H',⟨by have:=HK1.out;have:=HJ4.out;omega⟩,⟨belg_⟩⟩
         ·have H':=ad_ H;clear H;have p337:0≤((ji21):Int):=dec_;have q337:(ji21) < (l0.length:Int):=dec_;obtain ⟨ad337,e337,hx337_0,hx337_1⟩:=at_T92 HR0.out (ji21) p337 q337;obtain rfl:ad335=ad337:=(by injection e337);replace hx337_0:=(HB.out.cell (World.block_lt_of_cell? w _ hx337_0)).trans hx337_0;replace hx337_1:=(HB.out.cell (World.block_lt_of_cell? w _ hx337_1)).trans hx337_1;replace p337:=eq_true p337;replace q337:=eq_true q337;have hcz30_:=cells2_ BK336.out;have p338:0≤((ji21):Int):=dec_;have q338:(ji21) < (l0.length:Int):=dec_;obtain ⟨ad338,e338,hx338_0,hx338_1⟩:=at_T92 HR0.out (ji21) p338 q338;obtain rfl:ad335=ad338:=(by injection e338);replace hx338_0:=(HB.out.cell (World.block_lt_of_cell? w _ hx338_0)).trans hx338_0;replace hx338_1:=(HB.out.cell (World.block_lt_of_cell? w _ hx338_1)).trans hx338_1;replace p338:=eq_true p338;replace q338:=eq_true q338
          go_wp2
          repeat (go_quiet (fail);try go_wp2)
          go_roundg kj4
          case measure=>have:=HK1.out;have:=HJ4.out;omega
          case rel=>exact ⟨(wrap64 (x5_1 + 1)),val_,H',⟨by have:=HK1.out;have:=HJ4.out;omega⟩,⟨belg_⟩⟩
       ·have H':=ad_ H;clear H
        go_wp2
        repeat (go_quiet (fail);try go_wp2)
        go_roundg kj4
        case measure=>have:=HK1.out;have:=HJ4.out;omega
        case rel=>exact ⟨(wrap64 (x5_1 + 1)),val_,H',⟨by have:=HK1.out;have:=HJ4.out;omega⟩,⟨belg_⟩⟩
   ·obtain rfl:=Option.some.inj H
    go_wp2
    repeat (go_quiet (fail);try go_wp2)
    go_ret
    exact ⟨ret_,bel_⟩
end Go.Proofs.YtkgkblmeafhkfaaGreat.PH

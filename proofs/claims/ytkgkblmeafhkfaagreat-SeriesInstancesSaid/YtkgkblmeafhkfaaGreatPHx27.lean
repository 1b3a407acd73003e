-- Written by a program of the session (wip/tools).
import Derived.Test.YtkgkblmeafhkfaaGreatPHx0
namespace Go.Proofs.YtkgkblmeafhkfaaGreat.PH
open Go.RowKit Go.Proofs.YtkgkblmeafhkfaaGreatW.PrintWords Go.Proofs.YtkgkblmeafhkfaaGreatW.PrintLast Go.Proofs.YtkgkblmeafhkfaaGreatW.PrintMore
attribute [local go_sem] max2_int min2_int max_two min_two max_three min_three max_four min_four   -- for this text's walks alone
set_option linter.unusedVariables false
set_option linter.unusedSimpArgs false

def pr23_one.l0:Nat→Int→Int→Int→Int→Bool→Int→Int→Int→Int→List Int→List Int→List (S92)→List Int→List Int→List (S69)→Option (Int×Int×Int×Bool×Bool)
 | 0,_,_,_,_,_,_,_,_,_,_,_,_,_,_,_=>none
 | k + 1,x1,x6,y0,y1,y2,y3,y4,y5,y6,y7,y8,y9,y10,y11,y12=>if x6 < (y12.length:Int) then (if 0≤x6 then (if ((rd_T69 y12 x6).f0)=x1 then (some (x1,(rd_T69 y12 x6).f1,wrap64 (((rd_T69 y12 x6).f1) + ((rd_T69 y12 x6).f2)),true,!((rd_T69 y12 x6).f3))) else (pr23_one.l0 k x1 (wrap64 (x6 + 1)) y0 y1 y2 y3 y4 y5 y6 y7 y8 y9 y10 y11 y12)) else (none)) else (some (x1,x1,wrap64 (x1 + y1),false,true))
def pr23_one.f (k:Nat) (a0_0 a0_1:Int) (a0_2:Bool) (a0_3 a0_4:Int) (a0_5 a0_6:Int) (l0_7 l0_8:List Int) (l0_9:List (S92)) (l0_10 l0_11:List Int) (l0_12:List (S69)) (a1:Int):Option (Int×Int×Int×Bool×Bool):=pr23_one.l0 k a1 0 a0_0 a0_1 a0_2 a0_3 a0_4 a0_5 a0_6 l0_7 l0_8 l0_9 l0_10 l0_11 l0_12
def pr23_one.T6:Bool×List (List Nat×List Nat):=(true,[([],[]),([],[]),([1],[1]),([],[]),([3],[3]),([],[]),([5],[5]),([4,6],[4,6]),([0,2,7],[0,2,7]),([],[]),([9],[9]),([10],[10]),([8,0,1,2,3,4,5,6,7,8],[8]),([11,12,0,1,2,3,4,5,6,7,8,9,10,11,12],[11])])
def pr23_one.B6:List Nat:=[0,0,2,0,8,0,32,120,255,0,512,1536,511,8191]
theorem pr23_one.tab6:rtab .any (opsOf Tryz.f45 6)=pr23_one.T6:=by kernel_rfl
theorem pr23_one.bits6:waitsOk pr23_one.T6.2 pr23_one.B6=true:=by kernel_rfl
set_option maxHeartbeats 8000000 in
set_option maxRecDepth 100000 in
theorem pr23_one.calls (k:Nat) (a0_0 a0_1:Int) (a0_2:Bool) (a0_3 a0_4:Int) (a0_5 a0_6:Int) (A0_7:Option Addr) (c0_7:Nat) (l0_7:List Int) (A0_8:Option Addr) (c0_8:Nat) (l0_8:List Int) (A0_9:Option Addr) (c0_9:Nat) (l0_9:List (S92)) (A0_10:Option Addr) (c0_10:Nat) (l0_10:List Int) (A0_11:Option Addr) (c0_11:Nat) (l0_11:List Int) (A0_12:Option Addr) (c0_12:Nat) (l0_12:List (S69)) (a1 r1:Int) (r2 r3:Int) (r4 r5:Bool) (w:World) (hr0_7:Kd.C (Kd.int .i64) w A0_7 l0_7.length l0_7) (hc0_7:l0_7.length≤c0_7) (hr0_8:Kd.C (Kd.int .i64) w A0_8 l0_8.length l0_8) (hc0_8:l0_8.length≤c0_8) (hr0_9:Kd.C k92 w A0_9 l0_9.length l0_9) (hc0_9:l0_9.length≤c0_9) (hr0_10:Kd.C (Kd.int .i64) w A0_10 l0_10.length l0_10) (hc0_10:l0_10.length≤c0_10) (hr0_11:Kd.C (Kd.int .i64) w A0_11 l0_11.length l0_11) (hc0_11:l0_11.length≤c0_11) (hr0_12:Kd.C k69 w A0_12 l0_12.length l0_12) (hc0_12:l0_12.length≤c0_12) (h:pr23_one.f k a0_0 a0_1 a0_2 a0_3 a0_4 a0_5 a0_6 l0_7 l0_8 l0_9 l0_10 l0_11 l0_12 a1=some (r1,r2,r3,r4,r5)) :
  Calls Tryz.prog 45 #[.agg #[.int .i64 a0_0,.int .i64 a0_1,.bool a0_2,.int .i64 a0_3,.int .i64 a0_4,.int .i64 a0_5,.int .i64 a0_6,.slice A0_7 l0_7.length c0_7,.slice A0_8 l0_8.length c0_8,.slice A0_9 l0_9.length c0_9,.slice A0_10 l0_10.length c0_10,.slice A0_11 l0_11.length c0_11,.slice A0_12 l0_12.length c0_12],.int .i64 a1] w fun e w'=>e = .returned (.tuple #[.agg #[.int .i64 r1,.int .i64 r2,.int .i64 r3,.bool r4],.bool r5])∧Below w.heap.size w w':=by
 have hu37:=Tryz.underlying37;have hu58:=Tryz.underlying58;have hu69:=Tryz.underlying69;have HR0_7:=Aside0.mk hr0_7;have HC0_7:=Aside0.mk hc0_7;clear hr0_7 hc0_7;have HR0_8:=Aside0.mk hr0_8;have HC0_8:=Aside0.mk hc0_8;clear hr0_8 hc0_8;have HR0_9:=Aside0.mk hr0_9;have HC0_9:=Aside0.mk hc0_9;clear hr0_9 hc0_9;have HR0_10:=Aside0.mk hr0_10;have HC0_10:=Aside0.mk hc0_10;clear hr0_10 hc0_10;have HR0_11:=Aside0.mk hr0_11;have HC0_11:=Aside0.mk hc0_11;clear hr0_11 hc0_11;have HR0_12:=Aside0.mk hr0_12;have HC0_12:=Aside0.mk hc0_12;clear hr0_12 hc0_12;have HB:=ad_ (Below.refl w.heap.size w);have H:(pr23_one.l0 k a1 0 a0_0 a0_1 a0_2 a0_3 a0_4 a0_5 a0_6 l0_7 l0_8 l0_9 l0_10 l0_11 l0_12)=some (r1,r2,r3,r4,r5):=h;clear h;have H':=ad_ H;clear H
 go_enter Tryz.func45,Tryz.ntmps45
 go_wp2_with (first | ((with_reducible refine gate_dst (N:=2) rfl ?_);refine bx_ 2 37 ?_;intro gb474 hg w3 hbox hb;have BK474:=ad_ (hbox);have GW474:=gw_ w hg;have GE474:=GW474;replace HB:=hbb_ hb;clear hb hbox hg) | ((with_reducible refine gate_dst (N:=4) rfl ?_);refine bx_ 4 58 ?_;intro gb475 hg w4 hbox hb;have BK475:=ad_ (hbox);have GW475:=gw_ w hg;have GE475:=GW475;replace HB:=hbb_ hb;have NB474_475:=nlt_ hg BK474;have NB475_474:=ngt_ hg BK474;replace BK474:=bkb_ BK474 hb;clear hb hbox hg))
 go_loopg [6] k (fun kq v6 w'=>∃ (x6_1:Int) (x476000_1:Int) (x476001_1:Int) (x476002_1:Int) (x476003_1:Bool),v6 = .int .i64 x6_1∧Aside0 (pr23_one.l0 kq a1 x6_1 a0_0 a0_1 a0_2 a0_3 a0_4 a0_5 a0_6 l0_7 l0_8 l0_9 l0_10 l0_11 l0_12=some (r1,r2,r3,r4,r5))∧Aside0 (kq≤k)∧Aside0 (w'.heap[gb474]? = some (.cells #[.int .i64 a0_0,.int .i64 a0_1,.bool a0_2,.int .i64 a0_3,.int .i64 a0_4,.int .i64 a0_5,.int .i64 a0_6,(.slice A0_7 l0_7.length c0_7),(.slice A0_8 l0_8.length c0_8),(.slice A0_9 l0_9.length c0_9),(.slice A0_10 l0_10.length c0_10),(.slice A0_11 l0_11.length c0_11),(.slice A0_12 l0_12.length c0_12)] 37 (0,0)))∧Aside0 (w'.heap[gb475]? = some (.cells #[.int .i64 x476000_1,.int .i64 x476001_1,.int .i64 x476002_1,.bool x476003_1] 58 (0,0)))∧Aside0 (Below w.heap.size w w'))
 case atStart=>exact ⟨(0),(0),(0),(0),(false),val_,H',⟨Nat.le_refl _⟩,⟨blo_ BK474.out⟩,⟨blo_ BK475.out⟩,⟨belg_⟩⟩
 case round =>
  clear H';obtain ⟨x6_1,x476000_1,x476001_1,x476002_1,x476003_1,rfl,HA,HK1,BK474,BK475,HB⟩:=hrel
  cases gk with
  | zero=>exact absurd HA.out (by simp [pr23_one.l0])
  | succ k1 =>
   have H:=HA.out;clear HA
   simp only [pr23_one.l0] at H
   replace H:=dc_ H;rcases H with ⟨H,c5b0⟩|⟨H,c5b0⟩
   ·replace H:=ind_ H;obtain ⟨c6b0,H⟩:=H
    replace H:=de_ H;rcases H with ⟨H,-,c7b0,c7b1⟩|⟨H,c7,c7b0,c7b1⟩
    ·simp only [Option.some.injEq,Prod.mk.injEq] at H
     obtain ⟨rfl,rfl,rfl,rfl,rfl⟩:=H;have hnb8:=NB474_475.out;have hnc8:=NB475_474.out;have hcz9_:=cells13_ BK474.out;have p476:0≤(x6_1:Int):=dec_;have q476:x6_1 < (l0_12.length:Int):=dec_;obtain ⟨ad476,e476,hx476_0,hx476_1,hx476_2,hx476_3⟩:=at_T69 HR0_12.out x6_1 p476 q476
     cases e476
     replace hx476_0:=(HB.out.cell (World.block_lt_of_cell? w _ hx476_0)).trans hx476_0;replace hx476_1:=(HB.out.cell (World.block_lt_of_cell? w _ hx476_1)).trans hx476_1;replace hx476_2:=(HB.out.cell (World.block_lt_of_cell? w _ hx476_2)).trans hx476_2;replace hx476_3:=(HB.out.cell (World.block_lt_of_cell? w _ hx476_3)).trans hx476_3;replace p476:=eq_true p476;replace q476:=eq_true q476
     try go_wp2_with (first | ((with_reducible refine gate_dst (N:=7) rfl ?_);refine bx_ 7 69 ?_;intro gb477 hg w10 hbox hb;have BK477:=ad_ (hbox);have GW477:=gw_ w hg;have GE477:=GW477;replace HB:=hbb_ hb;have NB474_477:=nlt_ hg BK474;have NB477_474:=ngt_ hg BK474;replace BK474:=bkb_ BK474 hb;have NB475_477:=nlt_ hg BK475;have NB477_475:=ngt_ hg BK475;replace BK475:=bkb_ BK475 hb;clear hb hbox hg;have hnb11:=NB477_474.out;have hnc11:=NB474_477.out;have hnb12:=NB477_475.out;have hnc12:=NB475_477.out;have hcz13_:=cells4_ BK477.out))
     have n0_:Aside0 (((((w10.setCell ⟨gb477,0,none⟩ (.int .i64 ((rd_T69 l0_12 x6_1).f0))).setCell ⟨gb477,1,none⟩ (.int .i64 ((rd_T69 l0_12 x6_1).f1))).setCell ⟨gb477,2,none⟩ (.int .i64 ((rd_T69 l0_12 x6_1).f2))).setCell ⟨gb477,3,none⟩ (.bool ((rd_T69 l0_12 x6_1).f3))).heap[gb474]? = some (.cells #[.int .i64 a0_0,.int .i64 a0_1,.bool a0_2,.int .i64 a0_3,.int .i64 a0_4,.int .i64 a0_5,.int .i64 a0_6,.slice A0_7 l0_7.length c0_7,.slice A0_8 l0_8.length c0_8,.slice A0_9 l0_9.length c0_9,.slice A0_10 l0_10.length c0_10,.slice A0_11 l0_11.length c0_11,.slice (some ad476) l0_12.length c0_12] 37 (0,0))):=⟨blf_ BK474.out⟩;have n1_:Aside0 (((((w10.setCell ⟨gb477,0,none⟩ (.int .i64 ((rd_T69 l0_12 x6_1).f0))).setCell ⟨gb477,1,none⟩ (.int .i64 ((rd_T69 l0_12 x6_1).f1))).setCell ⟨gb477,2,none⟩ (.int .i64 ((rd_T69 l0_12 x6_1).f2))).setCell ⟨gb477,3,none⟩ (.bool ((rd_T69 l0_12 x6_1).f3))).heap[gb475]? = some (.cells #[.int .i64 x476000_1,.int .i64 x476001_1,.int .i64 x476002_1,.bool x476003_1] 58 (0,0))):=⟨blf_ BK475.out⟩;have n2_:Aside0 (((((w10.setCell ⟨gb477,0,none⟩ (.int .i64 ((rd_T69 l0_12 x6_1).f0))).setCell ⟨gb477,1,none⟩ (.int .i64 ((rd_T69 l0_12 x6_1).f1))).setCell ⟨gb477,2,none⟩ (.int .i64 ((rd_T69 l0_12 x6_1).f2))).setCell ⟨gb477,3,none⟩ (.bool ((rd_T69 l0_12 x6_1).f3))).heap[gb477]? = some (.cells #[.int .i64 ((rd_T69 l0_12 x6_1).f0),.int .i64 ((rd_T69 l0_12 x6_1).f1),.int .i64 ((rd_T69 l0_12 x6_1).f2),.bool ((rd_T69 l0_12 x6_1).f3)] 69 (0,0))):=⟨put_ BK477⟩;have n3_:Aside0 (Below w.heap.size w ((((w10.setCell ⟨gb477,0,none⟩ (.int .i64 ((rd_T69 l0_12 x6_1).f0))).setCell ⟨gb477,1,none⟩ (.int .i64 ((rd_T69 l0_12 x6_1).f1))).setCell ⟨gb477,2,none⟩ (.int .i64 ((rd_T69 l0_12 x6_1).f2))).setCell ⟨gb477,3,none⟩ (.bool ((rd_T69 l0_12 x6_1).f3)))):=⟨belg_⟩
     (try clear BK474)
     (try clear BK475)
     (try clear BK477)
     (try clear HB)
     generalize ((((w10.setCell ⟨gb477,0,none⟩ (.int .i64 ((rd_T69 l0_12 x6_1).f0))).setCell ⟨gb477,1,none⟩ (.int .i64 ((rd_T69 l0_12 x6_1).f1))).setCell ⟨gb477,2,none⟩ (.int .i64 ((rd_T69 l0_12 x6_1).f2))).setCell ⟨gb477,3,none⟩ (.bool ((rd_T69 l0_12 x6_1).f3)))=w14 at n0_ n1_ n2_ n3_ ⊢
     have BK474:=n0_;have BK475:=n1_;have BK477:=n2_;have HB:=n3_;clear n0_ n1_ n2_ n3_;have n0_:=ad_ (blk_drew BK474.out);have n1_:=ad_ (blk_drew BK475.out);have n2_:=ad_ (blk_drew BK477.out);have n3_:=ad_ (below_drew1 HB.out);clear BK474;clear BK475;clear BK477;clear HB;have BK474:=n0_;have BK475:=n1_;have BK477:=n2_;have HB:=n3_;clear n0_ n1_ n2_ n3_
     refine start_ (n:=14) (S:=fun w'=>w'.cell? ⟨gb477,0,none⟩=some (.int .i64 ((rd_T69 l0_12 x6_1).f0))∧w'.cell? ⟨gb477,1,none⟩=some (.int .i64 ((rd_T69 l0_12 x6_1).f1))∧w'.cell? ⟨gb477,2,none⟩=some (.int .i64 ((rd_T69 l0_12 x6_1).f2))∧w'.cell? ⟨gb477,3,none⟩=some (.bool ((rd_T69 l0_12 x6_1).f3))) (ds:=[]) (.replicate 14 false) (by kernel_rfl) rfl rfl ⟨bc_ BK477,bc_ BK477,bc_ BK477,bc_ BK477⟩ (fun hHeld=>?_);refine with_tabW pr23_one.tab6 pr23_one.bits6 (fun HT_ HW_=>?_)
     generalize w14.drew=w15 at BK474 BK475 BK477 HB hHeld ⊢
     refine pu_ 14 1 0 24 ?_;refine pu_ 14 3 1 25 ?_;refine pu_ 14 11 3 27 ?_;refine pu_ 14 43 5 29 ?_;refine pu_ 14 555 9 33 ?_;refine tk_ 14 559 2 26 ?_;refine tk_ 14 575 4 28 ?_;refine tk_ 14 639 6 30 ?_;refine pu_ 14 767 7 31 ?_;refine pu_ 14 1023 8 32 ?_;refine tk_ 14 2047 10 34 ?_;refine pu_ 14 4095 11 35 ?_
     refine one_ (i:=12) (N:=none) #[true,true,true,true,true,true,true,true,true,true,true,true,true,false] rfl rfl (one_of HT_.out (by kernel_rfl)) (by decide) (fun K hK=>?_)
     have hs16:w15.cell? ⟨gb475,0,none⟩=some (.int .i64 x476000_1):=bc_ BK475;have hfs16:=blk_frozen BK475.out 0;have hns16_0:=NB474_475.out;have hns16_2:=NB477_475.out;have hms16_0:=NB475_474.out;have hms16_2:=NB475_477.out;have hs17:w15.cell? ⟨gb475,1,none⟩=some (.int .i64 x476001_1):=bc_ BK475;have hfs17:=blk_frozen BK475.out 1;have hns17_0:=NB474_475.out;have hns17_2:=NB477_475.out;have hms17_0:=NB475_474.out;have hms17_2:=NB475_477.out;have hs18:w15.cell? ⟨gb475,2,none⟩=some (.int .i64 x476002_1):=bc_ BK475;have hfs18:=blk_frozen BK475.out 2;have hns18_0:=NB474_475.out;have hns18_2:=NB477_475.out;have hms18_0:=NB475_474.out;have hms18_2:=NB475_477.out;have hs19:w15.cell? ⟨gb475,3,none⟩=some (.bool x476003_1):=bc_ BK475;have hfs19:=blk_frozen BK475.out 3;have hns19_0:=NB474_475.out;have hns19_2:=NB477_475.out;have hms19_0:=NB475_474.out;have hms19_2:=NB475_477.out
     refine skip_ (w1:=?_) (by rfl) rfl ?_ ?_
     rotate_left
     ·go_simp
      rfl
     refine hK.out _ _ ⟨(cfs_ NB477_475 (hHeld.1)),(cfs_ NB477_475 (hHeld.2.1)),(cfs_ NB477_475 (hHeld.2.2.1)),(cfs_ NB477_475 (hHeld.2.2.2))⟩ (fun hHeld=>?_)
     clear hK K
     refine pu_ 14 16383 13 5 ?_
     refine done_ (done_of HT_.out (by kernel_rfl)) ?_
     try go_wp2
     refine bodyPost_ret (results_ct rfl _ _ gb475 58 #[.int .i64 a1,.int .i64 ((rd_T69 l0_12 x6_1).f1),.int .i64 (wrap64 (((rd_T69 l0_12 x6_1).f1) + ((rd_T69 l0_12 x6_1).f2))),.bool true] (0,0) _ rfl (put_ BK475) Tryz.underlying58 rfl (by kernel_rfl)) rfl ?_
     exact ⟨ret_,belg_⟩
    ·have H':=ad_ H;clear H;have hnb20:=NB474_475.out;have hnc20:=NB475_474.out;have hcz21_:=cells13_ BK474.out;have p476:0≤(x6_1:Int):=dec_;have q476:x6_1 < (l0_12.length:Int):=dec_;obtain ⟨ad476,e476,hx476_0,hx476_1,hx476_2,hx476_3⟩:=at_T69 HR0_12.out x6_1 p476 q476
     cases e476
     replace hx476_0:=(HB.out.cell (World.block_lt_of_cell? w _ hx476_0)).trans hx476_0;replace hx476_1:=(HB.out.cell (World.block_lt_of_cell? w _ hx476_1)).trans hx476_1;replace hx476_2:=(HB.out.cell (World.block_lt_of_cell? w _ hx476_2)).trans hx476_2;replace hx476_3:=(HB.out.cell (World.block_lt_of_cell? w _ hx476_3)).trans hx476_3;replace p476:=eq_true p476;replace q476:=eq_true q476
     go_wp2_with (first | ((with_reducible refine gate_dst (N:=7) rfl ?_);refine bx_ 7 69 ?_;intro gb477 hg w22 hbox hb;have BK477:=ad_ (hbox);have GW477:=gw_ w hg;have GE477:=GW477;replace HB:=hbb_ hb;have NB474_477:=nlt_ hg BK474;have NB477_474:=ngt_ hg BK474;replace BK474:=bkb_ BK474 hb;have NB475_477:=nlt_ hg BK475;have NB477_475:=ngt_ hg BK475;replace BK475:=bkb_ BK475 hb;clear hb hbox hg;have hnb23:=NB477_474.out;have hnc23:=NB474_477.out;have hnb24:=NB477_475.out;have hnc24:=NB475_477.out;have hcz25_:=cells4_ BK477.out))
     go_roundg k1
     case measure=>have:=HK1.out;omega
     case rel=>exact ⟨(wrap64 (x6_1 + 1)),(x476000_1),(x476001_1),(x476002_1),(x476003_1),val_,H',⟨by have:=HK1.out;omega⟩,⟨blf_ BK474.out⟩,⟨blf_ BK475.out⟩,⟨belg_⟩⟩
   ·simp only [Option.some.injEq,Prod.mk.injEq] at H
    obtain ⟨rfl,rfl,rfl,rfl,rfl⟩:=H;have hnb26:=NB474_475.out;have hnc26:=NB475_474.out;have hcz27_:=cells13_ BK474.out;have hcz28_:=cells4_ BK475.out
    go_wp2
    refine bodyPost_ret (results_ct rfl _ _ gb475 58 #[.int .i64 a1,.int .i64 a1,.int .i64 (wrap64 (a1 + a0_1)),.bool false] (0,0) _ rfl (put_ BK475) Tryz.underlying58 rfl (by kernel_rfl)) rfl ?_
    exact ⟨ret_,belg_⟩
end Go.Proofs.YtkgkblmeafhkfaaGreat.PH

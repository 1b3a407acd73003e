-- Written by a program of the session (wip/tools).
import Derived.Test.YtkgkblmeafhkfaaGreatPHx0
import Derived.Test.YtkgkblmeafhkfaaGreatPHx2
import Derived.Test.YtkgkblmeafhkfaaGreatPHx16
import Derived.Test.YtkgkblmeafhkfaaGreatPHx20
import Derived.Test.YtkgkblmeafhkfaaGreatPHx28
namespace Go.Proofs.YtkgkblmeafhkfaaGreat.PH
open Go.RowKit Go.Proofs.YtkgkblmeafhkfaaGreatW.PrintWords Go.Proofs.YtkgkblmeafhkfaaGreatW.PrintLast Go.Proofs.YtkgkblmeafhkfaaGreatW.PrintMore
attribute [local go_sem] max2_int min2_int max_two min_two max_three min_three max_four min_four   -- for this text's walks alone
set_option linter.unusedVariables false
set_option linter.unusedSimpArgs false

attribute [local go_sem high] eqA58
def pr23_Next.f (k:Nat) (a0_0 a0_1:Int) (a0_2:Bool) (a0_3 a0_4:Int) (a0_5 a0_6:Int) (l0_7 l0_8:List Int) (l0_9:List (S92)) (l0_10 l0_11:List Int) (l0_12:List (S69)) (a1:Int):Option (Int×Int×Int×Bool×Bool×Int):=(pr23_Right.f k a0_0 a0_1 a0_2 a0_3 a0_4 a0_5 a0_6 l0_7 l0_8 l0_9 l0_10 l0_11 l0_12).bind fun t512=>(if t512=true then ((pr12_Time.f a1).bind fun t513=>(if t513=true then (if (wrap64 (a1 + 31622400)) > 253402300799 then ((pr23_Instances.f k a0_0 a0_1 a0_2 a0_3 a0_4 a0_5 a0_6 l0_7 l0_8 l0_9 l0_10 l0_11 l0_12 a1 253402300799).bind fun bt514=>(if (bt514.1.length:Int)=0 then (some (0,0,0,false,false,bt514.2)) else (if 0 < (bt514.1.length:Int) then (some ((rd_T58 bt514.1 0).f0,(rd_T58 bt514.1 0).f1,(rd_T58 bt514.1 0).f2,(rd_T58 bt514.1 0).f3,true,bt514.2)) else (none)))) else ((pr23_Instances.f k a0_0 a0_1 a0_2 a0_3 a0_4 a0_5 a0_6 l0_7 l0_8 l0_9 l0_10 l0_11 l0_12 a1 (wrap64 (a1 + 31622400))).bind fun bt519=>(if (bt519.1.length:Int)=0 then (some (0,0,0,false,false,bt519.2)) else (if 0 < (bt519.1.length:Int) then (some ((rd_T58 bt519.1 0).f0,(rd_T58 bt519.1 0).f1,(rd_T58 bt519.1 0).f2,(rd_T58 bt519.1 0).f3,true,bt519.2)) else (none))))) else (some (0,0,0,false,false,110)))) else (some (0,0,0,false,false,3)))
set_option maxHeartbeats 8000000 in
set_option maxRecDepth 100000 in
theorem pr23_Next.calls (k:Nat) (a0_0 a0_1:Int) (a0_2:Bool) (a0_3 a0_4:Int) (a0_5 a0_6:Int) (A0_7:Option Addr) (c0_7:Nat) (l0_7:List Int) (A0_8:Option Addr) (c0_8:Nat) (l0_8:List Int) (A0_9:Option Addr) (c0_9:Nat) (l0_9:List (S92)) (A0_10:Option Addr) (c0_10:Nat) (l0_10:List Int) (A0_11:Option Addr) (c0_11:Nat) (l0_11:List Int) (A0_12:Option Addr) (c0_12:Nat) (l0_12:List (S69)) (a1 r1:Int) (r2 r3:Int) (r4 r5:Bool) (r6:Int) (w:World) (hr0_7:Kd.C (Kd.int .i64) w A0_7 l0_7.length l0_7) (hc0_7:l0_7.length≤c0_7) (hr0_8:Kd.C (Kd.int .i64) w A0_8 l0_8.length l0_8) (hc0_8:l0_8.length≤c0_8) (hr0_9:Kd.C k92 w A0_9 l0_9.length l0_9) (hc0_9:l0_9.length≤c0_9) (hr0_10:Kd.C (Kd.int .i64) w A0_10 l0_10.length l0_10) (hc0_10:l0_10.length≤c0_10) (hr0_11:Kd.C (Kd.int .i64) w A0_11 l0_11.length l0_11) (hc0_11:l0_11.length≤c0_11) (hr0_12:Kd.C k69 w A0_12 l0_12.length l0_12) (hc0_12:l0_12.length≤c0_12) (h:pr23_Next.f k a0_0 a0_1 a0_2 a0_3 a0_4 a0_5 a0_6 l0_7 l0_8 l0_9 l0_10 l0_11 l0_12 a1=some (r1,r2,r3,r4,r5,r6)) :
  Calls Tryz.prog 18 #[.agg #[.int .i64 a0_0,.int .i64 a0_1,.bool a0_2,.int .i64 a0_3,.int .i64 a0_4,.int .i64 a0_5,.int .i64 a0_6,.slice A0_7 l0_7.length c0_7,.slice A0_8 l0_8.length c0_8,.slice A0_9 l0_9.length c0_9,.slice A0_10 l0_10.length c0_10,.slice A0_11 l0_11.length c0_11,.slice A0_12 l0_12.length c0_12],.int .i64 a1] w fun e w'=>e = .returned (.tuple #[.agg #[.int .i64 r1,.int .i64 r2,.int .i64 r3,.bool r4],.bool r5,.int .i64 r6])∧Below w.heap.size w w':=by
 have hu37:=Tryz.underlying37;have hu58:=Tryz.underlying58;have HR0_7:=Aside0.mk hr0_7;have HC0_7:=Aside0.mk hc0_7;clear hr0_7 hc0_7;have HR0_8:=Aside0.mk hr0_8;have HC0_8:=Aside0.mk hc0_8;clear hr0_8 hc0_8;have HR0_9:=Aside0.mk hr0_9;have HC0_9:=Aside0.mk hc0_9;clear hr0_9 hc0_9;have HR0_10:=Aside0.mk hr0_10;have HC0_10:=Aside0.mk hc0_10;clear hr0_10 hc0_10;have HR0_11:=Aside0.mk hr0_11;have HC0_11:=Aside0.mk hc0_11;clear hr0_11 hc0_11;have HR0_12:=Aside0.mk hr0_12;have HC0_12:=Aside0.mk hc0_12;clear hr0_12 hc0_12;have HB:=ad_ (Below.refl w.heap.size w);have H:((pr23_Right.f k a0_0 a0_1 a0_2 a0_3 a0_4 a0_5 a0_6 l0_7 l0_8 l0_9 l0_10 l0_11 l0_12).bind fun t512=>(if t512=true then ((pr12_Time.f a1).bind fun t513=>(if t513=true then (if (wrap64 (a1 + 31622400)) > 253402300799 then ((pr23_Instances.f k a0_0 a0_1 a0_2 a0_3 a0_4 a0_5 a0_6 l0_7 l0_8 l0_9 l0_10 l0_11 l0_12 a1 253402300799).bind fun bt514=>(if (bt514.1.length:Int)=0 then (some (0,0,0,false,false,bt514.2)) else (if 0 < (bt514.1.length:Int) then (some ((rd_T58 bt514.1 0).f0,(rd_T58 bt514.1 0).f1,(rd_T58 bt514.1 0).f2,(rd_T58 bt514.1 0).f3,true,bt514.2)) else (none)))) else ((pr23_Instances.f k a0_0 a0_1 a0_2 a0_3 a0_4 a0_5 a0_6 l0_7 l0_8 l0_9 l0_10 l0_11 l0_12 a1 (wrap64 (a1 + 31622400))).bind fun bt519=>(if (bt519.1.length:Int)=0 then (some (0,0,0,false,false,bt519.2)) else (if 0 < (bt519.1.length:Int) then (some ((rd_T58 bt519.1 0).f0,(rd_T58 bt519.1 0).f1,(rd_T58 bt519.1 0).f2,(rd_T58 bt519.1 0).f3,true,bt519.2)) else (none))))) else (some (0,0,0,false,false,110)))) else (some (0,0,0,false,false,3))))=some (r1,r2,r3,r4,r5,r6):=h;clear h;obtain ⟨t512,A30,H⟩:=bnd_ H
 try dsimp only at H
 have A3:=ad_ A30;clear A30
 replace H:=db_ H;rcases H with ⟨rfl,H⟩|⟨rfl,H⟩
 ·obtain ⟨t513,A50,H⟩:=bnd_ H
  try dsimp only at H
  have A5:=ad_ A50;clear A50
  replace H:=db_ H;rcases H with ⟨rfl,H⟩|⟨rfl,H⟩
  ·replace H:=dg_ H;rcases H with ⟨H,c7b0⟩|⟨H,c7b0⟩
   ·replace H:=Option.bind_eq_some_iff.mp H;obtain ⟨⟨t514,t517⟩,A80,H⟩:=H
    try dsimp only at H
    have A8:=ad_ A80;clear A80
    replace H:=de_ H;rcases H with ⟨H,-,c9b0,c9b1⟩|⟨H,c9,c9b0,c9b1⟩
    ·simp only [Option.some.injEq,Prod.mk.injEq] at H
     obtain ⟨rfl,rfl,rfl,rfl,rfl,rfl⟩:=H
     go_enter Tryz.func18,Tryz.ntmps18
     go_wp2_with (first | ((with_reducible refine gate_dst (N:=2) rfl ?_);refine bx_ 2 37 ?_;intro gb510 hg w10 hbox hb;have BK510:=ad_ (hbox);have GW510:=gw_ w hg;have GE510:=GW510;replace HB:=hbb_ hb;clear hb hbox hg) | ((with_reducible refine gate_dst (N:=4) rfl ?_);refine bx_ 4 58 ?_;intro gb511 hg w11 hbox hb;have BK511:=ad_ (hbox);have GW511:=gw_ w hg;have GE511:=GW511;replace HB:=hbb_ hb;have NB510_511:=nlt_ hg BK510;have NB511_510:=ngt_ hg BK510;replace BK510:=bkb_ BK510 hb;clear hb hbox hg;have hnb12:=NB510_511.out;have hnc12:=NB511_510.out;have hcz13_:=cells13_ BK510.out) | ((with_reducible refine gate_callee (f:=12) rfl ?_);refine gl_ 11 Tryz.func12 (pr23_Right.calls k a0_0 a0_1 a0_2 a0_3 a0_4 a0_5 a0_6 _ _ l0_7 _ _ l0_8 _ _ l0_9 _ _ l0_10 _ _ l0_11 _ _ l0_12 true _ ?_ ?_ ?_ ?_ ?_ ?_ ?_ ?_ ?_ ?_ ?_ ?_ A3.out) ?_;(iterate 12 exact sc_);rintro e w14 ⟨rfl,hb⟩;refine ⟨_,rfl,?_⟩;replace BK510:=bkb_ BK510 hb;replace BK511:=bkb_ BK511 hb;replace HB:=hbb_ hb;clear hb) | ((with_reducible refine gate_callee (f:=28) rfl ?_);refine gl_ 15 Tryz.func28 (pr12_Time.calls a1 true _ A5.out) ?_;rintro e w' ⟨rfl,⟨nd,rfl⟩⟩;refine ⟨_,rfl,?_⟩;(try (rw [drewN_self w14];generalize hq_:World.drewN w14 _=w14;have n0_:Aside0 (w14.heap[gb510]? = some (.cells #[.int .i64 a0_0,.int .i64 a0_1,.bool a0_2,.int .i64 a0_3,.int .i64 a0_4,.int .i64 a0_5,.int .i64 a0_6,.slice A0_7 l0_7.length c0_7,.slice A0_8 l0_8.length c0_8,.slice A0_9 l0_9.length c0_9,.slice A0_10 l0_10.length c0_10,.slice A0_11 l0_11.length c0_11,.slice A0_12 l0_12.length c0_12] 37 (0,0))):=⟨by rw [← hq_];exact (blo_ BK510.out)⟩;have n1_:Aside0 (w14.heap[gb511]? = some (.cells #[.int .i64 0,.int .i64 0,.int .i64 0,.bool false] 58 (0,0))):=⟨by rw [← hq_];exact (blo_ BK511.out)⟩;have n2_:Aside0 (Below w.heap.size w w14):=⟨by rw [← hq_];exact belg_⟩;clear BK510 BK511 HB hq_;have BK510:=n0_;have BK511:=n1_;have HB:=n2_;clear n0_ n1_ n2_));have hcz15_:=cells13_ BK510.out) | ((with_reducible refine gate_callee (f:=16) rfl ?_);refine gl_ 26 Tryz.func16 (pr23_Instances.calls k a0_0 a0_1 a0_2 a0_3 a0_4 a0_5 a0_6 _ _ l0_7 _ _ l0_8 _ _ l0_9 _ _ l0_10 _ _ l0_11 _ _ l0_12 a1 253402300799 t514 t517 _ ?_ ?_ ?_ ?_ ?_ ?_ ?_ ?_ ?_ ?_ ?_ ?_ A8.out) ?_;(iterate 12 exact sc_);rintro e w16 ⟨v515,rfl,ho0,hb⟩;refine ⟨_,rfl,?_⟩;have HO516:=ad_ (Kd.R_lower (Kd.R_newB ho0 (g:=gb511) (blo_ BK511.out)) (below_size belg_));replace BK510:=bkb_ BK510 hb;replace BK511:=bkb_ BK511 hb;replace HB:=hbb_ hb;clear hb ho0;obtain ⟨Ao17,co17,eo17⟩:=Kd.R_slice HO516.out;subst eo17;have hcz18_:=cells4_ BK511.out))
     refine bodyPost_ret (results_ctt rfl _ _ gb511 58 #[.int .i64 0,.int .i64 0,.int .i64 0,.bool false] (0,0) _ rfl (put_ BK511) Tryz.underlying58 rfl (by kernel_rfl)) rfl ?_
     exact ⟨ret_,belg_⟩
    ·have c9b2:¬(t514 = []):=fun h_=>c9 (by rw [h_];rfl)
     replace H:=in_ H;obtain ⟨c19,H⟩:=H;have c19b0:decide (0 < (t514.length:Int))=true:=decide_eq_true c19;have c19b1:decide (0 < t514.length)=true:=decide_eq_true (by omega);clear c19
     simp only [Option.some.injEq,Prod.mk.injEq] at H
     obtain ⟨rfl,rfl,rfl,rfl,rfl,rfl⟩:=H
     go_enter Tryz.func18,Tryz.ntmps18
     go_wp2_with (first | ((with_reducible refine gate_dst (N:=2) rfl ?_);refine bx_ 2 37 ?_;intro gb510 hg w20 hbox hb;have BK510:=ad_ (hbox);have GW510:=gw_ w hg;have GE510:=GW510;replace HB:=hbb_ hb;clear hb hbox hg) | ((with_reducible refine gate_dst (N:=4) rfl ?_);refine bx_ 4 58 ?_;intro gb511 hg w21 hbox hb;have BK511:=ad_ (hbox);have GW511:=gw_ w hg;have GE511:=GW511;replace HB:=hbb_ hb;have NB510_511:=nlt_ hg BK510;have NB511_510:=ngt_ hg BK510;replace BK510:=bkb_ BK510 hb;clear hb hbox hg;have hnb22:=NB510_511.out;have hnc22:=NB511_510.out;have hcz23_:=cells13_ BK510.out) | ((with_reducible refine gate_callee (f:=12) rfl ?_);refine gl_ 11 Tryz.func12 (pr23_Right.calls k a0_0 a0_1 a0_2 a0_3 a0_4 a0_5 a0_6 _ _ l0_7 _ _ l0_8 _ _ l0_9 _ _ l0_10 _ _ l0_11 _ _ l0_12 true _ ?_ ?_ ?_ ?_ ?_ ?_ ?_ ?_ ?_ ?_ ?_ ?_ A3.out) ?_;(iterate 12 exact sc_);rintro e w24 ⟨rfl,hb⟩;refine ⟨_,rfl,?_⟩;replace BK510:=bkb_ BK510 hb;replace BK511:=bkb_ BK511 hb;replace HB:=hbb_ hb;clear hb) | ((with_reducible refine gate_callee (f:=28) rfl ?_);refine gl_ 15 Tryz.func28 (pr12_Time.calls a1 true _ A5.out) ?_;rintro e w' ⟨rfl,⟨nd,rfl⟩⟩;refine ⟨_,rfl,?_⟩;(try (rw [drewN_self w24];generalize hq_:World.drewN w24 _=w24;have n0_:Aside0 (w24.heap[gb510]? = some (.cells #[.int .i64 a0_0,.int .i64 a0_1,.bool a0_2,.int .i64 a0_3,.int .i64 a0_4,.int .i64 a0_5,.int .i64 a0_6,.slice A0_7 l0_7.length c0_7,.slice A0_8 l0_8.length c0_8,.slice A0_9 l0_9.length c0_9,.slice A0_10 l0_10.length c0_10,.slice A0_11 l0_11.length c0_11,.slice A0_12 l0_12.length c0_12] 37 (0,0))):=⟨by rw [← hq_];exact (blo_ BK510.out)⟩;have n1_:Aside0 (w24.heap[gb511]? = some (.cells #[.int .i64 0,.int .i64 0,.int .i64 0,.bool false] 58 (0,0))):=⟨by rw [← hq_];exact (blo_ BK511.out)⟩;have n2_:Aside0 (Below w.heap.size w w24):=⟨by rw [← hq_];exact belg_⟩;clear BK510 BK511 HB hq_;have BK510:=n0_;have BK511:=n1_;have HB:=n2_;clear n0_ n1_ n2_));have hcz25_:=cells13_ BK510.out) | ((with_reducible refine gate_callee (f:=16) rfl ?_);refine gl_ 26 Tryz.func16 (pr23_Instances.calls k a0_0 a0_1 a0_2 a0_3 a0_4 a0_5 a0_6 _ _ l0_7 _ _ l0_8 _ _ l0_9 _ _ l0_10 _ _ l0_11 _ _ l0_12 a1 253402300799 t514 t517 _ ?_ ?_ ?_ ?_ ?_ ?_ ?_ ?_ ?_ ?_ ?_ ?_ A8.out) ?_;(iterate 12 exact sc_);rintro e w26 ⟨v515,rfl,ho0,hb⟩;refine ⟨_,rfl,?_⟩;have HO516:=ad_ (Kd.R_lower (Kd.R_newB ho0 (g:=gb511) (blo_ BK511.out)) (below_size belg_));replace BK510:=bkb_ BK510 hb;replace BK511:=bkb_ BK511 hb;replace HB:=hbb_ hb;clear hb ho0;obtain ⟨Ao27,co27,eo27⟩:=Kd.R_slice HO516.out;subst eo27;have p518:0≤(0:Int):=(by omega);have q518:0 < (t514.length:Int):=dec_;obtain ⟨ad518,e518,hx518_0,hx518_1,hx518_2,hx518_3⟩:=at_T58 (Kd.R_reads' HO516.out).2.2 0 p518 q518;cases e518;have qi518:(0 < t514.length)=True:=eq_true (by omega);(try rw [show ((0:Int)).toNat=0 from rfl] at hx518_0);(try rw [show 0 * 4=0 from rfl] at hx518_0);(try rw [Addr.add_zero'] at hx518_0);(try rw [show ((0:Int)).toNat=0 from rfl] at hx518_1);(try rw [show 0 * 4=0 from rfl] at hx518_1);(try rw [Addr.add_zero'] at hx518_1);(try rw [show ((0:Int)).toNat=0 from rfl] at hx518_2);(try rw [show 0 * 4=0 from rfl] at hx518_2);(try rw [Addr.add_zero'] at hx518_2);(try rw [show ((0:Int)).toNat=0 from rfl] at hx518_3);(try rw [show 0 * 4=0 from rfl] at hx518_3);(try rw [Addr.add_zero'] at hx518_3);replace p518:=eq_true p518;replace q518:=eq_true q518;have hcz28_:=cells4_ BK511.out))
     refine bodyPost_ret (results_ctt rfl _ _ gb511 58 #[.int .i64 ((rd_T58 t514 0).f0),.int .i64 ((rd_T58 t514 0).f1),.int .i64 ((rd_T58 t514 0).f2),.bool ((rd_T58 t514 0).f3)] (0,0) _ rfl (put_ BK511) Tryz.underlying58 rfl (by kernel_rfl)) rfl ?_
     exact ⟨ret_,belg_⟩
   ·replace H:=Option.bind_eq_some_iff.mp H;obtain ⟨⟨t519,t522⟩,A290,H⟩:=H
    try dsimp only at H
    have A29:=ad_ A290;clear A290
    replace H:=de_ H;rcases H with ⟨H,-,c30b0,c30b1⟩|⟨H,c30,c30b0,c30b1⟩
    ·simp only [Option.some.injEq,Prod.mk.injEq] at H
     obtain ⟨rfl,rfl,rfl,rfl,rfl,rfl⟩:=H
     go_enter Tryz.func18,Tryz.ntmps18
     go_wp2_with (first | ((with_reducible refine gate_dst (N:=2) rfl ?_);refine bx_ 2 37 ?_;intro gb510 hg w31 hbox hb;have BK510:=ad_ (hbox);have GW510:=gw_ w hg;have GE510:=GW510;replace HB:=hbb_ hb;clear hb hbox hg) | ((with_reducible refine gate_dst (N:=4) rfl ?_);refine bx_ 4 58 ?_;intro gb511 hg w32 hbox hb;have BK511:=ad_ (hbox);have GW511:=gw_ w hg;have GE511:=GW511;replace HB:=hbb_ hb;have NB510_511:=nlt_ hg BK510;have NB511_510:=ngt_ hg BK510;replace BK510:=bkb_ BK510 hb;clear hb hbox hg;have hnb33:=NB510_511.out;have hnc33:=NB511_510.out;have hcz34_:=cells13_ BK510.out) | ((with_reducible refine gate_callee (f:=12) rfl ?_);refine gl_ 11 Tryz.func12 (pr23_Right.calls k a0_0 a0_1 a0_2 a0_3 a0_4 a0_5 a0_6 _ _ l0_7 _ _ l0_8 _ _ l0_9 _ _ l0_10 _ _ l0_11 _ _ l0_12 true _ ?_ ?_ ?_ ?_ ?_ ?_ ?_ ?_ ?_ ?_ ?_ ?_ A3.out) ?_;(iterate 12 exact sc_);rintro e w35 ⟨rfl,hb⟩;refine ⟨_,rfl,?_⟩;replace BK510:=bkb_ BK510 hb;replace BK511:=bkb_ BK511 hb;replace HB:=hbb_ hb;clear hb) | ((with_reducible refine gate_callee (f:=28) rfl ?_);refine gl_ 15 Tryz.func28 (pr12_Time.calls a1 true _ A5.out) ?_;rintro e w' ⟨rfl,⟨nd,rfl⟩⟩;refine ⟨_,rfl,?_⟩;(try (rw [drewN_self w35];generalize hq_:World.drewN w35 _=w35;have n0_:Aside0 (w35.heap[gb510]? = some (.cells #[.int .i64 a0_0,.int .i64 a0_1,.bool a0_2,.int .i64 a0_3,.int .i64 a0_4,.int .i64 a0_5,.int .i64 a0_6,.slice A0_7 l0_7.length c0_7,.slice A0_8 l0_8.length c0_8,.slice A0_9 l0_9.length c0_9,.slice A0_10 l0_10.length c0_10,.slice A0_11 l0_11.length c0_11,.slice A0_12 l0_12.length c0_12] 37 (0,0))):=⟨by rw [← hq_];exact (blo_ BK510.out)⟩;have n1_:Aside0 (w35.heap[gb511]? = some (.cells #[.int .i64 0,.int .i64 0,.int .i64 0,.bool false] 58 (0,0))):=⟨by rw [← hq_];exact (blo_ BK511.out)⟩;have n2_:Aside0 (Below w.heap.size w w35):=⟨by rw [← hq_];exact belg_⟩;clear BK510 BK511 HB hq_;have BK510:=n0_;have BK511:=n1_;have HB:=n2_;clear n0_ n1_ n2_));have hcz36_:=cells13_ BK510.out) | ((with_reducible refine gate_callee (f:=16) rfl ?_);refine gl_ 26 Tryz.func16 (pr23_Instances.calls k a0_0 a0_1 a0_2 a0_3 a0_4 a0_5 a0_6 _ _ l0_7 _ _ l0_8 _ _ l0_9 _ _ l0_10 _ _ l0_11 _ _ l0_12 a1 (wrap64 (a1 + 31622400)) t519 t522 _ ?_ ?_ ?_ ?_ ?_ ?_ ?_ ?_ ?_ ?_ ?_ ?_ A29.out) ?_;(iterate 12 exact sc_);rintro e w37 ⟨v520,rfl,ho0,hb⟩;refine ⟨_,rfl,?_⟩;have HO521:=ad_ (Kd.R_lower (Kd.R_newB ho0 (g:=gb511) (blo_ BK511.out)) (below_size belg_));replace BK510:=bkb_ BK510 hb;replace BK511:=bkb_ BK511 hb;replace HB:=hbb_ hb;clear hb ho0;obtain ⟨Ao38,co38,eo38⟩:=Kd.R_slice HO521.out;subst eo38;have hcz39_:=cells4_ BK511.out))
     refine bodyPost_ret (results_ctt rfl _ _ gb511 58 #[.int .i64 0,.int .i64 0,.int .i64 0,.bool false] (0,0) _ rfl (put_ BK511) Tryz.underlying58 rfl (by kernel_rfl)) rfl ?_
     exact ⟨ret_,belg_⟩
    ·have c30b2:¬(t519 = []):=fun h_=>c30 (by rw [h_];rfl)
     replace H:=in_ H;obtain ⟨c40,H⟩:=H;have c40b0:decide (0 < (t519.length:Int))=true:=decide_eq_true c40;have c40b1:decide (0 < t519.length)=true:=decide_eq_true (by omega);clear c40
     simp only [Option.some.injEq,Prod.mk.injEq] at H
     obtain ⟨rfl,rfl,rfl,rfl,rfl,rfl⟩:=H
     go_enter Tryz.func18,Tryz.ntmps18
     go_wp2_with (first | ((with_reducible refine gate_dst (N:=2) rfl ?_);refine bx_ 2 37 ?_;intro gb510 hg w41 hbox hb;have BK510:=ad_ (hbox);have GW510:=gw_ w hg;have GE510:=GW510;replace HB:=hbb_ hb;clear hb hbox hg) | ((with_reducible refine gate_dst (N:=4) rfl ?_);refine bx_ 4 58 ?_;intro gb511 hg w42 hbox hb;have BK511:=ad_ (hbox);have GW511:=gw_ w hg;have GE511:=GW511;replace HB:=hbb_ hb;have NB510_511:=nlt_ hg BK510;have NB511_510:=ngt_ hg BK510;replace BK510:=bkb_ BK510 hb;clear hb hbox hg;have hnb43:=NB510_511.out;have hnc43:=NB511_510.out;have hcz44_:=cells13_ BK510.out) | ((with_reducible refine gate_callee (f:=12) rfl ?_);refine gl_ 11 Tryz.func12 (pr23_Right.calls k a0_0 a0_1 a0_2 a0_3 a0_4 a0_5 a0_6 _ _ l0_7 _ _ l0_8 _ _ l0_9 _ _ l0_10 _ _ l0_11 _ _ l0_12 true _ ?_ ?_ ?_ ?_ ?_ ?_ ?_ ?_ ?_ ?_ ?_ ?_ A3.out) ?_;(iterate 12 exact sc_);rintro e w45 ⟨rfl,hb⟩;refine ⟨_,rfl,?_⟩;replace BK510:=bkb_ BK510 hb;replace BK511:=bkb_ BK511 hb;replace HB:=hbb_ hb;clear hb) | ((with_reducible refine gate_callee (f:=28) rfl ?_);refine gl_ 15 Tryz.func28 (pr12_Time.calls a1 true _ A5.out) ?_;rintro e w' ⟨rfl,⟨nd,rfl⟩⟩;refine ⟨_,rfl,?_⟩;(try (rw [drewN_self w45];generalize hq_:World.drewN w45 _=w45;have n0_:Aside0 (w45.heap[gb510]? = some (.cells #[.int .i64 a0_0,.int .i64 a0_1,.bool a0_2,.int .i64 a0_3,.int .i64 a0_4,.int .i64 a0_5,.int .i64 a0_6,.slice A0_7 l0_7.length c0_7,.slice A0_8 l0_8.length c0_8,.slice A0_9 l0_9.length c0_9,.slice A0_10 l0_10.length c0_10,.slice A0_11 l0_11.length c0_11,.slice A0_12 l0_12.length c0_12] 37 (0,0))):=⟨by rw [← hq_];exact (blo_ BK510.out)⟩;have n1_:Aside0 (w45.heap[gb511]? = some (.cells #[.int .i64 0,.int .i64 0,.int .i64 0,.bool false] 58 (0,0))):=⟨by rw [← hq_];exact (blo_ BK511.out)⟩;have n2_:Aside0 (Below w.heap.size w w45):=⟨by rw [← hq_];exact belg_⟩;clear BK510 BK511 HB hq_;have BK510:=n0_;have BK511:=n1_;have HB:=n2_;clear n0_ n1_ n2_));have hcz46_:=cells13_ BK510.out) | ((with_reducible refine gate_callee (f:=16) rfl ?_);refine gl_ 26 Tryz.func16 (pr23_Instances.calls k a0_0 a0_1 a0_2 a0_3 a0_4 a0_5 a0_6 _ _ l0_7 _ _ l0_8 _ _ l0_9 _ _ l0_10 _ _ l0_11 _ _ l0_12 a1 (wrap64 (a1 + 31622400)) t519 t522 _ ?_ ?_ ?_ ?_ ?_ ?_ ?_ ?_ ?_ ?_ ?_ ?_ A29.out) ?_;(iterate 12 exact sc_);rintro e w47 ⟨v520,rfl,ho0,hb⟩;refine ⟨_,rfl,?_⟩;have HO521:=ad_ (Kd.R_lower (Kd.R_newB ho0 (g:=gb511) (blo_ BK511.out)) (below_size belg_));replace BK510:=bkb_ BK510 hb;replace BK511:=bkb_ BK511 hb;replace HB:=hbb_ hb;clear hb ho0;obtain ⟨Ao48,co48,eo48⟩:=Kd.R_slice HO521.out;subst eo48;have p523:0≤(0:Int):=(by omega);have q523:0 < (t519.length:Int):=dec_;obtain ⟨ad523,e523,hx523_0,hx523_1,hx523_2,hx523_3⟩:=at_T58 (Kd.R_reads' HO521.out).2.2 0 p523 q523;cases e523;have qi523:(0 < t519.length)=True:=eq_true (by omega);(try rw [show ((0:Int)).toNat=0 from rfl] at hx523_0);(try rw [show 0 * 4=0 from rfl] at hx523_0);(try rw [Addr.add_zero'] at hx523_0);(try rw [show ((0:Int)).toNat=0 from rfl] at hx523_1);(try rw [show 0 * 4=0 from rfl] at hx523_1);(try rw [Addr.add_zero'] at hx523_1);(try rw [show ((0:Int)).toNat=0 from rfl] at hx523_2);(try rw [show 0 * 4=0 from rfl] at hx523_2);(try rw [Addr.add_zero'] at hx523_2);(try rw [show ((0:Int)).toNat=0 from rfl] at hx523_3);(try rw [show 0 * 4=0 from rfl] at hx523_3);(try rw [Addr.add_zero'] at hx523_3);replace p523:=eq_true p523;replace q523:=eq_true q523;have hcz49_:=cells4_ BK511.out))
     refine bodyPost_ret (results_ctt rfl _ _ gb511 58 #[.int .i64 ((rd_T58 t519 0).f0),.int .i64 ((rd_T58 t519 0).f1),.int .i64 ((rd_T58 t519 0).f2),.bool ((rd_T58 t519 0).f3)] (0,0) _ rfl (put_ BK511) Tryz.underlying58 rfl (by kernel_rfl)) rfl ?_
     exact ⟨ret_,belg_⟩
  ·simp only [Option.some.injEq,Prod.mk.injEq] at H
   obtain ⟨rfl,rfl,rfl,rfl,rfl,rfl⟩:=H
   go_enter Tryz.func18,Tryz.ntmps18
   go_wp2_with (first | ((with_reducible refine gate_dst (N:=2) rfl ?_);refine bx_ 2 37 ?_;intro gb510 hg w50 hbox hb;have BK510:=ad_ (hbox);have GW510:=gw_ w hg;have GE510:=GW510;replace HB:=hbb_ hb;clear hb hbox hg) | ((with_reducible refine gate_dst (N:=4) rfl ?_);refine bx_ 4 58 ?_;intro gb511 hg w51 hbox hb;have BK511:=ad_ (hbox);have GW511:=gw_ w hg;have GE511:=GW511;replace HB:=hbb_ hb;have NB510_511:=nlt_ hg BK510;have NB511_510:=ngt_ hg BK510;replace BK510:=bkb_ BK510 hb;clear hb hbox hg;have hnb52:=NB510_511.out;have hnc52:=NB511_510.out;have hcz53_:=cells13_ BK510.out) | ((with_reducible refine gate_callee (f:=12) rfl ?_);refine gl_ 11 Tryz.func12 (pr23_Right.calls k a0_0 a0_1 a0_2 a0_3 a0_4 a0_5 a0_6 _ _ l0_7 _ _ l0_8 _ _ l0_9 _ _ l0_10 _ _ l0_11 _ _ l0_12 true _ ?_ ?_ ?_ ?_ ?_ ?_ ?_ ?_ ?_ ?_ ?_ ?_ A3.out) ?_;(iterate 12 exact sc_);rintro e w54 ⟨rfl,hb⟩;refine ⟨_,rfl,?_⟩;replace BK510:=bkb_ BK510 hb;replace BK511:=bkb_ BK511 hb;replace HB:=hbb_ hb;clear hb) | ((with_reducible refine gate_callee (f:=28) rfl ?_);refine gl_ 15 Tryz.func28 (pr12_Time.calls a1 false _ A5.out) ?_;rintro e w' ⟨rfl,⟨nd,rfl⟩⟩;refine ⟨_,rfl,?_⟩;(try (rw [drewN_self w54];generalize hq_:World.drewN w54 _=w54;have n0_:Aside0 (w54.heap[gb510]? = some (.cells #[.int .i64 a0_0,.int .i64 a0_1,.bool a0_2,.int .i64 a0_3,.int .i64 a0_4,.int .i64 a0_5,.int .i64 a0_6,.slice A0_7 l0_7.length c0_7,.slice A0_8 l0_8.length c0_8,.slice A0_9 l0_9.length c0_9,.slice A0_10 l0_10.length c0_10,.slice A0_11 l0_11.length c0_11,.slice A0_12 l0_12.length c0_12] 37 (0,0))):=⟨by rw [← hq_];exact (blo_ BK510.out)⟩;have n1_:Aside0 (w54.heap[gb511]? = some (.cells #[.int .i64 0,.int .i64 0,.int .i64 0,.bool false] 58 (0,0))):=⟨by rw [← hq_];exact (blo_ BK511.out)⟩;have n2_:Aside0 (Below w.heap.size w w54):=⟨by rw [← hq_];exact belg_⟩;clear BK510 BK511 HB hq_;have BK510:=n0_;have BK511:=n1_;have HB:=n2_;clear n0_ n1_ n2_));have hcz55_:=cells4_ BK511.out))
   refine bodyPost_ret (results_ctt rfl _ _ gb511 58 #[.int .i64 0,.int .i64 0,.int .i64 0,.bool false] (0,0) _ rfl (put_ BK511) Tryz.underlying58 rfl (by kernel_rfl)) rfl ?_
   exact ⟨ret_,belg_⟩
 ·simp only [Option.some.injEq,Prod.mk.injEq] at H
  obtain ⟨rfl,rfl,rfl,rfl,rfl,rfl⟩:=H
  go_enter Tryz.func18,Tryz.ntmps18
  go_wp2_with (first | ((with_reducible refine gate_dst (N:=2) rfl ?_);refine bx_ 2 37 ?_;intro gb510 hg w56 hbox hb;have BK510:=ad_ (hbox);have GW510:=gw_ w hg;have GE510:=GW510;replace HB:=hbb_ hb;clear hb hbox hg) | ((with_reducible refine gate_dst (N:=4) rfl ?_);refine bx_ 4 58 ?_;intro gb511 hg w57 hbox hb;have BK511:=ad_ (hbox);have GW511:=gw_ w hg;have GE511:=GW511;replace HB:=hbb_ hb;have NB510_511:=nlt_ hg BK510;have NB511_510:=ngt_ hg BK510;replace BK510:=bkb_ BK510 hb;clear hb hbox hg;have hnb58:=NB510_511.out;have hnc58:=NB511_510.out;have hcz59_:=cells13_ BK510.out) | ((with_reducible refine gate_callee (f:=12) rfl ?_);refine gl_ 11 Tryz.func12 (pr23_Right.calls k a0_0 a0_1 a0_2 a0_3 a0_4 a0_5 a0_6 _ _ l0_7 _ _ l0_8 _ _ l0_9 _ _ l0_10 _ _ l0_11 _ _ l0_12 false _ ?_ ?_ ?_ ?_ ?_ ?_ ?_ ?_ ?_ ?_ ?_ ?_ A3.out) ?_;(iterate 12 exact sc_);rintro e w60 ⟨rfl,hb⟩;refine ⟨_,rfl,?_⟩;replace BK510:=bkb_ BK510 hb;replace BK511:=bkb_ BK511 hb;replace HB:=hbb_ hb;clear hb;have hcz61_:=cells4_ BK511.out))
  refine bodyPost_ret (results_ctt rfl _ _ gb511 58 #[.int .i64 0,.int .i64 0,.int .i64 0,.bool false] (0,0) _ rfl (put_ BK511) Tryz.underlying58 rfl (by kernel_rfl)) rfl ?_
  exact ⟨ret_,belg_⟩
def pr23_Same.l0:Nat→List (S58)→List (S58)→Int→Option (Bool)
 | 0,_,_,_=>none
 | k + 1,x0,x1,x5=>if x5 < (x0.length:Int) then (if 0≤x5 then (if x5 < (x1.length:Int) then (if (!(((rd_T58 x0 x5).f0) == ((rd_T58 x1 x5).f0)) || (!(((rd_T58 x0 x5).f1) == ((rd_T58 x1 x5).f1)) || (!(((rd_T58 x0 x5).f2) == ((rd_T58 x1 x5).f2)) || (!(((rd_T58 x0 x5).f3) == ((rd_T58 x1 x5).f3))))))=true then (some false) else (pr23_Same.l0 k x0 x1 (wrap64 (x5 + 1)))) else (none)) else (none)) else (some true)
def pr23_Same.f (k:Nat) (l0 l1:List (S58)):Option (Bool):=if (l0.length:Int)=(l1.length:Int) then (pr23_Same.l0 k l0 l1 0) else (some false)
set_option maxHeartbeats 8000000 in
set_option maxRecDepth 100000 in
theorem pr23_Same.calls (k:Nat) (A0:Option Addr) (c0:Nat) (l0:List (S58)) (A1:Option Addr) (c1:Nat) (l1:List (S58)) (r:Bool) (w:World) (hr0:Kd.C k58 w A0 l0.length l0) (hc0:l0.length≤c0) (hr1:Kd.C k58 w A1 l1.length l1) (hc1:l1.length≤c1) (h:pr23_Same.f k l0 l1=some r) :
  Calls Tryz.prog 19 #[.slice A0 l0.length c0,.slice A1 l1.length c1] w fun e w'=>e = .returned (.bool r)∧Drawn0 w w':=by
 have hu58:=Tryz.underlying58;have HR0:=Aside0.mk hr0;have HC0:=Aside0.mk hc0;clear hr0 hc0;have HR1:=Aside0.mk hr1;have HC1:=Aside0.mk hc1;clear hr1 hc1;have H:(if (l0.length:Int)=(l1.length:Int) then (pr23_Same.l0 k l0 l1 0) else (some false))=some r:=h;clear h
 replace H:=de_ H;rcases H with ⟨H,c3,c3b0,c3b1⟩|⟨H,c3,c3b0,c3b1⟩
 ·have c3b2:(l0.length == l1.length)=true:=by first | simpa using c3 | (simp at c3 ⊢;omega)
  clear c3;have H':=ad_ H;clear H
  go_enter Tryz.func19,Tryz.ntmps19
  go_wp2
  repeat (go_quiet (fail);try go_wp2)
  go_loopg [5] k (fun kq v5 w'=>∃ (x5_1:Int),v5 = .int .i64 x5_1∧Aside0 (pr23_Same.l0 kq l0 l1 x5_1=some r)∧Aside0 (kq≤k)∧Drawn0 w w')
  case atStart=>exact ⟨(0),val_,H',⟨Nat.le_refl _⟩,by repeat (first | exact Drawn0.refl _ | apply Drawn0.step)⟩
  case round =>
   clear H';clear c3b0 c3b1;(try clear c1);(try clear c3b2);obtain ⟨x5_1,rfl,HA,HK1,⟨m1,rfl⟩⟩:=hrel
   cases gk with
   | zero=>exact absurd HA.out (by simp [pr23_Same.l0])
   | succ k1 =>
    have H:=HA.out;clear HA
    simp only [pr23_Same.l0] at H
    replace H:=dc_ H;rcases H with ⟨H,c4b0⟩|⟨H,c4b0⟩
    ·replace H:=ind_ H;obtain ⟨c5b0,H⟩:=H
     replace H:=ind_ H;obtain ⟨c6b0,H⟩:=H
     by_cases c7:(!(((rd_T58 l0 x5_1).f0) == ((rd_T58 l1 x5_1).f0)) || (!(((rd_T58 l0 x5_1).f1) == ((rd_T58 l1 x5_1).f1)) || (!(((rd_T58 l0 x5_1).f2) == ((rd_T58 l1 x5_1).f2)) || (!(((rd_T58 l0 x5_1).f3) == ((rd_T58 l1 x5_1).f3))))))=true
     ·rw [if_pos c7] at H;have c7b0:(!(((rd_T58 l0 x5_1).f0) == ((rd_T58 l1 x5_1).f0)) || (!(((rd_T58 l0 x5_1).f1) == ((rd_T58 l1 x5_1).f1)) || (!(((rd_T58 l0 x5_1).f2) == ((rd_T58 l1 x5_1).f2)) || (!(((rd_T58 l0 x5_1).f3) == ((rd_T58 l1 x5_1).f3))))))=true:=c7;clear c7;obtain rfl:=Option.some.inj H;have p524:0≤(x5_1:Int):=dec_;have q524:x5_1 < (l0.length:Int):=dec_;obtain ⟨ad524,e524,hx524_0,hx524_1,hx524_2,hx524_3⟩:=at_T58 HR0.out x5_1 p524 q524
      cases e524
      replace p524:=eq_true p524;replace q524:=eq_true q524;have p525:0≤(x5_1:Int):=dec_;have q525:x5_1 < (l1.length:Int):=dec_;obtain ⟨ad525,e525,hx525_0,hx525_1,hx525_2,hx525_3⟩:=at_T58 HR1.out x5_1 p525 q525
      cases e525
      replace p525:=eq_true p525;replace q525:=eq_true q525
      go_wp2
      repeat (go_quiet (fail);try go_wp2)
      go_ret
      exact ⟨val_,by repeat (first | exact Drawn0.refl _ | apply Drawn0.step)⟩
     ·rw [if_neg c7] at H
      have c7b0:(!(((rd_T58 l0 x5_1).f0) == ((rd_T58 l1 x5_1).f0)) || (!(((rd_T58 l0 x5_1).f1) == ((rd_T58 l1 x5_1).f1)) || (!(((rd_T58 l0 x5_1).f2) == ((rd_T58 l1 x5_1).f2)) || (!(((rd_T58 l0 x5_1).f3) == ((rd_T58 l1 x5_1).f3))))))=false:=by simpa using c7
      clear c7;have H':=ad_ H;clear H;have p524:0≤(x5_1:Int):=dec_;have q524:x5_1 < (l0.length:Int):=dec_;obtain ⟨ad524,e524,hx524_0,hx524_1,hx524_2,hx524_3⟩:=at_T58 HR0.out x5_1 p524 q524
      cases e524
      replace p524:=eq_true p524;replace q524:=eq_true q524;have p525:0≤(x5_1:Int):=dec_;have q525:x5_1 < (l1.length:Int):=dec_;obtain ⟨ad525,e525,hx525_0,hx525_1,hx525_2,hx525_3⟩:=at_T58 HR1.out x5_1 p525 q525
      cases e525
      replace p525:=eq_true p525;replace q525:=eq_true q525
      go_wp2
      repeat (go_quiet (fail);try go_wp2)
      go_roundg k1
      case measure=>have:=HK1.out;omega
      case rel=>exact ⟨(wrap64 (x5_1 + 1)),val_,H',⟨by have:=HK1.out;omega⟩,by repeat (first | exact Drawn0.refl _ | apply Drawn0.step)⟩
    ·obtain rfl:=Option.some.inj H
     go_wp2
     repeat (go_quiet (fail);try go_wp2)
     go_ret
     exact ⟨val_,by repeat (first | exact Drawn0.refl _ | apply Drawn0.step)⟩
 ·have c3b2:(l0.length == l1.length)=false:=by first | simpa using c3 | (simp at c3 ⊢;omega)
  obtain rfl:=Option.some.inj H
  go_enter Tryz.func19,Tryz.ntmps19
  go_wp2
  repeat (go_quiet (fail);try go_wp2)
  go_ret
  exact ⟨val_,by repeat (first | exact Drawn0.refl _ | apply Drawn0.step)⟩
def pl23_AsAll.l0:Nat→List (S55)→List (S58)→Int→Option ((List (S58)))
 | 0,_,_,_=>none
 | k + 1,x0,x3,x4=>if x4 < (x0.length:Int) then (if 0≤x4 then (if x3.length < 4398046511104 then (pl23_AsAll.l0 k x0 (x3 ++ [(⟨(rd_T55 x0 x4).f0,(rd_T55 x0 x4).f1,(rd_T55 x0 x4).f2,(rd_T55 x0 x4).f3⟩:S58)]) (wrap64 (x4 + 1))) else (none)) else (none)) else (some x3)
def pl23_AsAll.f (k:Nat) (l0:List (S55)):Option ((List (S58))):=pl23_AsAll.l0 k l0 ([]:List (S58)) 0
set_option maxHeartbeats 8000000 in
set_option maxRecDepth 100000 in
theorem pl23_AsAll.calls (k:Nat) (A0:Option Addr) (c0:Nat) (l0:List (S55)) (r:List (S58)) (w:World) (hr0:Kd.C k55 w A0 l0.length l0) (hc0:l0.length≤c0) (h:pl23_AsAll.f k l0=some r) :
  Calls Tryz.prog 20 #[.slice A0 l0.length c0] w fun e w'=>∃ v0_:Value,e = .returned (v0_)∧Kd.R k58 58 w' w.heap.size (fun _=>True) v0_ r∧Below w.heap.size w w':=by
 have hu55:=Tryz.underlying55;have hu58:=Tryz.underlying58;have HR0:=Aside0.mk hr0;have HC0:=Aside0.mk hc0;clear hr0 hc0;have HB:=ad_ (Below.refl w.heap.size w);have H:(pl23_AsAll.l0 k l0 ([]:List (S58)) 0)=some r:=h;clear h;have H':=ad_ H;clear H
 go_enter Tryz.func20,Tryz.ntmps20
 go_wp2
 go_loopg [3,4] k (fun kq v3 v4 w'=>∃ (x3_1:List (S58)) (x4_1:Int),v4 = .int .i64 x4_1∧Aside0 (pl23_AsAll.l0 kq l0 x3_1 x4_1=some r)∧Aside0 (kq≤k)∧Aside0 (Kd.R k58 58 w' w.heap.size (fun _=>True) v3 x3_1)∧Aside0 (Below w.heap.size w w'))
 case atStart=>exact ⟨(([]:List (S58))),(0),val_,H',⟨Nat.le_refl _⟩,⟨by first | exact Kd.R_nil _ _ _ _ _ | exact Kd.N_nil _ _ _ _ _ | exact Kd.V_nil _ _ _ _ _ | exact Kd.Q_nil _ _ _ _ _ | exact Kd.S_nil _ _ _ _ _⟩,⟨bel_⟩⟩
 case round =>
  clear H';obtain ⟨x3_1,x4_1,rfl,HA,HK1,HO_3,HB⟩:=hrel
  cases gk with
  | zero=>exact absurd HA.out (by simp [pl23_AsAll.l0])
  | succ k1 =>
   have H:=HA.out;clear HA
   simp only [pl23_AsAll.l0] at H
   replace H:=dc_ H;rcases H with ⟨H,c2b0⟩|⟨H,c2b0⟩
   ·replace H:=ind_ H;obtain ⟨c3b0,H⟩:=H
    replace H:=in_ H;obtain ⟨c4,H⟩:=H;have LMc4:=Aside0.mk c4;clear c4;obtain ⟨y528,hy528⟩:∃ y_:List (S58),y_=(x3_1 ++ [(⟨(rd_T55 l0 x4_1).f0,(rd_T55 l0 x4_1).f1,(rd_T55 l0 x4_1).f2,(rd_T55 l0 x4_1).f3⟩:S58)]):=⟨_,rfl⟩
    replace H:(pl23_AsAll.l0 k1 l0 y528 (wrap64 (x4_1 + 1)))=some r:=by first | (rw [hy528];with_reducible exact H) | (have H2_:=(Option.bind_some _ _).symm.trans H;rw [hy528];with_reducible exact H2_) | (have H2_:=(Option.bind_some _ _).symm.trans H;with_reducible exact H2_) | with_reducible exact H | (rw [hy528];exact H) | exact H
    have Ny528:=Aside0.mk hy528;clear hy528;have H':=ad_ H;clear H;have p526:0≤(x4_1:Int):=dec_;have q526:x4_1 < (l0.length:Int):=dec_;obtain ⟨ad526,e526,hx526_0,hx526_1,hx526_2,hx526_3⟩:=at_T55 HR0.out x4_1 p526 q526
    cases e526
    replace hx526_0:=(HB.out.cell (World.block_lt_of_cell? w _ hx526_0)).trans hx526_0;replace hx526_1:=(HB.out.cell (World.block_lt_of_cell? w _ hx526_1)).trans hx526_1;replace hx526_2:=(HB.out.cell (World.block_lt_of_cell? w _ hx526_2)).trans hx526_2;replace hx526_3:=(HB.out.cell (World.block_lt_of_cell? w _ hx526_3)).trans hx526_3;replace p526:=eq_true p526;replace q526:=eq_true q526
    go_wp2_with (first | ((with_reducible refine gate_dst (N:=5) rfl ?_);refine bx_ 5 55 ?_;intro gb527 hg w5 hbox hb;replace HO_3:=ad_ (Kd.R_below (rod_ HO_3) hb);have BK527:=ad_ (hbox);have GW527:=gw_ w hg;have GE527:=GW527;replace HB:=hbb_ hb;clear hb hbox hg;have hcz6_:=cells4_ BK527.out) | ((with_reducible refine gate_builtin (b:=.append) (xs:=#[.tmp 16,.tmp 26]) rfl ?_);at_builtin;refine Kd.R_append k58 (w0:=w) w.heap.size rfl (.tmp 16) (.tmp 26) 51 58 (.agg #[(.int .i64 0),(.int .i64 0),(.int .i64 0),(.bool false)]) 32 rfl Tryz.underlying51 info58 rfl (by decide) (by omega) u3 x3_1 (⟨(rd_T55 l0 x4_1).f0,(rd_T55 l0 x4_1).f1,(rd_T55 l0 x4_1).f2,(rd_T55 l0 x4_1).f3⟩:S58) [.int .i64 ((rd_T55 l0 x4_1).f0),.int .i64 ((rd_T55 l0 x4_1).f1),.int .i64 ((rd_T55 l0 x4_1).f2),.bool ((rd_T55 l0 x4_1).f3)] (fun _=>True) (fun _=>False) rfl (by first | (go_simp;done) | (go_simp;rfl)) ?aP (fun _ hk=>hk.elim) ?aF ?aO ?aB ?aS ?aL ?_;(case aP=>exact k58_mkM _ _ _ (⟨(rd_T55 l0 x4_1).f0,(rd_T55 l0 x4_1).f1,(rd_T55 l0 x4_1).f2,(rd_T55 l0 x4_1).f3⟩:S58));(case aB=>exact belg_);(case aF=>exact (fun _ _=>trivial));(case aO=>exact (rmf_ (Kd.R_types HO_3.out BK527.out (by decide)) (fun _ hk=>trivial)));(case aS=>exact (below_size belg_));(case aL=>have:=LMc4.out;omega);intro v529 w7 ho hb hg hat;rw [← Ny528.out] at ho;replace BK527:=ad_ (blk_grown (g:=gb527) (o:=.cells #[.int .i64 ((rd_T55 l0 x4_1).f0),.int .i64 ((rd_T55 l0 x4_1).f1),.int .i64 ((rd_T55 l0 x4_1).f2),.bool ((rd_T55 l0 x4_1).f3)] 55 (0,0)) (put_ BK527) hg (Kd.R_ne HO_3.out BK527.out (by decide)));replace HB:=ad_ (hb);have HO530:=ad_ (ho);clear HO_3;clear ho hb hg hat))
    go_roundg k1
    case measure=>have:=HK1.out;omega
    case rel=>exact ⟨(y528),(wrap64 (x4_1 + 1)),val_,H',⟨by have:=HK1.out;omega⟩,⟨rod_ HO530⟩,⟨belg_⟩⟩
   ·obtain rfl:=Option.some.inj H
    go_wp2
    go_ret
    exact ⟨_,ret_,by (with_reducible repeat (first | apply Kd.R_alloc | apply Kd.R_drewN | apply Kd.R_drew));exact HO_3.out,bel_⟩
end Go.Proofs.YtkgkblmeafhkfaaGreat.PH

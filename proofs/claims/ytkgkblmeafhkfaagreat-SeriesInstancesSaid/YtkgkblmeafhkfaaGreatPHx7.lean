-- Written by a program of the session (wip/tools).
import Derived.Test.YtkgkblmeafhkfaaGreatPHx0
import Derived.Test.YtkgkblmeafhkfaaGreatPHx4
import Derived.Test.YtkgkblmeafhkfaaGreatPHx5
import Derived.Test.YtkgkblmeafhkfaaGreatPHx6
namespace Go.Proofs.YtkgkblmeafhkfaaGreat.PH
open Go.RowKit Go.Proofs.YtkgkblmeafhkfaaGreatW.PrintWords Go.Proofs.YtkgkblmeafhkfaaGreatW.PrintLast Go.Proofs.YtkgkblmeafhkfaaGreatW.PrintMore
attribute [local go_sem] max2_int min2_int max_two min_two max_three min_three max_four min_four   -- for this text's walks alone
set_option linter.unusedVariables false
set_option linter.unusedSimpArgs false

mutual
def series_Right.j0:Nat→Bool→Int→Int→Bool→Int→Int→Int→Int→List Int→List Int→List (S91)→List Int→List Int→List (S64)→Option (Bool)
 | 0,_,_,_,_,_,_,_,_,_,_,_,_,_,_=>none
 | k + 1,x30,y0,y1,y2,y3,y4,y5,y6,y7,y8,y9,y10,y11,y12=>if x30=true then (some false) else (series_Right.l0 k ([]:List Int) y12 (y12.length:Int) 0 y0 y1 y2 y3 y4 y5 y6 y7 y8 y9 y10 y11 y12)
def series_Right.l0:Nat→List Int→List (S64)→Int→Int→Int→Int→Bool→Int→Int→Int→Int→List Int→List Int→List (S91)→List Int→List Int→List (S64)→Option (Bool)
 | 0,_,_,_,_,_,_,_,_,_,_,_,_,_,_,_,_,_=>none
 | k + 1,x3,x32,x33,x34,y0,y1,y2,y3,y4,y5,y6,y7,y8,y9,y10,y11,y12=>if x34 < x33 then (if 0≤x34 then (if x34 < (x32.length:Int) then ((series_Change_right.f ((rd_T64 x32 x34).f0) ((rd_T64 x32 x34).f1) ((rd_T64 x32 x34).f2) ((rd_T64 x32 x34).f3)).bind fun t130=>(if t130=true then (if x3.length < 17592186044416 then (series_Right.l0 k (x3 ++ [(rd_T64 x32 x34).f0]) x32 x33 (wrap64 (x34 + 1)) y0 y1 y2 y3 y4 y5 y6 y7 y8 y9 y10 y11 y12) else (none)) else (some false))) else (none)) else (none)) else ((when_Right.f y0).bind fun t134=>(if t134=true then ((series_isLong.f y1).bind fun t135=>(if t135=true then ((series_rises.f k y10).bind fun t136=>(if t136=true then ((series_rises.f k y11).bind fun t137=>(if t137=true then ((series_rises.f k x3).bind fun t138=>(some t138)) else (some false))) else (some false))) else (some false))) else (some false)))
end
def series_Right.f (k:Nat) (a0_0 a0_1:Int) (a0_2:Bool) (a0_3 a0_4:Int) (a0_5 a0_6:Int) (l0_7 l0_8:List Int) (l0_9:List (S91)) (l0_10 l0_11:List Int) (l0_12:List (S64)):Option (Bool):=if (l0_12.length:Int) > 256 then (series_Right.j0 k true a0_0 a0_1 a0_2 a0_3 a0_4 a0_5 a0_6 l0_7 l0_8 l0_9 l0_10 l0_11 l0_12) else (if a0_2=true then ((recur_Right.f k a0_3 a0_4 a0_5 a0_6 l0_7 l0_8 l0_9).bind fun t126=>(if t126=true then (series_Right.j0 k false a0_0 a0_1 a0_2 a0_3 a0_4 a0_5 a0_6 l0_7 l0_8 l0_9 l0_10 l0_11 l0_12) else (series_Right.j0 k true a0_0 a0_1 a0_2 a0_3 a0_4 a0_5 a0_6 l0_7 l0_8 l0_9 l0_10 l0_11 l0_12))) else ((series_zero.f a0_3 a0_4 a0_5 a0_6 l0_7 l0_8 l0_9).bind fun t127=>(series_Right.j0 k (!t127) a0_0 a0_1 a0_2 a0_3 a0_4 a0_5 a0_6 l0_7 l0_8 l0_9 l0_10 l0_11 l0_12)))
set_option maxHeartbeats 8000000 in
set_option maxRecDepth 100000 in
theorem series_Right.calls (k:Nat) (a0_0 a0_1:Int) (a0_2:Bool) (a0_3 a0_4:Int) (a0_5 a0_6:Int) (A0_7:Option Addr) (c0_7:Nat) (l0_7:List Int) (A0_8:Option Addr) (c0_8:Nat) (l0_8:List Int) (A0_9:Option Addr) (c0_9:Nat) (l0_9:List (S91)) (A0_10:Option Addr) (c0_10:Nat) (l0_10:List Int) (A0_11:Option Addr) (c0_11:Nat) (l0_11:List Int) (A0_12:Option Addr) (c0_12:Nat) (l0_12:List (S64)) (r:Bool) (w:World) (hr0_7:Kd.C (Kd.int .i64) w A0_7 l0_7.length l0_7) (hc0_7:l0_7.length≤c0_7) (hr0_8:Kd.C (Kd.int .i64) w A0_8 l0_8.length l0_8) (hc0_8:l0_8.length≤c0_8) (hr0_9:Kd.C k91 w A0_9 l0_9.length l0_9) (hc0_9:l0_9.length≤c0_9) (hr0_10:Kd.C (Kd.int .i64) w A0_10 l0_10.length l0_10) (hc0_10:l0_10.length≤c0_10) (hr0_11:Kd.C (Kd.int .i64) w A0_11 l0_11.length l0_11) (hc0_11:l0_11.length≤c0_11) (hr0_12:Kd.C k64 w A0_12 l0_12.length l0_12) (hc0_12:l0_12.length≤c0_12) (h:series_Right.f k a0_0 a0_1 a0_2 a0_3 a0_4 a0_5 a0_6 l0_7 l0_8 l0_9 l0_10 l0_11 l0_12=some r) :
  Calls Tryz.prog 11 #[.agg #[.int .i64 a0_0,.int .i64 a0_1,.bool a0_2,.int .i64 a0_3,.int .i64 a0_4,.int .i64 a0_5,.int .i64 a0_6,.slice A0_7 l0_7.length c0_7,.slice A0_8 l0_8.length c0_8,.slice A0_9 l0_9.length c0_9,.slice A0_10 l0_10.length c0_10,.slice A0_11 l0_11.length c0_11,.slice A0_12 l0_12.length c0_12]] w fun e w'=>e = .returned (.bool r)∧Below w.heap.size w w':=by
 have hu29:=Tryz.underlying29;have hu25:=Tryz.underlying25;have hu64:=Tryz.underlying64;have HR0_7:=Aside0.mk hr0_7;have HC0_7:=Aside0.mk hc0_7;clear hr0_7 hc0_7;have HR0_8:=Aside0.mk hr0_8;have HC0_8:=Aside0.mk hc0_8;clear hr0_8 hc0_8;have HR0_9:=Aside0.mk hr0_9;have HC0_9:=Aside0.mk hc0_9;clear hr0_9 hc0_9;have HR0_10:=Aside0.mk hr0_10;have HC0_10:=Aside0.mk hc0_10;clear hr0_10 hc0_10;have HR0_11:=Aside0.mk hr0_11;have HC0_11:=Aside0.mk hc0_11;clear hr0_11 hc0_11;have HR0_12:=Aside0.mk hr0_12;have HC0_12:=Aside0.mk hc0_12;clear hr0_12 hc0_12;have HB:=ad_ (Below.refl w.heap.size w);have H:(if (l0_12.length:Int) > 256 then (series_Right.j0 k true a0_0 a0_1 a0_2 a0_3 a0_4 a0_5 a0_6 l0_7 l0_8 l0_9 l0_10 l0_11 l0_12) else (if a0_2=true then ((recur_Right.f k a0_3 a0_4 a0_5 a0_6 l0_7 l0_8 l0_9).bind fun t126=>(if t126=true then (series_Right.j0 k false a0_0 a0_1 a0_2 a0_3 a0_4 a0_5 a0_6 l0_7 l0_8 l0_9 l0_10 l0_11 l0_12) else (series_Right.j0 k true a0_0 a0_1 a0_2 a0_3 a0_4 a0_5 a0_6 l0_7 l0_8 l0_9 l0_10 l0_11 l0_12))) else ((series_zero.f a0_3 a0_4 a0_5 a0_6 l0_7 l0_8 l0_9).bind fun t127=>(series_Right.j0 k (!t127) a0_0 a0_1 a0_2 a0_3 a0_4 a0_5 a0_6 l0_7 l0_8 l0_9 l0_10 l0_11 l0_12))))=some r:=h;clear h;have HC2:=Aside0.mk H;clear H
 go_enter Tryz.func11,Tryz.ntmps11
 go_upto_region 1 with (first | ((with_reducible refine gate_dst (N:=1) rfl ?_);refine bx_ 1 29 ?_;intro gb125 hg w3 hbox hb;have BK125:=ad_ (hbox);have GW125:=gw_ w hg;have GE125:=GW125;replace HB:=hbb_ hb;clear hb hbox hg))
 (try simp only [Act.put,List.setIfInBounds_toArray,List.set_cons_zero,List.set_cons_succ])
 go_cut [30] (fun v30 wc=>∃ (kq:Nat) (x30_1:Bool),v30 = .bool x30_1∧Aside0 (series_Right.j0 kq x30_1 a0_0 a0_1 a0_2 a0_3 a0_4 a0_5 a0_6 l0_7 l0_8 l0_9 l0_10 l0_11 l0_12=some r)∧Aside0 (kq≤k)∧Aside0 (wc.heap[gb125]? = some (.cells #[.int .i64 a0_0,.int .i64 a0_1,.bool a0_2,.int .i64 a0_3,.int .i64 a0_4,.int .i64 a0_5,.int .i64 a0_6,(.slice A0_7 l0_7.length c0_7),(.slice A0_8 l0_8.length c0_8),(.slice A0_9 l0_9.length c0_9),(.slice A0_10 l0_10.length c0_10),(.slice A0_11 l0_11.length c0_11),(.slice A0_12 l0_12.length c0_12)] 29 (0,0)))∧Aside0 (Below w.heap.size w wc))
 case first =>
  have H:=HC2.out;clear HC2
  by_cases c4:(l0_12.length:Int) > 256
  ·rw [if_pos c4] at H;have c4b0:decide (256 < (l0_12.length:Int))=true:=decide_eq_true c4;have c4b1:decide (256 < l0_12.length)=true:=decide_eq_true (by omega);clear c4
   (first | rw [c4b0] | (simp only [i64_w,i32_w];rw [c4b0]) | skip)
   have H':=ad_ H;clear H;have hcz5_:=cells13_ BK125.out
   go_wp2
   go_meet
   case rel=>exact ⟨_,(true),val_,H',⟨by first | omega | exact Nat.le_refl _⟩,⟨blo_ BK125.out⟩,⟨belg_⟩⟩
  ·rw [if_neg c4] at H;have c4b0:decide (256 < (l0_12.length:Int))=false:=decide_eq_false c4;have c4b1:decide (256 < l0_12.length)=false:=decide_eq_false (by omega);clear c4
   (first | rw [c4b0] | (simp only [i64_w,i32_w];rw [c4b0]) | skip)
   replace H:=db_ H;rcases H with ⟨rfl,H⟩|⟨rfl,H⟩
   ·obtain ⟨t126,A70,H⟩:=bnd_ H
    try dsimp only at H
    have A7:=ad_ A70;clear A70
    replace H:=db_ H;rcases H with ⟨rfl,H⟩|⟨rfl,H⟩
    ·have H':=ad_ H;clear H;have hcz9_:=cells13_ BK125.out
     go_wp2_with (first | (go_at_call 32;(with_reducible refine (recur_Right.calls k a0_3 a0_4 a0_5 a0_6 _ _ l0_7 _ _ l0_8 _ _ l0_9 true _ ?_ ?_ ?_ ?_ ?_ ?_ A7.out).mono ?_);(iterate 6 exact sc_);rintro e w10 ⟨rfl,hb⟩;replace BK125:=bkb_ BK125 hb;replace HB:=hbb_ hb;clear hb;have hcz11_:=cells13_ BK125.out))
     go_meet
     case rel=>exact ⟨_,(false),val_,H',⟨by first | omega | exact Nat.le_refl _⟩,⟨blo_ BK125.out⟩,⟨belg_⟩⟩
    ·have H':=ad_ H;clear H;have hcz12_:=cells13_ BK125.out
     go_wp2_with (first | (go_at_call 32;(with_reducible refine (recur_Right.calls k a0_3 a0_4 a0_5 a0_6 _ _ l0_7 _ _ l0_8 _ _ l0_9 false _ ?_ ?_ ?_ ?_ ?_ ?_ A7.out).mono ?_);(iterate 6 exact sc_);rintro e w13 ⟨rfl,hb⟩;replace BK125:=bkb_ BK125 hb;replace HB:=hbb_ hb;clear hb))
     go_meet
     case rel=>exact ⟨_,(true),val_,H',⟨by first | omega | exact Nat.le_refl _⟩,⟨blo_ BK125.out⟩,⟨belg_⟩⟩
   ·obtain ⟨t127,A140,H⟩:=bnd_ H
    try dsimp only at H
    have A14:=ad_ A140;clear A140;have H':=ad_ H;clear H;have hcz15_:=cells13_ BK125.out
    go_wp2_with (first | (go_at_call 33;(with_reducible refine (series_zero.calls a0_3 a0_4 a0_5 a0_6 _ _ l0_7 _ _ l0_8 _ _ l0_9 t127 _ ?_ ?_ ?_ ?_ ?_ ?_ A14.out).mono ?_);(iterate 6 exact sc_);rintro e w16 ⟨rfl,hb⟩;replace BK125:=bkb_ BK125 hb;replace HB:=hbb_ hb;clear hb))
    go_meet
    case rel=>exact ⟨_,(!t127),val_,H',⟨by first | omega | exact Nat.le_refl _⟩,⟨blo_ BK125.out⟩,⟨belg_⟩⟩
 case rest =>
  clear HC2;obtain ⟨kq,x30_1,rfl,HA,HJ1,BK125,HB⟩:=hcut
  cases kq with
  | zero=>exact absurd HA.out (by simp [series_Right.j0])
  | succ kj1 =>
   have H:=HA.out;clear HA
   simp only [series_Right.j0] at H
   replace H:=db_ H;rcases H with ⟨rfl,H⟩|⟨rfl,H⟩
   ·obtain rfl:=Option.some.inj H
    go_wp2
    go_ret
    exact ⟨ret_,belg_⟩
   ·have H':=ad_ H;clear H;have hcz18_:=cells13_ BK125.out
    go_wp2
    go_loopg [3,34] kj1 (fun kq v3 v34 w'=>∃ (x3_2:List Int) (x34_2:Int),v34 = .int .i64 x34_2∧Aside0 (series_Right.l0 kq x3_2 l0_12 (l0_12.length:Int) x34_2 a0_0 a0_1 a0_2 a0_3 a0_4 a0_5 a0_6 l0_7 l0_8 l0_9 l0_10 l0_11 l0_12=some r)∧Aside0 (kq≤kj1)∧Aside0 (Kd.R (Kd.int .i64) 2 w' w.heap.size (fun _=>True) v3 x3_2)∧Aside0 (w'.heap[gb125]? = some (.cells #[.int .i64 a0_0,.int .i64 a0_1,.bool a0_2,.int .i64 a0_3,.int .i64 a0_4,.int .i64 a0_5,.int .i64 a0_6,(.slice A0_7 l0_7.length c0_7),(.slice A0_8 l0_8.length c0_8),(.slice A0_9 l0_9.length c0_9),(.slice A0_10 l0_10.length c0_10),(.slice A0_11 l0_11.length c0_11),(.slice A0_12 l0_12.length c0_12)] 29 (0,0)))∧Aside0 (Below w.heap.size w w'))
    case atStart=>exact ⟨(([]:List Int)),(0),val_,H',⟨Nat.le_refl _⟩,⟨by first | exact Kd.R_nil _ _ _ _ _ | exact Kd.N_nil _ _ _ _ _ | exact Kd.V_nil _ _ _ _ _ | exact Kd.Q_nil _ _ _ _ _ | exact Kd.S_nil _ _ _ _ _⟩,⟨blo_ BK125.out⟩,⟨belg_⟩⟩
    case round =>
     clear H';clear hcz18_;obtain ⟨x3_2,x34_2,rfl,HA,HK2,HO_3,BK125,HB⟩:=hrel
     cases gk with
     | zero=>exact absurd HA.out (by simp [series_Right.l0])
     | succ k2 =>
      have H:=HA.out;clear HA
      simp only [series_Right.l0] at H
      replace H:=dc_ H;rcases H with ⟨H,c19b0⟩|⟨H,c19b0⟩
      ·replace H:=ind_ H;obtain ⟨c20b0,H⟩:=H
       replace H:=ind_ H;obtain ⟨c21b0,H⟩:=H;obtain ⟨t130,A220,H⟩:=bnd_ H
       try dsimp only at H
       have A22:=ad_ A220;clear A220
       replace H:=db_ H;rcases H with ⟨rfl,H⟩|⟨rfl,H⟩
       ·replace H:=in_ H;obtain ⟨c24,H⟩:=H;have LMc24:=Aside0.mk c24;clear c24;obtain ⟨y131,hy131⟩:∃ y_:List Int,y_=(x3_2 ++ [(rd_T64 l0_12 x34_2).f0]):=⟨_,rfl⟩
        replace H:(series_Right.l0 k2 y131 l0_12 (l0_12.length:Int) (wrap64 (x34_2 + 1)) a0_0 a0_1 a0_2 a0_3 a0_4 a0_5 a0_6 l0_7 l0_8 l0_9 l0_10 l0_11 l0_12)=some r:=by first | (rw [hy131];with_reducible exact H) | (have H2_:=(Option.bind_some _ _).symm.trans H;rw [hy131];with_reducible exact H2_) | (have H2_:=(Option.bind_some _ _).symm.trans H;with_reducible exact H2_) | with_reducible exact H | (rw [hy131];exact H) | exact H
        have Ny131:=Aside0.mk hy131;clear hy131;have H':=ad_ H;clear H;have p128:0≤(x34_2:Int):=dec_;have q128:x34_2 < (l0_12.length:Int):=dec_;obtain ⟨ad128,e128,hx128_0,hx128_1,hx128_2,hx128_3⟩:=at_T64 HR0_12.out x34_2 p128 q128
        cases e128
        replace hx128_0:=(HB.out.cell (World.block_lt_of_cell? w _ hx128_0)).trans hx128_0;replace hx128_1:=(HB.out.cell (World.block_lt_of_cell? w _ hx128_1)).trans hx128_1;replace hx128_2:=(HB.out.cell (World.block_lt_of_cell? w _ hx128_2)).trans hx128_2;replace hx128_3:=(HB.out.cell (World.block_lt_of_cell? w _ hx128_3)).trans hx128_3;replace p128:=eq_true p128;replace q128:=eq_true q128
        go_wp2_with (first | ((with_reducible refine gate_dst (N:=5) rfl ?_);refine bx_ 5 64 ?_;intro gb129 hg w25 hbox hb;replace HO_3:=ad_ (Kd.R_below (rod_ HO_3) hb);have BK129:=ad_ (hbox);have GW129:=gw_ w hg;have GE129:=GW129;replace HB:=hbb_ hb;have NB125_129:=nlt_ hg BK125;have NB129_125:=ngt_ hg BK125;replace BK125:=bkb_ BK125 hb;clear hb hbox hg;have hnb26:=NB129_125.out;have hnc26:=NB125_129.out;have hcz27_:=cells4_ BK129.out) | ((with_reducible refine gate_callee (f:=34) rfl ?_);refine gl_ 39 Tryz.func34 (series_Change_right.calls ((rd_T64 l0_12 x34_2).f0) ((rd_T64 l0_12 x34_2).f1) ((rd_T64 l0_12 x34_2).f2) ((rd_T64 l0_12 x34_2).f3) true _ A22.out) ?_;rintro e w28 ⟨rfl,hb⟩;refine ⟨_,rfl,?_⟩;replace HO_3:=ad_ (Kd.R_below (by (with_reducible repeat (first | apply Kd.R_alloc | apply Kd.R_drewN | apply Kd.R_drew));exact (Kd.R_mono (rfar_ (Kd.R_types HO_3.out BK129.out (by decide))) (fun _ h_=>h_.1))) hb);replace BK125:=ad_ (blk_below (g:=gb125) (o:=.cells #[.int .i64 a0_0,.int .i64 a0_1,.bool a0_2,.int .i64 a0_3,.int .i64 a0_4,.int .i64 a0_5,.int .i64 a0_6,.slice A0_7 l0_7.length c0_7,.slice A0_8 l0_8.length c0_8,.slice A0_9 l0_9.length c0_9,.slice A0_10 l0_10.length c0_10,.slice A0_11 l0_11.length c0_11,.slice (some ad128) l0_12.length c0_12] 29 (0,0)) (blf_ BK125.out) hb);replace BK129:=ad_ (blk_below (g:=gb129) (o:=.cells #[.int .i64 ((rd_T64 l0_12 x34_2).f0),.int .i64 ((rd_T64 l0_12 x34_2).f1),.int .i64 ((rd_T64 l0_12 x34_2).f2),.bool ((rd_T64 l0_12 x34_2).f3)] 64 (0,0)) (put_ BK129) hb);replace HB:=hbb_ hb;clear hb;have hcz29_:=cells4_ BK129.out) | ((with_reducible refine gate_builtin (b:=.append) (xs:=#[.tmp 41,.tmp 44]) rfl ?_);at_builtin;refine Kd.R_append (Kd.int .i64) (w0:=w) w.heap.size rfl (.tmp 41) (.tmp 44) 26 2 (.int .i64 0) 8 rfl Tryz.underlying26 info2 rfl (by decide) (by omega) u3 x3_2 ((rd_T64 l0_12 x34_2).f0) [.int .i64 ((rd_T64 l0_12 x34_2).f0)] (fun _=>True) (fun _=>False) rfl rfl ?aP (fun _ hk=>hk.elim) ?aF ?aO ?aB ?aS ?aL ?_;(case aP=>exact rfl);(case aB=>exact belg_);(case aF=>exact (fun _ _=>trivial));(case aO=>exact (rod_ HO_3));(case aS=>exact (below_size belg_));(case aL=>have:=LMc24.out;omega);intro v132 w30 ho hb hg hat;rw [← Ny131.out] at ho;replace BK125:=ad_ (blk_grown (g:=gb125) (blo_ BK125.out) hg (Kd.R_ne HO_3.out BK125.out (by decide)));replace BK129:=ad_ (blk_grown (g:=gb129) (blo_ BK129.out) hg (Kd.R_ne HO_3.out BK129.out (by decide)));replace HB:=ad_ (hb);have HO133:=ad_ (ho);clear HO_3;clear ho hb hg hat))
        go_roundg k2
        case measure=>have:=HJ1.out;have:=HK2.out;omega
        case rel=>exact ⟨(y131),(wrap64 (x34_2 + 1)),val_,H',⟨by have:=HJ1.out;have:=HK2.out;omega⟩,⟨rod_ HO133⟩,⟨blo_ BK125.out⟩,⟨belg_⟩⟩
       ·obtain rfl:=Option.some.inj H;have p128:0≤(x34_2:Int):=dec_;have q128:x34_2 < (l0_12.length:Int):=dec_;obtain ⟨ad128,e128,hx128_0,hx128_1,hx128_2,hx128_3⟩:=at_T64 HR0_12.out x34_2 p128 q128
        cases e128
        replace hx128_0:=(HB.out.cell (World.block_lt_of_cell? w _ hx128_0)).trans hx128_0;replace hx128_1:=(HB.out.cell (World.block_lt_of_cell? w _ hx128_1)).trans hx128_1;replace hx128_2:=(HB.out.cell (World.block_lt_of_cell? w _ hx128_2)).trans hx128_2;replace hx128_3:=(HB.out.cell (World.block_lt_of_cell? w _ hx128_3)).trans hx128_3;replace p128:=eq_true p128;replace q128:=eq_true q128
        go_wp2_with (first | ((with_reducible refine gate_dst (N:=5) rfl ?_);refine bx_ 5 64 ?_;intro gb129 hg w31 hbox hb;replace HO_3:=ad_ (Kd.R_below (rod_ HO_3) hb);have BK129:=ad_ (hbox);have GW129:=gw_ w hg;have GE129:=GW129;replace HB:=hbb_ hb;have NB125_129:=nlt_ hg BK125;have NB129_125:=ngt_ hg BK125;replace BK125:=bkb_ BK125 hb;clear hb hbox hg;have hnb32:=NB129_125.out;have hnc32:=NB125_129.out;have hcz33_:=cells4_ BK129.out) | ((with_reducible refine gate_callee (f:=34) rfl ?_);refine gl_ 39 Tryz.func34 (series_Change_right.calls ((rd_T64 l0_12 x34_2).f0) ((rd_T64 l0_12 x34_2).f1) ((rd_T64 l0_12 x34_2).f2) ((rd_T64 l0_12 x34_2).f3) false _ A22.out) ?_;rintro e w34 ⟨rfl,hb⟩;refine ⟨_,rfl,?_⟩;replace HO_3:=ad_ (Kd.R_below (by (with_reducible repeat (first | apply Kd.R_alloc | apply Kd.R_drewN | apply Kd.R_drew));exact (Kd.R_mono (rfar_ (Kd.R_types HO_3.out BK129.out (by decide))) (fun _ h_=>h_.1))) hb);replace BK125:=ad_ (blk_below (g:=gb125) (o:=.cells #[.int .i64 a0_0,.int .i64 a0_1,.bool a0_2,.int .i64 a0_3,.int .i64 a0_4,.int .i64 a0_5,.int .i64 a0_6,.slice A0_7 l0_7.length c0_7,.slice A0_8 l0_8.length c0_8,.slice A0_9 l0_9.length c0_9,.slice A0_10 l0_10.length c0_10,.slice A0_11 l0_11.length c0_11,.slice (some ad128) l0_12.length c0_12] 29 (0,0)) (blf_ BK125.out) hb);replace BK129:=ad_ (blk_below (g:=gb129) (o:=.cells #[.int .i64 ((rd_T64 l0_12 x34_2).f0),.int .i64 ((rd_T64 l0_12 x34_2).f1),.int .i64 ((rd_T64 l0_12 x34_2).f2),.bool ((rd_T64 l0_12 x34_2).f3)] 64 (0,0)) (put_ BK129) hb);replace HB:=hbb_ hb;clear hb))
        go_ret
        exact ⟨ret_,belg_⟩
      ·obtain ⟨t134,A350,H⟩:=bnd_ H
       try dsimp only at H
       have A35:=ad_ A350;clear A350
       replace H:=db_ H;rcases H with ⟨rfl,H⟩|⟨rfl,H⟩
       ·obtain ⟨t135,A370,H⟩:=bnd_ H
        try dsimp only at H
        have A37:=ad_ A370;clear A370
        replace H:=db_ H;rcases H with ⟨rfl,H⟩|⟨rfl,H⟩
        ·obtain ⟨t136,A390,H⟩:=bnd_ H
         try dsimp only at H
         have A39:=ad_ A390;clear A390
         replace H:=db_ H;rcases H with ⟨rfl,H⟩|⟨rfl,H⟩
         ·obtain ⟨t137,A410,H⟩:=bnd_ H
          try dsimp only at H
          have A41:=ad_ A410;clear A410
          replace H:=db_ H;rcases H with ⟨rfl,H⟩|⟨rfl,H⟩
          ·obtain ⟨t138,A430,H⟩:=bnd_ H
           try dsimp only at H
           have A43:=ad_ A430;clear A430;obtain rfl:=Option.some.inj H;have hcz44_:=cells13_ BK125.out
           go_wp2_with (first | ((with_reducible refine gate_callee (f:=26) rfl ?_);refine gl_ 49 Tryz.func26 (when_Right.calls a0_0 true _ A35.out) ?_;rintro e w' ⟨rfl,⟨nd,rfl⟩⟩;refine ⟨_,rfl,?_⟩) | (go_at_call 35;(with_reducible refine (series_isLong.calls a0_1 true _ A37.out).mono ?_);rintro e w' ⟨rfl,⟨nd,rfl⟩⟩) | (go_at_call 36;(with_reducible refine (series_rises.calls k2 _ _ l0_10 true _ ?_ ?_ A39.out).mono ?_);exact cop_ (Kd.C_below HR0_10.out belg_);exact HC0_10.out;rintro e w' ⟨rfl,⟨nd,rfl⟩⟩) | (go_at_call 36;(with_reducible refine (series_rises.calls k2 _ _ l0_11 true _ ?_ ?_ A41.out).mono ?_);exact cop_ (Kd.C_below HR0_11.out belg_);exact HC0_11.out;rintro e w' ⟨rfl,⟨nd,rfl⟩⟩;obtain ⟨Ao45,co45,eo45⟩:=Kd.R_slice HO_3.out;subst eo45) | (go_at_call 36;(with_reducible refine (series_rises.calls k2 _ _ x3_2 t138 _ ?_ ?_ A43.out).mono ?_);exact cop_ (Kd.R_reads' HO_3.out).2.2;exact (Kd.R_reads' HO_3.out).2.1;rintro e w' ⟨rfl,⟨nd,rfl⟩⟩))
           go_ret
           exact ⟨ret_,belg_⟩
          ·obtain rfl:=Option.some.inj H;have hcz46_:=cells13_ BK125.out
           go_wp2_with (first | ((with_reducible refine gate_callee (f:=26) rfl ?_);refine gl_ 49 Tryz.func26 (when_Right.calls a0_0 true _ A35.out) ?_;rintro e w' ⟨rfl,⟨nd,rfl⟩⟩;refine ⟨_,rfl,?_⟩) | (go_at_call 35;(with_reducible refine (series_isLong.calls a0_1 true _ A37.out).mono ?_);rintro e w' ⟨rfl,⟨nd,rfl⟩⟩) | (go_at_call 36;(with_reducible refine (series_rises.calls k2 _ _ l0_10 true _ ?_ ?_ A39.out).mono ?_);exact cop_ (Kd.C_below HR0_10.out belg_);exact HC0_10.out;rintro e w' ⟨rfl,⟨nd,rfl⟩⟩) | (go_at_call 36;(with_reducible refine (series_rises.calls k2 _ _ l0_11 false _ ?_ ?_ A41.out).mono ?_);exact cop_ (Kd.C_below HR0_11.out belg_);exact HC0_11.out;rintro e w' ⟨rfl,⟨nd,rfl⟩⟩))
           go_ret
           exact ⟨ret_,belg_⟩
         ·obtain rfl:=Option.some.inj H;have hcz47_:=cells13_ BK125.out
          go_wp2_with (first | ((with_reducible refine gate_callee (f:=26) rfl ?_);refine gl_ 49 Tryz.func26 (when_Right.calls a0_0 true _ A35.out) ?_;rintro e w' ⟨rfl,⟨nd,rfl⟩⟩;refine ⟨_,rfl,?_⟩) | (go_at_call 35;(with_reducible refine (series_isLong.calls a0_1 true _ A37.out).mono ?_);rintro e w' ⟨rfl,⟨nd,rfl⟩⟩) | (go_at_call 36;(with_reducible refine (series_rises.calls k2 _ _ l0_10 false _ ?_ ?_ A39.out).mono ?_);exact cop_ (Kd.C_below HR0_10.out belg_);exact HC0_10.out;rintro e w' ⟨rfl,⟨nd,rfl⟩⟩))
          go_ret
          exact ⟨ret_,belg_⟩
        ·obtain rfl:=Option.some.inj H;have hcz48_:=cells13_ BK125.out
         go_wp2_with (first | ((with_reducible refine gate_callee (f:=26) rfl ?_);refine gl_ 49 Tryz.func26 (when_Right.calls a0_0 true _ A35.out) ?_;rintro e w' ⟨rfl,⟨nd,rfl⟩⟩;refine ⟨_,rfl,?_⟩) | (go_at_call 35;(with_reducible refine (series_isLong.calls a0_1 false _ A37.out).mono ?_);rintro e w' ⟨rfl,⟨nd,rfl⟩⟩))
         go_ret
         exact ⟨ret_,belg_⟩
       ·obtain rfl:=Option.some.inj H;have hcz49_:=cells13_ BK125.out
        go_wp2_with (first | ((with_reducible refine gate_callee (f:=26) rfl ?_);refine gl_ 49 Tryz.func26 (when_Right.calls a0_0 false _ A35.out) ?_;rintro e w' ⟨rfl,⟨nd,rfl⟩⟩;refine ⟨_,rfl,?_⟩))
        go_ret
        exact ⟨ret_,belg_⟩
end Go.Proofs.YtkgkblmeafhkfaaGreat.PH

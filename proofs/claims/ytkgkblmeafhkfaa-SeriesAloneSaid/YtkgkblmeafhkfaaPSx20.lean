-- Written by a program of the session (wip/tools).
import Derived.Test.YtkgkblmeafhkfaaPSx0
import Derived.Test.YtkgkblmeafhkfaaPSx2
namespace Go.Proofs.Ytkgkblmeafhkfaa.PS
open Go.RowKit Go.Proofs.YtkgkblmeafhkfaaW.PrintWords Go.Proofs.YtkgkblmeafhkfaaW.PrintLast Go.Proofs.YtkgkblmeafhkfaaW.PrintMore
attribute [local go_sem] max2_int min2_int max_two min_two max_three min_three max_four min_four   -- for this text's walks alone
set_option linter.unusedVariables false
set_option linter.unusedSimpArgs false

attribute [local go_sem high] eqA62
/-! ### posthornref23_Same: function 11 -/
def posthornref23_Same.l0:Nat→List (S62)→List (S62)→Int→Option (Bool)
 | 0,_,_,_=>none
 | k + 1,x0,x1,x5=>if x5 < (x0.length:Int) then (if 0≤x5 then (if x5 < (x1.length:Int) then (if (!(((rd_T62 x0 x5).f0) == ((rd_T62 x1 x5).f0)) || (!(((rd_T62 x0 x5).f1) == ((rd_T62 x1 x5).f1)) || (!(((rd_T62 x0 x5).f2) == ((rd_T62 x1 x5).f2)) || (!(((rd_T62 x0 x5).f3) == ((rd_T62 x1 x5).f3))))))=true then (some false) else (posthornref23_Same.l0 k x0 x1 (wrap64 (x5 + 1)))) else (none)) else (none)) else (some true)
def posthornref23_Same.f (k:Nat) (l0:List (S62)) (l1:List (S62)):Option (Bool):=if (l0.length:Int)=(l1.length:Int) then (posthornref23_Same.l0 k l0 l1 0) else (some false)
theorem posthornref23_Same.mono_l:∀ k,(∀ y0 y1 y2,LeO (posthornref23_Same.l0 k y0 y1 y2) (posthornref23_Same.l0 (k + 1) y0 y1 y2))
 | 0=>fun _ _ _ r h=>by simp [posthornref23_Same.l0] at h
 | k + 1=>by
  have ih0:=posthornref23_Same.mono_l k
  ·intro y0 y1 y2
   unfold posthornref23_Same.l0
   repeat' first
   | (with_reducible exact ih0 ..)
   | (with_reducible exact LeO.refl ..)
   | (with_reducible exact LeO.none ..)
   | (with_reducible refine LeO.ite ?_ ?_)
   | (with_reducible refine LeO.bind ?_ (fun _=>?_))
   | exact ih0 ..
   | exact LeO.none ..
   | refine LeO.ite ?_ ?_
   | refine LeO.bind ?_ (fun _=>?_)
theorem posthornref23_Same.mono:∀ a0 a1 k,LeO (posthornref23_Same.f k a0 a1) (posthornref23_Same.f (k + 1) a0 a1):=by
 intro a0 a1 k;have ih0:=posthornref23_Same.mono_l k
 unfold posthornref23_Same.f
 repeat' first
   | (with_reducible exact ih0 ..)
   | (with_reducible exact LeO.refl ..)
   | (with_reducible exact LeO.none ..)
   | (with_reducible refine LeO.ite ?_ ?_)
   | (with_reducible refine LeO.bind ?_ (fun _=>?_))
   | exact ih0 ..
   | exact LeO.none ..
   | refine LeO.ite ?_ ?_
   | refine LeO.bind ?_ (fun _=>?_)
set_option maxHeartbeats 8000000 in
set_option maxRecDepth 100000 in
theorem posthornref23_Same.calls (k:Nat) (A0:Option Addr) (c0:Nat) (l0:List (S62)) (A1:Option Addr) (c1:Nat) (l1:List (S62)) (r:Bool) (w:World) (hr0:Kd.C k62 w A0 l0.length l0) (hc0:l0.length≤c0) (hr1:Kd.C k62 w A1 l1.length l1) (hc1:l1.length≤c1) (h:posthornref23_Same.f k l0 l1=some r) :
  Calls Try.prog 11 #[.slice A0 l0.length c0,.slice A1 l1.length c1] w fun e w'=>e = .returned (.bool r)∧Drawn0 w w':=by
 have hu62:=Try.underlying62;have HR0:=Aside0.mk hr0;have HC0:=Aside0.mk hc0;clear hr0 hc0;have HR1:=Aside0.mk hr1;have HC1:=Aside0.mk hc1;clear hr1 hc1;have H:(if (l0.length:Int)=(l1.length:Int) then (posthornref23_Same.l0 k l0 l1 0) else (some false))=some r:=h;clear h
 by_cases c3:(l0.length:Int)=(l1.length:Int)
 ·rw [if_pos c3] at H;have c3b0:((l0.length:Int) == (l1.length:Int))=true:=beq_iff_eq.mpr c3;have c3b1:((l0.length:Int) != (l1.length:Int))=false:=bne_eq_false_iff_eq.mpr c3
  have c3b2:(l0.length == l1.length)=true:=by first | simpa using c3 | (simp at c3 ⊢;omega)
  clear c3;have H':=ad_ H;clear H
  go_enter Try.func11,Try.ntmps11
  go_wp2
  repeat (go_quiet (fail);try go_wp2)
  go_loopg [5] k (fun kq v5 w'=>∃ (x5_1:Int),v5 = .int .i64 x5_1∧Aside0 (posthornref23_Same.l0 kq l0 l1 x5_1=some r)∧Aside0 (kq≤k)∧Drawn0 w w')
  case atStart=>exact ⟨(0),val_,H',⟨Nat.le_refl _⟩,by repeat (first | exact Drawn0.refl _ | apply Drawn0.step)⟩
  case round =>
   clear H';(try clear c1);(try clear p2);(try clear c3);(try clear c3b0);(try clear c3b1);(try clear c3b2);obtain ⟨x5_1,rfl,HA,HK1,⟨m1,rfl⟩⟩:=hrel
   cases gk with
   | zero=>exact absurd HA.out (by simp [posthornref23_Same.l0])
   | succ k1 =>
    have H:=HA.out;clear HA
    simp only [posthornref23_Same.l0] at H
    by_cases c4:x5_1 < (l0.length:Int)
    ·rw [if_pos c4] at H;have c4b0:decide (x5_1 < (l0.length:Int))=true:=decide_eq_true c4;clear c4
     by_cases c5:0≤x5_1
     ·rw [if_pos c5] at H;have c5b0:decide (0≤x5_1)=true:=decide_eq_true c5;clear c5
      by_cases c6:x5_1 < (l1.length:Int)
      ·rw [if_pos c6] at H;have c6b0:decide (x5_1 < (l1.length:Int))=true:=decide_eq_true c6;clear c6
       by_cases c7:(!(((rd_T62 l0 x5_1).f0) == ((rd_T62 l1 x5_1).f0)) || (!(((rd_T62 l0 x5_1).f1) == ((rd_T62 l1 x5_1).f1)) || (!(((rd_T62 l0 x5_1).f2) == ((rd_T62 l1 x5_1).f2)) || (!(((rd_T62 l0 x5_1).f3) == ((rd_T62 l1 x5_1).f3))))))=true
       ·rw [if_pos c7] at H;have c7b0:(!(((rd_T62 l0 x5_1).f0) == ((rd_T62 l1 x5_1).f0)) || (!(((rd_T62 l0 x5_1).f1) == ((rd_T62 l1 x5_1).f1)) || (!(((rd_T62 l0 x5_1).f2) == ((rd_T62 l1 x5_1).f2)) || (!(((rd_T62 l0 x5_1).f3) == ((rd_T62 l1 x5_1).f3))))))=true:=c7;clear c7;obtain rfl:=Option.some.inj H;have p398:0≤(x5_1:Int):=dec_;have q398:x5_1 < (l0.length:Int):=dec_;obtain ⟨ad398,e398,hx398_0,hx398_1,hx398_2,hx398_3⟩:=at_T62 HR0.out x5_1 p398 q398
        cases e398
        replace p398:=eq_true p398;replace q398:=eq_true q398;have p399:0≤(x5_1:Int):=dec_;have q399:x5_1 < (l1.length:Int):=dec_;obtain ⟨ad399,e399,hx399_0,hx399_1,hx399_2,hx399_3⟩:=at_T62 HR1.out x5_1 p399 q399
        cases e399
        replace p399:=eq_true p399;replace q399:=eq_true q399
        go_wp2
        repeat (go_quiet (fail);try go_wp2)
        go_ret
        exact ⟨val_,by repeat (first | exact Drawn0.refl _ | apply Drawn0.step)⟩
       ·rw [if_neg c7] at H
        have c7b0:(!(((rd_T62 l0 x5_1).f0) == ((rd_T62 l1 x5_1).f0)) || (!(((rd_T62 l0 x5_1).f1) == ((rd_T62 l1 x5_1).f1)) || (!(((rd_T62 l0 x5_1).f2) == ((rd_T62 l1 x5_1).f2)) || (!(((rd_T62 l0 x5_1).f3) == ((rd_T62 l1 x5_1).f3))))))=false:=by simpa using c7
        clear c7;have H':=ad_ H;clear H;have p398:0≤(x5_1:Int):=dec_;have q398:x5_1 < (l0.length:Int):=dec_;obtain ⟨ad398,e398,hx398_0,hx398_1,hx398_2,hx398_3⟩:=at_T62 HR0.out x5_1 p398 q398
        cases e398
        replace p398:=eq_true p398;replace q398:=eq_true q398;have p399:0≤(x5_1:Int):=dec_;have q399:x5_1 < (l1.length:Int):=dec_;obtain ⟨ad399,e399,hx399_0,hx399_1,hx399_2,hx399_3⟩:=at_T62 HR1.out x5_1 p399 q399
        cases e399
        replace p399:=eq_true p399;replace q399:=eq_true q399
        go_wp2
        repeat (go_quiet (fail);try go_wp2)
        go_roundg k1
        case measure=>have:=HK1.out;omega
        case rel=>exact ⟨(wrap64 (x5_1 + 1)),val_,H',⟨by have:=HK1.out;omega⟩,by repeat (first | exact Drawn0.refl _ | apply Drawn0.step)⟩
      ·rw [if_neg c6] at H;exact absurd H (by simp)
     ·rw [if_neg c5] at H;exact absurd H (by simp)
    ·rw [if_neg c4] at H;have c4b0:decide (x5_1 < (l0.length:Int))=false:=decide_eq_false c4;clear c4;obtain rfl:=Option.some.inj H
     go_wp2
     repeat (go_quiet (fail);try go_wp2)
     go_ret
     exact ⟨val_,by repeat (first | exact Drawn0.refl _ | apply Drawn0.step)⟩
 ·rw [if_neg c3] at H;have c3b0:((l0.length:Int) == (l1.length:Int))=false:=beq_eq_false_iff_ne.mpr c3;have c3b1:((l0.length:Int) != (l1.length:Int))=true:=bne_iff_ne.mpr c3
  have c3b2:(l0.length == l1.length)=false:=by first | simpa using c3 | (simp at c3 ⊢;omega)
  obtain rfl:=Option.some.inj H
  go_enter Try.func11,Try.ntmps11
  go_wp2
  repeat (go_quiet (fail);try go_wp2)
  go_ret
  exact ⟨val_,by repeat (first | exact Drawn0.refl _ | apply Drawn0.step)⟩

/-! ### posthornlaw23_AsAll: function 12 -/
def posthornlaw23_AsAll.l0:Nat→List (S37)→List (S62)→Int→Option ((List (S62)))
 | 0,_,_,_=>none
 | k + 1,x0,x3,x4=>if x4 < (x0.length:Int) then (if 0≤x4 then (if x3.length < 4398046511104 then (posthornlaw23_AsAll.l0 k x0 (x3 ++ [(⟨(rd_T37 x0 x4).f0,(rd_T37 x0 x4).f1,(rd_T37 x0 x4).f2,(rd_T37 x0 x4).f3⟩:S62)]) (wrap64 (x4 + 1))) else (none)) else (none)) else (some x3)
def posthornlaw23_AsAll.f (k:Nat) (l0:List (S37)):Option ((List (S62))):=posthornlaw23_AsAll.l0 k l0 ([]:List (S62)) 0
theorem posthornlaw23_AsAll.mono_l:∀ k,(∀ y0 y1 y2,LeO (posthornlaw23_AsAll.l0 k y0 y1 y2) (posthornlaw23_AsAll.l0 (k + 1) y0 y1 y2))
 | 0=>fun _ _ _ r h=>by simp [posthornlaw23_AsAll.l0] at h
 | k + 1=>by
  have ih0:=posthornlaw23_AsAll.mono_l k
  ·intro y0 y1 y2
   unfold posthornlaw23_AsAll.l0
   repeat' first
   | (with_reducible exact ih0 ..)
   | (with_reducible exact LeO.refl ..)
   | (with_reducible exact LeO.none ..)
   | (with_reducible refine LeO.ite ?_ ?_)
   | (with_reducible refine LeO.bind ?_ (fun _=>?_))
   | exact ih0 ..
   | exact LeO.none ..
   | refine LeO.ite ?_ ?_
   | refine LeO.bind ?_ (fun _=>?_)
theorem posthornlaw23_AsAll.mono:∀ a0 k,LeO (posthornlaw23_AsAll.f k a0) (posthornlaw23_AsAll.f (k + 1) a0):=by
 intro a0 k;have ih0:=posthornlaw23_AsAll.mono_l k
 unfold posthornlaw23_AsAll.f
 repeat' first
   | (with_reducible exact ih0 ..)
   | (with_reducible exact LeO.refl ..)
   | (with_reducible exact LeO.none ..)
   | (with_reducible refine LeO.ite ?_ ?_)
   | (with_reducible refine LeO.bind ?_ (fun _=>?_))
   | exact ih0 ..
   | exact LeO.none ..
   | refine LeO.ite ?_ ?_
   | refine LeO.bind ?_ (fun _=>?_)
set_option maxHeartbeats 8000000 in
set_option maxRecDepth 100000 in
theorem posthornlaw23_AsAll.calls (k:Nat) (A0:Option Addr) (c0:Nat) (l0:List (S37)) (r:List (S62)) (w:World) (hr0:Kd.C k37 w A0 l0.length l0) (hc0:l0.length≤c0) (h:posthornlaw23_AsAll.f k l0=some r) :
  Calls Try.prog 12 #[.slice A0 l0.length c0] w fun e w'=>∃ v0_:Value,e = .returned (v0_)∧Kd.R k62 62 w' w.heap.size (fun _=>True) v0_ r∧Below w.heap.size w w':=by
 have hu37:=Try.underlying37;have hu62:=Try.underlying62;have HR0:=Aside0.mk hr0;have HC0:=Aside0.mk hc0;clear hr0 hc0;have HB:=ad_ (Below.refl w.heap.size w);have H:(posthornlaw23_AsAll.l0 k l0 ([]:List (S62)) 0)=some r:=h;clear h;have H':=ad_ H;clear H
 go_enter Try.func12,Try.ntmps12
 go_wp2
 go_loopg [3,4] k (fun kq v3 v4 w'=>∃ (x3_1:List (S62)) (x4_1:Int),v4 = .int .i64 x4_1∧Aside0 (posthornlaw23_AsAll.l0 kq l0 x3_1 x4_1=some r)∧Aside0 (kq≤k)∧Aside0 (Kd.R k62 62 w' w.heap.size (fun _=>True) v3 x3_1)∧Aside0 (Below w.heap.size w w'))
 case atStart=>exact ⟨(([]:List (S62))),(0),val_,H',⟨Nat.le_refl _⟩,⟨by first | exact Kd.R_nil _ _ _ _ _ | exact Kd.N_nil _ _ _ _ _ | exact Kd.V_nil _ _ _ _ _ | exact Kd.Q_nil _ _ _ _ _ | exact Kd.S_nil _ _ _ _ _⟩,⟨bel_⟩⟩
 case round =>
  clear H';(try clear c1);obtain ⟨x3_1,x4_1,rfl,HA,HK1,HO_3,HB⟩:=hrel
  cases gk with
  | zero=>exact absurd HA.out (by simp [posthornlaw23_AsAll.l0])
  | succ k1 =>
   have H:=HA.out;clear HA
   simp only [posthornlaw23_AsAll.l0] at H
   by_cases c2:x4_1 < (l0.length:Int)
   ·rw [if_pos c2] at H;have c2b0:decide (x4_1 < (l0.length:Int))=true:=decide_eq_true c2;clear c2
    by_cases c3:0≤x4_1
    ·rw [if_pos c3] at H;have c3b0:decide (0≤x4_1)=true:=decide_eq_true c3;clear c3
     by_cases c4:x3_1.length < 4398046511104
     ·rw [if_pos c4] at H;have LMc4:=Aside0.mk c4;clear c4;obtain ⟨y402,hy402⟩:∃ y_:List (S62),y_=(x3_1 ++ [(⟨(rd_T37 l0 x4_1).f0,(rd_T37 l0 x4_1).f1,(rd_T37 l0 x4_1).f2,(rd_T37 l0 x4_1).f3⟩:S62)]):=⟨_,rfl⟩
      replace H:(posthornlaw23_AsAll.l0 k1 l0 y402 (wrap64 (x4_1 + 1)))=some r:=by first | (rw [hy402];with_reducible exact H) | (have H2_:=(Option.bind_some _ _).symm.trans H;rw [hy402];with_reducible exact H2_) | (have H2_:=(Option.bind_some _ _).symm.trans H;with_reducible exact H2_) | with_reducible exact H | (rw [hy402];exact H) | exact H
      have Ny402:=Aside0.mk hy402;clear hy402;have H':=ad_ H;clear H;have p400:0≤(x4_1:Int):=dec_;have q400:x4_1 < (l0.length:Int):=dec_;obtain ⟨ad400,e400,hx400_0,hx400_1,hx400_2,hx400_3⟩:=at_T37 HR0.out x4_1 p400 q400
      cases e400
      replace hx400_0:=(HB.out.cell (World.block_lt_of_cell? w _ hx400_0)).trans hx400_0;replace hx400_1:=(HB.out.cell (World.block_lt_of_cell? w _ hx400_1)).trans hx400_1;replace hx400_2:=(HB.out.cell (World.block_lt_of_cell? w _ hx400_2)).trans hx400_2;replace hx400_3:=(HB.out.cell (World.block_lt_of_cell? w _ hx400_3)).trans hx400_3;replace p400:=eq_true p400;replace q400:=eq_true q400
      go_wp2_with (first | ((with_reducible refine gate_dst (N:=5) rfl ?_);refine box_event ?hg (N:=5) ?hd (cs:=#[.int .i64 0,.int .i64 0,.int .i64 0,.bool false]) (t:=37) ?hr ?_;(case hd=>rfl);(case hg=>rfl);(case hr=>first | (go_simp;done) | (go_simp;rfl));intro gb401 hg w5 hbox hb;replace HO_3:=ad_ (Kd.R_below (rod_ HO_3) hb);have BK401:=ad_ (hbox);have GW401:=ad_ ((by rw [hg];exact (below_size bel_):w.heap.size≤gb401));have GE401:=ad_ ((by rw [hg];exact (below_size bel_):w.heap.size≤gb401));replace HB:=hbb_ hb;clear hb hbox hg;have hcz6_:=cells4_ BK401.out) | ((with_reducible refine gate_builtin (b:=.append) (xs:=#[.tmp 16,.tmp 26]) rfl ?_);at_builtin;refine Kd.R_append k62 (w0:=w) w.heap.size rfl (.tmp 16) (.tmp 26) 46 62 (.agg #[(.int .i64 0),(.int .i64 0),(.int .i64 0),(.bool false)]) 32 rfl Try.underlying46 info62 rfl (by decide) (by omega) u3 x3_1 (⟨(rd_T37 l0 x4_1).f0,(rd_T37 l0 x4_1).f1,(rd_T37 l0 x4_1).f2,(rd_T37 l0 x4_1).f3⟩:S62) [.int .i64 ((rd_T37 l0 x4_1).f0),.int .i64 ((rd_T37 l0 x4_1).f1),.int .i64 ((rd_T37 l0 x4_1).f2),.bool ((rd_T37 l0 x4_1).f3)] (fun _=>True) (fun _=>False) rfl (by first | (go_simp;done) | (go_simp;rfl)) ?aP (fun _ hk=>hk.elim) ?aF ?aO ?aB ?aS ?aL ?_;(case aP=>exact k62_mkM _ _ _ (⟨(rd_T37 l0 x4_1).f0,(rd_T37 l0 x4_1).f1,(rd_T37 l0 x4_1).f2,(rd_T37 l0 x4_1).f3⟩:S62));(case aB=>exact belg_);(case aF=>exact (fun _ _=>trivial));(case aO=>exact (by (with_reducible repeat (first | apply Kd.R_alloc | apply Kd.R_drewN | apply Kd.R_drew));exact Kd.R_mono (rfar_ (Kd.R_types HO_3.out BK401.out (by decide))) (fun _ hk=>trivial)));(case aS=>exact (below_size belg_));(case aL=>have:=LMc4.out;omega);intro v403 w7 ho hb hg hat;rw [← Ny402.out] at ho;replace BK401:=ad_ (blk_grown (g:=gb401) (o:=.cells #[.int .i64 ((rd_T37 l0 x4_1).f0),.int .i64 ((rd_T37 l0 x4_1).f1),.int .i64 ((rd_T37 l0 x4_1).f2),.bool ((rd_T37 l0 x4_1).f3)] 37 (0,0)) (by refine blo_ ?_;refine blk_put (cs:=#[.int .i64 ((rd_T37 l0 x4_1).f0),.int .i64 ((rd_T37 l0 x4_1).f1),.int .i64 ((rd_T37 l0 x4_1).f2),.bool false]) ?_ 3 _ rfl;refine blo_ ?_;refine blk_put (cs:=#[.int .i64 ((rd_T37 l0 x4_1).f0),.int .i64 ((rd_T37 l0 x4_1).f1),.int .i64 0,.bool false]) ?_ 2 _ rfl;refine blo_ ?_;refine blk_put (cs:=#[.int .i64 ((rd_T37 l0 x4_1).f0),.int .i64 0,.int .i64 0,.bool false]) ?_ 1 _ rfl;refine blo_ ?_;refine blk_put (cs:=#[.int .i64 0,.int .i64 0,.int .i64 0,.bool false]) ?_ 0 _ rfl;exact blo_ BK401.out) hg (Kd.R_ne HO_3.out BK401.out (by decide)));replace HB:=ad_ (hb);have HO404:=ad_ (ho);clear HO_3;clear ho hb hg hat))
      go_roundg k1
      case measure=>have:=HK1.out;omega
      case rel=>exact ⟨(y402),(wrap64 (x4_1 + 1)),val_,H',⟨by have:=HK1.out;omega⟩,⟨rod_ HO404⟩,⟨belg_⟩⟩
     ·rw [if_neg c4] at H;exact absurd H (by simp)
    ·rw [if_neg c3] at H;exact absurd H (by simp)
   ·rw [if_neg c2] at H;have c2b0:decide (x4_1 < (l0.length:Int))=false:=decide_eq_false c2;clear c2;obtain rfl:=Option.some.inj H
    go_wp2
    go_ret
    exact ⟨_,ret_,by (with_reducible repeat (first | apply Kd.R_alloc | apply Kd.R_drewN | apply Kd.R_drew));exact HO_3.out,bel_⟩

end Go.Proofs.Ytkgkblmeafhkfaa.PS

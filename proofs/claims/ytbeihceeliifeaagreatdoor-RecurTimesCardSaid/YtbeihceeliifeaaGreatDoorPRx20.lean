-- Written by a program of the session (wip/tools).
import Derived.Test.YtbeihceeliifeaaGreatDoorPRx0
import Derived.Test.YtbeihceeliifeaaGreatDoorPRx3
import Derived.Test.YtbeihceeliifeaaGreatDoorPRx7
import Derived.Test.YtbeihceeliifeaaGreatDoorPRx9
import Derived.Test.YtbeihceeliifeaaGreatDoorPRx15
namespace Go.Proofs.YtbeihceeliifeaaGreatDoor.PR
open Go.RowKit Go.Proofs.YtbeihceeliifeaaGreatDoorW.PrintWords Go.Proofs.YtbeihceeliifeaaGreatDoorW.PrintLast Go.Proofs.YtbeihceeliifeaaGreatDoorW.PrintMore
attribute [local go_sem] max2_int min2_int max_two min_two max_three min_three max_four min_four   -- for this text's walks alone
set_option linter.unusedVariables false
set_option linter.unusedSimpArgs false

/-! ### posthornlaw21_RecurTimes: function 5 -/
mutual
def posthornlaw21_RecurTimes.j0:Nat→Int→Int→Bool→Int→Int→Int→Int→List Int→List Int→List (S53)→Option (Bool)
 | 0,_,_,_,_,_,_,_,_,_,_=>none
 | k + 1,x1,x2,x21,x360000,x360001,x360002,x360003,x360004,x360005,x360006=>if x21=true then ((posthornlaw21_alive.f k).bind fun t362=>(some t362)) else ((recur_Expand.f k x360000 x360001 x360002 x360003 x360004 x360005 x360006 x1 x1 x2 40).bind fun bt363=>(if bt363.2=0 then (posthornlaw21_RecurTimes.l0 k x1 x2 bt363.1 0 x360000 x360001 x360002 x360003 x360004 x360005 x360006) else ((posthornlaw21_alive.f k).bind fun t367=>(if t367=true then (some ((bt363.1.length:Int) == 0)) else (some false)))))
def posthornlaw21_RecurTimes.l0:Nat→Int→Int→List Int→Int→Int→Int→Int→Int→List Int→List Int→List (S53)→Option (Bool)
 | 0,_,_,_,_,_,_,_,_,_,_,_=>none
 | k + 1,x1,x2,x7,x9,x360000,x360001,x360002,x360003,x360004,x360005,x360006=>if x9 < (x7.length:Int) then (if 0≤x9 then (if (Int.tmod (wrap64 ((rd x7 x9) - x1)) 86400)=0 then (if (rd x7 x9) < x1 then (posthornlaw21_RecurTimes.j2 k x1 x2 x7 x9 true x360000 x360001 x360002 x360003 x360004 x360005 x360006) else (if (rd x7 x9) ≥ x2 then (posthornlaw21_RecurTimes.j2 k x1 x2 x7 x9 true x360000 x360001 x360002 x360003 x360004 x360005 x360006) else (if x9=0 then (if 0 < (x7.length:Int) then (posthornlaw21_RecurTimes.j2 k x1 x2 x7 x9 ((rd x7 0) != x1) x360000 x360001 x360002 x360003 x360004 x360005 x360006) else (none)) else (posthornlaw21_RecurTimes.j2 k x1 x2 x7 x9 false x360000 x360001 x360002 x360003 x360004 x360005 x360006)))) else (posthornlaw21_RecurTimes.j2 k x1 x2 x7 x9 true x360000 x360001 x360002 x360003 x360004 x360005 x360006)) else (none)) else ((posthornlaw21_alive.f k).bind fun t368=>(if t368=true then (if x360002=0 then (some true) else (some (decide ((x7.length:Int)≤x360002)))) else (some false)))
def posthornlaw21_RecurTimes.j2:Nat→Int→Int→List Int→Int→Bool→Int→Int→Int→Int→List Int→List Int→List (S53)→Option (Bool)
 | 0,_,_,_,_,_,_,_,_,_,_,_,_=>none
 | k + 1,x1,x2,x7,x9,x79,x360000,x360001,x360002,x360003,x360004,x360005,x360006=>if x79=true then (some false) else (if x9=0 then (posthornlaw21_RecurTimes.l0 k x1 x2 x7 (wrap64 (x9 + 1)) x360000 x360001 x360002 x360003 x360004 x360005 x360006) else (if 0≤x9 then (if x9 < (x7.length:Int) then (if 0≤(wrap64 (x9 - 1)) then (if (wrap64 (x9 - 1)) < (x7.length:Int) then (if (rd x7 x9)≤(rd x7 (wrap64 (x9 - 1))) then (posthornlaw21_RecurTimes.j3 k x1 x2 x7 x9 true x360000 x360001 x360002 x360003 x360004 x360005 x360006) else (if x360003 ≥ 0 then (posthornlaw21_RecurTimes.j3 k x1 x2 x7 x9 (decide ((rd x7 x9) > x360003)) x360000 x360001 x360002 x360003 x360004 x360005 x360006) else (posthornlaw21_RecurTimes.j3 k x1 x2 x7 x9 false x360000 x360001 x360002 x360003 x360004 x360005 x360006))) else (none)) else (none)) else (none)) else (none)))
def posthornlaw21_RecurTimes.j3:Nat→Int→Int→List Int→Int→Bool→Int→Int→Int→Int→List Int→List Int→List (S53)→Option (Bool)
 | 0,_,_,_,_,_,_,_,_,_,_,_,_=>none
 | k + 1,x1,x2,x7,x9,x105,x360000,x360001,x360002,x360003,x360004,x360005,x360006=>if x105=true then (some false) else (if 0≤x9 then (if x9 < (x7.length:Int) then ((recur_Match.f k x360000 x360001 x360002 x360003 x360004 x360005 x360006 (wrap64 (Int.tdiv x1 86400)) (wrap64 (Int.tdiv (rd x7 x9) 86400))).bind fun bt377=>(if bt377.1=true then (posthornlaw21_RecurTimes.j4 k x1 x2 x7 x9 (bt377.2 != 0) x360000 x360001 x360002 x360003 x360004 x360005 x360006) else (posthornlaw21_RecurTimes.j4 k x1 x2 x7 x9 true x360000 x360001 x360002 x360003 x360004 x360005 x360006))) else (none)) else (none))
def posthornlaw21_RecurTimes.j4:Nat→Int→Int→List Int→Int→Bool→Int→Int→Int→Int→List Int→List Int→List (S53)→Option (Bool)
 | 0,_,_,_,_,_,_,_,_,_,_,_,_=>none
 | k + 1,x1,x2,x7,x9,x123,x360000,x360001,x360002,x360003,x360004,x360005,x360006=>if x123=true then (some false) else (if 0≤(wrap64 (x9 - 1)) then (if (wrap64 (x9 - 1)) < (x7.length:Int) then (posthornlaw21_RecurTimes.l1 k x1 x2 x7 x9 (wrap64 ((wrap64 (Int.tdiv (rd x7 (wrap64 (x9 - 1))) 86400)) + 1)) x360000 x360001 x360002 x360003 x360004 x360005 x360006) else (none)) else (none))
def posthornlaw21_RecurTimes.l1:Nat→Int→Int→List Int→Int→Int→Int→Int→Int→Int→List Int→List Int→List (S53)→Option (Bool)
 | 0,_,_,_,_,_,_,_,_,_,_,_,_=>none
 | k + 1,x1,x2,x7,x9,x12,x360000,x360001,x360002,x360003,x360004,x360005,x360006=>if 0≤x9 then (if x9 < (x7.length:Int) then (if x12 < (wrap64 (Int.tdiv (rd x7 x9) 86400)) then (if 0≤(wrap64 (x9 - 1)) then (if (wrap64 (x9 - 1)) < (x7.length:Int) then (posthornlaw21_RecurTimes.j6 k x1 x2 x7 x9 x12 (decide (x12 < (wrap64 ((wrap64 (Int.tdiv (rd x7 (wrap64 (x9 - 1))) 86400)) + 60)))) x360000 x360001 x360002 x360003 x360004 x360005 x360006) else (none)) else (none)) else (posthornlaw21_RecurTimes.j6 k x1 x2 x7 x9 x12 false x360000 x360001 x360002 x360003 x360004 x360005 x360006)) else (none)) else (none)
def posthornlaw21_RecurTimes.j6:Nat→Int→Int→List Int→Int→Int→Bool→Int→Int→Int→Int→List Int→List Int→List (S53)→Option (Bool)
 | 0,_,_,_,_,_,_,_,_,_,_,_,_,_=>none
 | k + 1,x1,x2,x7,x9,x12,x148,x360000,x360001,x360002,x360003,x360004,x360005,x360006=>if x148=true then ((recur_Match.f k x360000 x360001 x360002 x360003 x360004 x360005 x360006 (wrap64 (Int.tdiv x1 86400)) x12).bind fun bt382=>(if bt382.1=true then (some false) else (if bt382.2=0 then (posthornlaw21_RecurTimes.l1 k x1 x2 x7 x9 (wrap64 (x12 + 1)) x360000 x360001 x360002 x360003 x360004 x360005 x360006) else (some false)))) else (posthornlaw21_RecurTimes.l0 k x1 x2 x7 (wrap64 (x9 + 1)) x360000 x360001 x360002 x360003 x360004 x360005 x360006)
end
def posthornlaw21_RecurTimes.f (k:Nat) (a0_0:Int) (a0_1:Int) (a0_2:Int) (a0_3:Int) (l0_4:List Int) (l0_5:List Int) (l0_6:List (S53)) (a1:Int) (a2:Int):Option (Bool):=(posthornlaw21_Great.f a0_0 a0_1 a0_2 a0_3 l0_4 l0_5 l0_6).bind fun t360=>(if t360=true then (posthornlaw21_RecurTimes.j0 k a1 a2 true a0_0 a0_1 a0_2 a0_3 l0_4 l0_5 l0_6) else ((posthornlaw21_Far.f a1 a2).bind fun t361=>(posthornlaw21_RecurTimes.j0 k a1 a2 t361 a0_0 a0_1 a0_2 a0_3 l0_4 l0_5 l0_6)))
def posthornlaw21_RecurTimes.T12:Bool×List (List Nat×List Nat):=(true,[([],[]),([],[]),([0,1],[0,1]),([2],[2]),([],[]),([],[]),([5],[5]),([4,6],[4,6]),([7],[7]),([3,8],[3,8]),([9],[9]),([10],[10]),([11,10],[10,11]),([12,10],[10,12]),([13,10,10],[10,13]),([14],[14]),([14],[14]),([15,16,14],[14,15,16]),([17,14],[14,17]),([14],[14]),([19,14],[14,19]),([18,20,14],[14,18,20]),([14,21,10],[10,14,21]),([10,22],[10,22])])
def posthornlaw21_RecurTimes.B12:List Nat:=[0,0,3,7,0,0,32,112,240,511,1023,2047,4095,8191,16383,32767,32767,131071,262143,32767,557055,2097151,4194303,8388607]
theorem posthornlaw21_RecurTimes.tab12:rtab .any (opsOf Tryz.f5 12)=posthornlaw21_RecurTimes.T12:=by kernel_rfl
theorem posthornlaw21_RecurTimes.bits12:waitsOk posthornlaw21_RecurTimes.T12.2 posthornlaw21_RecurTimes.B12=true:=by kernel_rfl
def posthornlaw21_RecurTimes.T14:Bool×List (List Nat×List Nat):=(true,[([],[]),([],[]),([1],[1]),([],[]),([],[]),([3,4],[3,4]),([5],[5]),([6],[6]),([0,2,7],[0,2,7]),([8],[8]),([9],[9]),([9],[9]),([10,8,0,1,2,3,4,5,6,7,8,9,10],[10]),([11,12,0,1,2,3,4,5,6,7,8,9,10,11,12],[11])])
def posthornlaw21_RecurTimes.B14:List Nat:=[0,0,2,0,0,24,56,120,255,511,1023,1023,2047,8191]
theorem posthornlaw21_RecurTimes.tab14:rtab .any (opsOf Tryz.f5 14)=posthornlaw21_RecurTimes.T14:=by kernel_rfl
theorem posthornlaw21_RecurTimes.bits14:waitsOk posthornlaw21_RecurTimes.T14.2 posthornlaw21_RecurTimes.B14=true:=by kernel_rfl
set_option maxHeartbeats 8000000 in
set_option maxRecDepth 100000 in
theorem posthornlaw21_RecurTimes.calls (k:Nat) (a0_0:Int) (a0_1:Int) (a0_2:Int) (a0_3:Int) (A0_4:Option Addr) (c0_4:Nat) (l0_4:List Int) (A0_5:Option Addr) (c0_5:Nat) (l0_5:List Int) (A0_6:Option Addr) (c0_6:Nat) (l0_6:List (S53)) (a1:Int) (a2:Int) (r:Bool) (w:World) (hr0_4:Kd.C (Kd.int .i64) w A0_4 l0_4.length l0_4) (hc0_4:l0_4.length≤c0_4) (hr0_5:Kd.C (Kd.int .i64) w A0_5 l0_5.length l0_5) (hc0_5:l0_5.length≤c0_5) (hr0_6:Kd.C k53 w A0_6 l0_6.length l0_6) (hc0_6:l0_6.length≤c0_6) (h:posthornlaw21_RecurTimes.f k a0_0 a0_1 a0_2 a0_3 l0_4 l0_5 l0_6 a1 a2=some r) (hr_:Aside0 (r=true):=by first | exact ⟨rfl⟩ | assumption) (hG:Read.Glob w) :
  Calls Tryz.prog 5 #[.agg #[.int .i64 a0_0,.int .i64 a0_1,.int .i64 a0_2,.int .i64 a0_3,.slice A0_4 l0_4.length c0_4,.slice A0_5 l0_5.length c0_5,.slice A0_6 l0_6.length c0_6],.int .i64 a1,.int .i64 a2] w fun e w'=>e = .returned (.bool r)∧Below w.heap.size w w':=by
 have hu25:=Tryz.underlying25;have HR0_4:=Aside0.mk hr0_4;have HC0_4:=Aside0.mk hc0_4;clear hr0_4 hc0_4;have HR0_5:=Aside0.mk hr0_5;have HC0_5:=Aside0.mk hc0_5;clear hr0_5 hc0_5;have HR0_6:=Aside0.mk hr0_6;have HC0_6:=Aside0.mk hc0_6;clear hr0_6 hc0_6;have HB:=ad_ (Below.refl w.heap.size w);have HG:=Aside0.mk hG;clear hG;have H:((posthornlaw21_Great.f a0_0 a0_1 a0_2 a0_3 l0_4 l0_5 l0_6).bind fun t360=>(if t360=true then (posthornlaw21_RecurTimes.j0 k a1 a2 true a0_0 a0_1 a0_2 a0_3 l0_4 l0_5 l0_6) else ((posthornlaw21_Far.f a1 a2).bind fun t361=>(posthornlaw21_RecurTimes.j0 k a1 a2 t361 a0_0 a0_1 a0_2 a0_3 l0_4 l0_5 l0_6))))=some r:=h;clear h;have HC4:=Aside0.mk H;clear H
 go_enter Tryz.func5,Tryz.ntmps5
 go_upto_region 1 with (first | ((with_reducible refine gate_dst (N:=3) rfl ?_);(try (refine gate_guard (by rfl) ?_;dsimp only));refine box_event ?hg (N:=3) ?hd (cs:=#[.int .i64 a0_0,.int .i64 a0_1,.int .i64 a0_2,.int .i64 a0_3,.slice A0_4 l0_4.length c0_4,.slice A0_5 l0_5.length c0_5,.slice A0_6 l0_6.length c0_6]) (t:=25) ?hr ?_;(case hd=>rfl);(case hg=>rfl);(case hr=>first | (go_simp;done) | (go_simp;rfl));intro gb359 hg w5 hbox hb;have BK359:=ad_ (hbox);have GW359:=ad_ ((by rw [hg];exact (below_size bel_):w.heap.size≤gb359));have GE359:=ad_ ((by rw [hg];exact (below_size bel_):w.heap.size≤gb359));replace HB:=hbb_ hb;clear hb hbox hg))
 (try simp only [Act.put,List.setIfInBounds_toArray,List.set_cons_zero,List.set_cons_succ])
 go_cut [21] (fun v21 wc=>∃ (kq:Nat) (x21_3:Bool),v21 = .bool x21_3∧Aside0 (posthornlaw21_RecurTimes.j0 kq a1 a2 x21_3 a0_0 a0_1 a0_2 a0_3 l0_4 l0_5 l0_6=some r)∧Aside0 (kq≤k)∧Aside0 (wc.heap[gb359]? = some (.cells #[.int .i64 a0_0,.int .i64 a0_1,.int .i64 a0_2,.int .i64 a0_3,(.slice A0_4 l0_4.length c0_4),(.slice A0_5 l0_5.length c0_5),(.slice A0_6 l0_6.length c0_6)] 25 (0,0)))∧Aside0 (Below w.heap.size w wc))
 case first =>
  have H:=HC4.out;clear HC4;obtain ⟨t360,A60,H⟩:=bnd_ H
  try dsimp only at H
  have A6:=ad_ A60;clear A60
  by_cases c7:t360=true
  ·subst c7;replace H:=ifp_ H;have H':=ad_ H;clear H;have hcz8_:=cells7_ BK359.out
   go_wp2_with (first | ((with_reducible refine gate_callee (f:=8) rfl ?_);refine goesL_ (some 16) rfl rfl Tryz.func8 (by kernel_rfl) rfl #[.agg #[.int .i64 a0_0,.int .i64 a0_1,.int .i64 a0_2,.int .i64 a0_3,.slice A0_4 l0_4.length c0_4,.slice A0_5 l0_5.length c0_5,.slice A0_6 l0_6.length c0_6]] rfl arg_ ?_;(with_reducible refine (posthornlaw21_Great.calls a0_0 a0_1 a0_2 a0_3 _ _ l0_4 _ _ l0_5 _ _ l0_6 true _ ?_ ?_ ?_ ?_ ?_ ?_ A6.out).mono ?_);(iterate 6 exact sc_);rintro e w9 ⟨rfl,hb⟩;refine ⟨_,rfl,?_⟩;replace BK359:=ad_ (blk_below (g:=gb359) (o:=.cells #[.int .i64 a0_0,.int .i64 a0_1,.int .i64 a0_2,.int .i64 a0_3,.slice A0_4 l0_4.length c0_4,.slice A0_5 l0_5.length c0_5,.slice A0_6 l0_6.length c0_6] 25 (0,0)) (blo_ BK359.out) hb);replace HB:=hbb_ hb;clear hb))
   go_meet
   case rel=>exact ⟨_,(true),val_,H',⟨by first | omega | exact Nat.le_refl _⟩,⟨blo_ BK359.out⟩,⟨belg_⟩⟩
  ·replace c7:=Bool.eq_false_iff.mpr c7;subst c7;replace H:=ifn_ H;obtain ⟨t361,A100,H⟩:=bnd_ H
   try dsimp only at H
   have A10:=ad_ A100;clear A100;have H':=ad_ H;clear H;have hcz11_:=cells7_ BK359.out
   go_wp2_with (first | ((with_reducible refine gate_callee (f:=8) rfl ?_);refine goesL_ (some 16) rfl rfl Tryz.func8 (by kernel_rfl) rfl #[.agg #[.int .i64 a0_0,.int .i64 a0_1,.int .i64 a0_2,.int .i64 a0_3,.slice A0_4 l0_4.length c0_4,.slice A0_5 l0_5.length c0_5,.slice A0_6 l0_6.length c0_6]] rfl arg_ ?_;(with_reducible refine (posthornlaw21_Great.calls a0_0 a0_1 a0_2 a0_3 _ _ l0_4 _ _ l0_5 _ _ l0_6 false _ ?_ ?_ ?_ ?_ ?_ ?_ A6.out).mono ?_);(iterate 6 exact sc_);rintro e w12 ⟨rfl,hb⟩;refine ⟨_,rfl,?_⟩;replace BK359:=ad_ (blk_below (g:=gb359) (o:=.cells #[.int .i64 a0_0,.int .i64 a0_1,.int .i64 a0_2,.int .i64 a0_3,.slice A0_4 l0_4.length c0_4,.slice A0_5 l0_5.length c0_5,.slice A0_6 l0_6.length c0_6] 25 (0,0)) (blo_ BK359.out) hb);replace HB:=hbb_ hb;clear hb) | (go_at_call 13;(with_reducible refine (posthornlaw21_Far.calls a1 a2 t361 _ A10.out).mono ?_);rintro e w' ⟨rfl,⟨nd,rfl⟩⟩))
   go_meet
   case rel=>exact ⟨_,(t361),val_,H',⟨by first | omega | exact Nat.le_refl _⟩,⟨blo_ BK359.out⟩,⟨belg_⟩⟩
 case rest =>
  clear HC4;(try clear p2);(try clear c5);(try clear c7);(try clear c8);(try clear hcz11_);(try clear hcz8_);obtain ⟨kq,x21_3,rfl,HA,HJ3,BK359,HB⟩:=hcut
  cases kq with
  | zero=>exact absurd HA.out (by simp [posthornlaw21_RecurTimes.j0])
  | succ kj3 =>
   have H:=HA.out;clear HA
   simp only [posthornlaw21_RecurTimes.j0] at H
   by_cases c13:x21_3=true
   ·subst c13;replace H:=ifp_ H;obtain ⟨t362,A140,H⟩:=bnd_ H
    try dsimp only at H
    have A14:=ad_ A140;clear A140;obtain rfl:=Option.some.inj H
    go_wp2_with (first | ((with_reducible refine gate_callee (f:=9) rfl ?_);refine goesL_ (some 22) rfl rfl Tryz.func9 (by kernel_rfl) rfl #[] rfl arg_ ?_;(with_reducible refine (posthornlaw21_alive.calls kj3  t362 _ A14.out).mono ?_);rintro e w15 ⟨rfl,hb⟩;refine ⟨_,rfl,?_⟩;replace BK359:=ad_ (blk_below (g:=gb359) (o:=.cells #[.int .i64 a0_0,.int .i64 a0_1,.int .i64 a0_2,.int .i64 a0_3,.slice A0_4 l0_4.length c0_4,.slice A0_5 l0_5.length c0_5,.slice A0_6 l0_6.length c0_6] 25 (0,0)) (blo_ BK359.out) hb);replace HB:=hbb_ hb;clear hb))
    go_ret
    exact ⟨ret_,belg_⟩
   ·replace c13:=Bool.eq_false_iff.mpr c13;subst c13;replace H:=ifn_ H;replace H:=Option.bind_eq_some_iff.mp H;obtain ⟨⟨t363,t366⟩,A160,H⟩:=H
    try dsimp only at H
    have A16:=ad_ A160;clear A160
    by_cases c17:t366=0
    ·rw [if_pos c17] at H;have c17b0:(t366 == 0)=true:=beq_iff_eq.mpr c17;have c17b1:(t366 != 0)=false:=bne_eq_false_iff_eq.mpr c17;clear c17;have H':=ad_ H;clear H;have hcz18_:=cells7_ BK359.out
     go_wp2_with (first | ((with_reducible refine gate_callee (f:=14) rfl ?_);refine goesL_ (some 28) rfl rfl Tryz.func14 (by kernel_rfl) rfl #[.agg #[.int .i64 a0_0,.int .i64 a0_1,.int .i64 a0_2,.int .i64 a0_3,.slice A0_4 l0_4.length c0_4,.slice A0_5 l0_5.length c0_5,.slice A0_6 l0_6.length c0_6],.int .i64 a1,.int .i64 a1,.int .i64 a2,.int .i64 40] rfl arg_ ?_;(with_reducible refine (recur_Expand.calls kj3 a0_0 a0_1 a0_2 a0_3 _ _ l0_4 _ _ l0_5 _ _ l0_6 a1 a1 a2 40 t363 t366 _ ?_ ?_ ?_ ?_ ?_ ?_ A16.out).mono ?_);(iterate 6 exact sc_);rintro e w19 ⟨v364,rfl,ho0,hb⟩;refine ⟨_,rfl,?_⟩;have HO365:=ad_ (Kd.R_lower ho0 (below_size belg_));replace BK359:=ad_ (blk_below (g:=gb359) (o:=.cells #[.int .i64 a0_0,.int .i64 a0_1,.int .i64 a0_2,.int .i64 a0_3,.slice A0_4 l0_4.length c0_4,.slice A0_5 l0_5.length c0_5,.slice A0_6 l0_6.length c0_6] 25 (0,0)) (blo_ BK359.out) hb);replace HB:=hbb_ hb;(try clear hb);(try clear hb2);(try clear hk);(try clear hi);(try clear ho0)))
     go_loopg [9] kj3 (fun kq v9 w'=>∃ (x9_2:Int),v9 = .int .i64 x9_2∧Aside0 (posthornlaw21_RecurTimes.l0 kq a1 a2 t363 x9_2 a0_0 a0_1 a0_2 a0_3 l0_4 l0_5 l0_6=some r)∧Aside0 (kq≤kj3)∧Aside0 (Kd.R (Kd.int .i64) 2 w' w.heap.size (fun _=>True) v364 t363)∧Aside0 (w'.heap[gb359]? = some (.cells #[.int .i64 a0_0,.int .i64 a0_1,.int .i64 a0_2,.int .i64 a0_3,(.slice A0_4 l0_4.length c0_4),(.slice A0_5 l0_5.length c0_5),(.slice A0_6 l0_6.length c0_6)] 25 (0,0)))∧Aside0 (Below w.heap.size w w'))
     case atStart=>exact ⟨(0),val_,H',⟨Nat.le_refl _⟩,⟨rod_ HO365⟩,⟨blo_ BK359.out⟩,⟨belg_⟩⟩
     case round =>
      clear H';(try clear c1);(try clear p2);(try clear c5);(try clear c7);(try clear c8);(try clear c9);(try clear c13);(try clear c14);(try clear c17);(try clear c17b0);(try clear c17b1);(try clear hcz11_);(try clear hcz18_);(try clear hcz8_);(try clear p2);obtain ⟨x9_2,rfl,HA,HK2,HO_7,BK359,HB⟩:=hrel
      cases gk with
      | zero=>exact absurd HA.out (by simp [posthornlaw21_RecurTimes.l0])
      | succ k2 =>
       have H:=HA.out;clear HA
       simp only [posthornlaw21_RecurTimes.l0] at H
       by_cases c20:x9_2 < (t363.length:Int)
       ·rw [if_pos c20] at H;have c20b0:decide (x9_2 < (t363.length:Int))=true:=decide_eq_true c20;clear c20;have HC21:=Aside0.mk H;clear H;obtain ⟨Ao22,co22,eo22⟩:=Kd.R_slice HO_7.out;subst eo22
        go_upto_region 9 with (fail)
        go_cut [79] (fun v79 wc=>∃ (kq:Nat) (x79_20:Bool),v79 = .bool x79_20∧Aside0 (posthornlaw21_RecurTimes.j2 kq a1 a2 t363 x9_2 x79_20 a0_0 a0_1 a0_2 a0_3 l0_4 l0_5 l0_6=some r)∧Aside0 (kq≤k2)∧Aside0 (Kd.R (Kd.int .i64) 2 wc w.heap.size (fun _=>True) (.slice Ao22 t363.length co22) t363)∧Aside0 (wc.heap[gb359]? = some (.cells #[.int .i64 a0_0,.int .i64 a0_1,.int .i64 a0_2,.int .i64 a0_3,(.slice A0_4 l0_4.length c0_4),(.slice A0_5 l0_5.length c0_5),(.slice A0_6 l0_6.length c0_6)] 25 (0,0)))∧Aside0 (Below w.heap.size w wc))
        case first =>
         have H:=HC21.out;clear HC21
         by_cases c23:0≤x9_2
         ·rw [if_pos c23] at H;have c23b0:decide (0≤x9_2)=true:=decide_eq_true c23;clear c23
          (first | rw [c23b0] | (simp only [i64_w,i32_w];rw [c23b0]) | skip)
          by_cases c24:(Int.tmod (wrap64 ((rd t363 x9_2) - a1)) 86400)=0
          ·rw [if_pos c24] at H;have c24b0:((Int.tmod (wrap64 ((rd t363 x9_2) - a1)) 86400) == 0)=true:=beq_iff_eq.mpr c24;have c24b1:((Int.tmod (wrap64 ((rd t363 x9_2) - a1)) 86400) != 0)=false:=bne_eq_false_iff_eq.mpr c24;clear c24
           by_cases c25:(rd t363 x9_2) < a1
           ·rw [if_pos c25] at H;have c25b0:decide ((rd t363 x9_2) < a1)=true:=decide_eq_true c25;clear c25;have H':=ad_ H;clear H;have p369:0≤(x9_2:Int):=dec_;have q369:x9_2 < (t363.length:Int):=dec_;obtain ⟨ad369,e369,hx369_0⟩:=Kd.at_int (Kd.R_reads' HO_7.out).2.2 x9_2 p369 q369
            cases e369
            replace p369:=eq_true p369;replace q369:=eq_true q369;have p370:0≤(x9_2:Int):=dec_;have q370:x9_2 < (t363.length:Int):=dec_;obtain ⟨ad370,e370,hx370_0⟩:=Kd.at_int (Kd.R_reads' HO_7.out).2.2 x9_2 p370 q370;obtain rfl:ad369=ad370:=(by injection e370);replace p370:=eq_true p370;replace q370:=eq_true q370
            go_wp2
            go_meet
            case rel=>exact ⟨_,(true),val_,H',⟨by have:=HJ3.out;have:=HK2.out;first | omega | exact Nat.le_refl _⟩,⟨rod_ HO_7⟩,⟨blo_ BK359.out⟩,⟨belg_⟩⟩
           ·rw [if_neg c25] at H;have c25b0:decide ((rd t363 x9_2) < a1)=false:=decide_eq_false c25;clear c25
            by_cases c26:(rd t363 x9_2) ≥ a2
            ·rw [if_pos c26] at H;have c26b0:decide (a2≤(rd t363 x9_2))=true:=decide_eq_true c26;clear c26;have H':=ad_ H;clear H;have p369:0≤(x9_2:Int):=dec_;have q369:x9_2 < (t363.length:Int):=dec_;obtain ⟨ad369,e369,hx369_0⟩:=Kd.at_int (Kd.R_reads' HO_7.out).2.2 x9_2 p369 q369
             cases e369
             replace p369:=eq_true p369;replace q369:=eq_true q369;have p370:0≤(x9_2:Int):=dec_;have q370:x9_2 < (t363.length:Int):=dec_;obtain ⟨ad370,e370,hx370_0⟩:=Kd.at_int (Kd.R_reads' HO_7.out).2.2 x9_2 p370 q370;obtain rfl:ad369=ad370:=(by injection e370);replace p370:=eq_true p370;replace q370:=eq_true q370;have p371:0≤(x9_2:Int):=dec_;have q371:x9_2 < (t363.length:Int):=dec_;obtain ⟨ad371,e371,hx371_0⟩:=Kd.at_int (Kd.R_reads' HO_7.out).2.2 x9_2 p371 q371;obtain rfl:ad369=ad371:=(by injection e371);replace p371:=eq_true p371;replace q371:=eq_true q371
             go_wp2
             go_meet
             case rel=>exact ⟨_,(true),val_,H',⟨by have:=HJ3.out;have:=HK2.out;first | omega | exact Nat.le_refl _⟩,⟨rod_ HO_7⟩,⟨blo_ BK359.out⟩,⟨belg_⟩⟩
            ·rw [if_neg c26] at H;have c26b0:decide (a2≤(rd t363 x9_2))=false:=decide_eq_false c26;clear c26
             by_cases c27:x9_2=0
             ·rw [if_pos c27] at H;have c27b0:(x9_2 == 0)=true:=beq_iff_eq.mpr c27;have c27b1:(x9_2 != 0)=false:=bne_eq_false_iff_eq.mpr c27;clear c27
              by_cases c28:0 < (t363.length:Int)
              ·rw [if_pos c28] at H;have c28b0:decide (0 < (t363.length:Int))=true:=decide_eq_true c28;have c28b1:decide (0 < t363.length)=true:=decide_eq_true (by omega);clear c28;have H':=ad_ H;clear H;have p369:0≤(x9_2:Int):=dec_;have q369:x9_2 < (t363.length:Int):=dec_;obtain ⟨ad369,e369,hx369_0⟩:=Kd.at_int (Kd.R_reads' HO_7.out).2.2 x9_2 p369 q369
               cases e369
               replace p369:=eq_true p369;replace q369:=eq_true q369;have p370:0≤(x9_2:Int):=dec_;have q370:x9_2 < (t363.length:Int):=dec_;obtain ⟨ad370,e370,hx370_0⟩:=Kd.at_int (Kd.R_reads' HO_7.out).2.2 x9_2 p370 q370;obtain rfl:ad369=ad370:=(by injection e370);replace p370:=eq_true p370;replace q370:=eq_true q370;have p371:0≤(x9_2:Int):=dec_;have q371:x9_2 < (t363.length:Int):=dec_;obtain ⟨ad371,e371,hx371_0⟩:=Kd.at_int (Kd.R_reads' HO_7.out).2.2 x9_2 p371 q371;obtain rfl:ad369=ad371:=(by injection e371);replace p371:=eq_true p371;replace q371:=eq_true q371;have p372:0≤(0:Int):=(by omega);have q372:0 < (t363.length:Int):=dec_;obtain ⟨ad372,e372,hx372_0⟩:=Kd.at_int (Kd.R_reads' HO_7.out).2.2 0 p372 q372;obtain rfl:ad369=ad372:=(by injection e372);have qi372:(0 < t363.length)=True:=eq_true (by omega)
               (try rw [show ((0:Int)).toNat=0 from rfl] at hx372_0)
               (try rw [Addr.add_zero'] at hx372_0)
               replace p372:=eq_true p372;replace q372:=eq_true q372
               go_wp2
               go_meet
               case rel=>exact ⟨_,(((rd t363 0) != a1)),val_,H',⟨by have:=HJ3.out;have:=HK2.out;first | omega | exact Nat.le_refl _⟩,⟨rod_ HO_7⟩,⟨blo_ BK359.out⟩,⟨belg_⟩⟩
              ·rw [if_neg c28] at H;exact absurd H (by simp)
             ·rw [if_neg c27] at H;have c27b0:(x9_2 == 0)=false:=beq_eq_false_iff_ne.mpr c27;have c27b1:(x9_2 != 0)=true:=bne_iff_ne.mpr c27;have H':=ad_ H;clear H;have p369:0≤(x9_2:Int):=dec_;have q369:x9_2 < (t363.length:Int):=dec_;obtain ⟨ad369,e369,hx369_0⟩:=Kd.at_int (Kd.R_reads' HO_7.out).2.2 x9_2 p369 q369
              cases e369
              replace p369:=eq_true p369;replace q369:=eq_true q369;have p370:0≤(x9_2:Int):=dec_;have q370:x9_2 < (t363.length:Int):=dec_;obtain ⟨ad370,e370,hx370_0⟩:=Kd.at_int (Kd.R_reads' HO_7.out).2.2 x9_2 p370 q370;obtain rfl:ad369=ad370:=(by injection e370);replace p370:=eq_true p370;replace q370:=eq_true q370;have p371:0≤(x9_2:Int):=dec_;have q371:x9_2 < (t363.length:Int):=dec_;obtain ⟨ad371,e371,hx371_0⟩:=Kd.at_int (Kd.R_reads' HO_7.out).2.2 x9_2 p371 q371;obtain rfl:ad369=ad371:=(by injection e371);replace p371:=eq_true p371;replace q371:=eq_true q371
              go_wp2
              go_meet
              case rel=>exact ⟨_,(false),val_,H',⟨by have:=HJ3.out;have:=HK2.out;first | omega | exact Nat.le_refl _⟩,⟨rod_ HO_7⟩,⟨blo_ BK359.out⟩,⟨belg_⟩⟩
          ·rw [if_neg c24] at H;have c24b0:((Int.tmod (wrap64 ((rd t363 x9_2) - a1)) 86400) == 0)=false:=beq_eq_false_iff_ne.mpr c24;have c24b1:((Int.tmod (wrap64 ((rd t363 x9_2) - a1)) 86400) != 0)=true:=bne_iff_ne.mpr c24;have H':=ad_ H;clear H;have p369:0≤(x9_2:Int):=dec_;have q369:x9_2 < (t363.length:Int):=dec_;obtain ⟨ad369,e369,hx369_0⟩:=Kd.at_int (Kd.R_reads' HO_7.out).2.2 x9_2 p369 q369
           cases e369
           replace p369:=eq_true p369;replace q369:=eq_true q369
           go_wp2
           go_meet
           case rel=>exact ⟨_,(true),val_,H',⟨by have:=HJ3.out;have:=HK2.out;first | omega | exact Nat.le_refl _⟩,⟨rod_ HO_7⟩,⟨blo_ BK359.out⟩,⟨belg_⟩⟩
         ·rw [if_neg c23] at H;exact absurd H (by simp)
        case rest =>
         clear HC21;(try clear c1);(try clear c2);(try clear p2);(try clear p3);(try clear q3);(try clear hx3);(try clear qi3);(try clear c5);(try clear p6);(try clear c7);(try clear c8);(try clear c9);(try clear c13);(try clear c14);(try clear c17);(try clear c17b0);(try clear c17b1);(try clear c20);(try clear c20b0);(try clear c23);(try clear c23b0);(try clear c24);(try clear c24b0);(try clear c24b1);(try clear c25);(try clear c25b0);(try clear c26);(try clear c26b0);(try clear c27);(try clear c27b0);(try clear c27b1);(try clear c28);(try clear c28b0);(try clear c28b1);(try clear hcz11_);(try clear hcz18_);(try clear hcz8_);(try clear hx369_0);(try clear hx370_0);(try clear hx371_0);(try clear hx372_0);(try clear p2);(try clear p369);(try clear p370);(try clear p371);(try clear p372);(try clear q369);(try clear q370);(try clear q371);(try clear q372);obtain ⟨kq,x79_20,rfl,HA,HJ20,HO_7,BK359,HB⟩:=hcut
         cases kq with
         | zero=>exact absurd HA.out (by simp [posthornlaw21_RecurTimes.j2])
         | succ kj20 =>
          have H:=HA.out;clear HA
          simp only [posthornlaw21_RecurTimes.j2] at H
          by_cases c29:x79_20=true
          ·subst c29;replace H:=ifp_ H;exact absurd (Option.some.inj H) (by rw [hr_.out];decide)
          ·replace c29:=Bool.eq_false_iff.mpr c29;subst c29;replace H:=ifn_ H
           by_cases c30:x9_2=0
           ·rw [if_pos c30] at H;have c30b0:(x9_2 == 0)=true:=beq_iff_eq.mpr c30;have c30b1:(x9_2 != 0)=false:=bne_eq_false_iff_eq.mpr c30;clear c30;have H':=ad_ H;clear H
            go_wp2
            go_roundg kj20
            case measure=>have:=HJ3.out;have:=HK2.out;have:=HJ20.out;omega
            case rel=>exact ⟨(wrap64 (x9_2 + 1)),val_,H',⟨by have:=HJ3.out;have:=HK2.out;have:=HJ20.out;omega⟩,⟨rod_ HO_7⟩,⟨blo_ BK359.out⟩,⟨belg_⟩⟩
           ·rw [if_neg c30] at H;have c30b0:(x9_2 == 0)=false:=beq_eq_false_iff_ne.mpr c30;have c30b1:(x9_2 != 0)=true:=bne_iff_ne.mpr c30;have HC31:=Aside0.mk H;clear H
            go_upto_region 12 with (fail)
            go_cut [105] (fun v105 wc=>∃ (kq:Nat) (x105_30:Bool),v105 = .bool x105_30∧Aside0 (posthornlaw21_RecurTimes.j3 kq a1 a2 t363 x9_2 x105_30 a0_0 a0_1 a0_2 a0_3 l0_4 l0_5 l0_6=some r)∧Aside0 (kq≤kj20)∧Aside0 (Kd.R (Kd.int .i64) 2 wc w.heap.size (fun _=>True) (.slice Ao22 t363.length co22) t363)∧Aside0 (wc.heap[gb359]? = some (.cells #[.int .i64 a0_0,.int .i64 a0_1,.int .i64 a0_2,.int .i64 a0_3,(.slice A0_4 l0_4.length c0_4),(.slice A0_5 l0_5.length c0_5),(.slice A0_6 l0_6.length c0_6)] 25 (0,0)))∧Aside0 (Below w.heap.size w wc))
            case first =>
             have H:=HC31.out;clear HC31
             by_cases c32:0≤x9_2
             ·rw [if_pos c32] at H;have c32b0:decide (0≤x9_2)=true:=decide_eq_true c32;clear c32
              (first | rw [c32b0] | (simp only [i64_w,i32_w];rw [c32b0]) | skip)
              by_cases c33:x9_2 < (t363.length:Int)
              ·rw [if_pos c33] at H;have c33b0:decide (x9_2 < (t363.length:Int))=true:=decide_eq_true c33;clear c33;obtain ⟨ji34,hji34⟩:∃ j_:Int,(wrap64 (x9_2 - 1))=j_:=⟨_,rfl⟩
               replace H:(if 0≤(ji34) then (if (ji34) < (t363.length:Int) then (if (rd t363 x9_2)≤(rd t363 (ji34)) then (posthornlaw21_RecurTimes.j3 kj20 a1 a2 t363 x9_2 true a0_0 a0_1 a0_2 a0_3 l0_4 l0_5 l0_6) else (if a0_3 ≥ 0 then (posthornlaw21_RecurTimes.j3 kj20 a1 a2 t363 x9_2 (decide ((rd t363 x9_2) > a0_3)) a0_0 a0_1 a0_2 a0_3 l0_4 l0_5 l0_6) else (posthornlaw21_RecurTimes.j3 kj20 a1 a2 t363 x9_2 false a0_0 a0_1 a0_2 a0_3 l0_4 l0_5 l0_6))) else (none)) else (none))=some r:=by first | (rw [hji34] at H;exact H) | (simp only [hji34] at H ⊢;exact H)
               have hji34w:(IntKind.i64.wrap (x9_2 - 1))=ji34:=(i64_w _).trans hji34
               by_cases c35:0≤(ji34)
               ·rw [if_pos c35] at H;have c35b0:decide (0≤(ji34))=true:=decide_eq_true c35;clear c35
                by_cases c36:(ji34) < (t363.length:Int)
                ·rw [if_pos c36] at H;have c36b0:decide ((ji34) < (t363.length:Int))=true:=decide_eq_true c36;clear c36
                 by_cases c37:(rd t363 x9_2)≤(rd t363 (ji34))
                 ·rw [if_pos c37] at H;have c37b0:decide ((rd t363 x9_2)≤(rd t363 (ji34)))=true:=decide_eq_true c37;clear c37;have H':=ad_ H;clear H
                  try go_wp2
                  have n0_:=ad_ (Kd.R_drew HO_7.out);have n1_:=ad_ (blk_drew BK359.out);have n2_:=ad_ (below_drew1 HB.out);clear HO_7;clear BK359;clear HB;have HO_7:=n0_;have BK359:=n1_;have HB:=n2_;clear n0_ n1_ n2_;have p373:0≤(x9_2:Int):=dec_;have q373:x9_2 < (t363.length:Int):=dec_;obtain ⟨ad373,e373,hx373_0⟩:=Kd.at_int (Kd.R_reads' HO_7.out).2.2 x9_2 p373 q373
                  cases e373
                  replace p373:=eq_true p373;replace q373:=eq_true q373;have p374:0≤((ji34):Int):=dec_;have q374:(ji34) < (t363.length:Int):=dec_;obtain ⟨ad374,e374,hx374_0⟩:=Kd.at_int (Kd.R_reads' HO_7.out).2.2 (ji34) p374 q374;obtain rfl:ad373=ad374:=(by injection e374);replace p374:=eq_true p374;replace q374:=eq_true q374
                  refine start_ (n:=24) (S:=fun w'=>w'.cell? (ad373.add (x9_2).toNat)=some (.int .i64 (rd t363 x9_2))∧w'.cell? (ad373.add ((ji34)).toNat)=some (.int .i64 (rd t363 (ji34)))) (ds:=[]) (.replicate 24 false) (by kernel_rfl) rfl rfl ⟨hx373_0,hx374_0⟩ (fun hHeld=>?_);refine with_tabW posthornlaw21_RecurTimes.tab12 posthornlaw21_RecurTimes.bits12 (fun HT_ HW_=>?_)
                  generalize wc.drew=w38 at HO_7 BK359 HB hx373_0 hx374_0 hHeld ⊢
                  refine pure_ (i:=0) (N:=some 82) (v:=?_) (a':=?_) #[true,false,false,false,false,false,false,false,false,false,false,false,false,false,false,false,false,false,false,false,false,false,false,false] rfl rfl (any_of HT_.out (by kernel_rfl)) (fun _ _ _ h=>h) (Or.inl ⟨by rfl,?_⟩) ?_ ?_
                  rotate_left
                  ·intro w'
                   go_simp
                   with_reducible rfl
                  rotate_left
                  ·simp only [Act.put,List.setIfInBounds_toArray,List.set_cons_zero,List.set_cons_succ,i64_w,i32_w]
                   rfl
                  refine pure_ (i:=1) (N:=some 83) (v:=?_) (a':=?_) #[true,true,false,false,false,false,false,false,false,false,false,false,false,false,false,false,false,false,false,false,false,false,false,false] rfl rfl (any_of HT_.out (by kernel_rfl)) (fun _ _ _ h=>h) (Or.inl ⟨by rfl,?_⟩) ?_ ?_
                  rotate_left
                  ·intro w'
                   go_simp
                   with_reducible rfl
                  rotate_left
                  ·simp only [Act.put,List.setIfInBounds_toArray,List.set_cons_zero,List.set_cons_succ,i64_w,i32_w]
                   rfl
                  refine pure_ (i:=2) (N:=some 84) (v:=?_) (a':=?_) #[true,true,true,false,false,false,false,false,false,false,false,false,false,false,false,false,false,false,false,false,false,false,false,false] rfl rfl (any_of HT_.out (by kernel_rfl)) (fun _ _ _ h=>h) (Or.inl ⟨by rfl,?_⟩) ?_ ?_
                  rotate_left
                  ·intro w'
                   go_simp
                   with_reducible rfl
                  rotate_left
                  ·simp only [Act.put,List.setIfInBounds_toArray,List.set_cons_zero,List.set_cons_succ,i64_w,i32_w]
                   rfl
                  refine pure_ (i:=4) (N:=some 86) (v:=?_) (a':=?_) #[true,true,true,false,true,false,false,false,false,false,false,false,false,false,false,false,false,false,false,false,false,false,false,false] rfl rfl (any_of HT_.out (by kernel_rfl)) (fun _ _ _ h=>h) (Or.inl ⟨by rfl,?_⟩) ?_ ?_
                  rotate_left
                  ·intro w'
                   go_simp
                   with_reducible rfl
                  rotate_left
                  ·simp only [Act.put,List.setIfInBounds_toArray,List.set_cons_zero,List.set_cons_succ,i64_w,i32_w]
                   rfl
                  refine pure_ (i:=5) (N:=some 87) (v:=?_) (a':=?_) #[true,true,true,false,true,true,false,false,false,false,false,false,false,false,false,false,false,false,false,false,false,false,false,false] rfl rfl (any_of HT_.out (by kernel_rfl)) (fun _ _ _ h=>h) (Or.inl ⟨by rfl,?_⟩) ?_ ?_
                  rotate_left
                  ·intro w'
                   go_simp
                   with_reducible rfl
                  rotate_left
                  ·simp only [Act.put,List.setIfInBounds_toArray,List.set_cons_zero,List.set_cons_succ,i64_w,i32_w]
                   rfl
                  refine pure_ (i:=6) (N:=some 88) (v:=?_) (a':=?_) #[true,true,true,false,true,true,true,false,false,false,false,false,false,false,false,false,false,false,false,false,false,false,false,false] rfl rfl (any_of HT_.out (by kernel_rfl)) (fun _ _ _ h=>h) (Or.inl ⟨by rfl,?_⟩) ?_ ?_
                  rotate_left
                  ·intro w'
                   go_simp
                   with_reducible rfl
                  rotate_left
                  ·simp only [Act.put,List.setIfInBounds_toArray,List.set_cons_zero,List.set_cons_succ,i64_w,i32_w]
                   rfl
                  refine pure_ (i:=7) (N:=some 89) (v:=?_) (a':=?_) #[true,true,true,false,true,true,true,true,false,false,false,false,false,false,false,false,false,false,false,false,false,false,false,false] rfl rfl (any_of HT_.out (by kernel_rfl)) (fun _ _ _ h=>h) (Or.inl ⟨by rfl,?_⟩) ?_ ?_
                  rotate_left
                  ·intro w'
                   go_simp
                   with_reducible rfl
                  rotate_left
                  ·simp only [Act.put,List.setIfInBounds_toArray,List.set_cons_zero,List.set_cons_succ,i64_w,i32_w]
                   rfl
                  refine take_ (i:=3) (N:=some 85) (v:=?_) (a':=?_) #[true,true,true,true,true,true,true,true,false,false,false,false,false,false,false,false,false,false,false,false,false,false,false,false] rfl rfl (take_ofW HT_.out HW_.out (by kernel_rfl)) (fun _ _ _ h=>h) (Or.inl ⟨by rfl,?_⟩) hHeld ?_ ?_
                  rotate_left
                  ·rintro w' ⟨s0,s1⟩
                   go_simp
                   with_reducible rfl
                  rotate_left
                  ·simp only [Act.put,List.setIfInBounds_toArray,List.set_cons_zero,List.set_cons_succ,i64_w,i32_w]
                   rfl
                  refine take_ (i:=8) (N:=some 90) (v:=?_) (a':=?_) #[true,true,true,true,true,true,true,true,true,false,false,false,false,false,false,false,false,false,false,false,false,false,false,false] rfl rfl (take_ofW HT_.out HW_.out (by kernel_rfl)) (fun _ _ _ h=>h) (Or.inl ⟨by rfl,?_⟩) hHeld ?_ ?_
                  rotate_left
                  ·rintro w' ⟨s0,s1⟩
                   go_simp
                   with_reducible rfl
                  rotate_left
                  ·simp only [Act.put,List.setIfInBounds_toArray,List.set_cons_zero,List.set_cons_succ,i64_w,i32_w]
                   rfl
                  refine pure_ (i:=9) (N:=some 91) (v:=?_) (a':=?_) #[true,true,true,true,true,true,true,true,true,true,false,false,false,false,false,false,false,false,false,false,false,false,false,false] rfl rfl (any_of HT_.out (by kernel_rfl)) (fun _ _ _ h=>h) (Or.inl ⟨by rfl,?_⟩) ?_ ?_
                  rotate_left
                  ·intro w'
                   go_simp
                   with_reducible rfl
                  rotate_left
                  ·simp only [Act.put,List.setIfInBounds_toArray,List.set_cons_zero,List.set_cons_succ,i64_w,i32_w]
                   rfl
                  refine pure_ (i:=10) (N:=some 92) (v:=?_) (a':=?_) #[true,true,true,true,true,true,true,true,true,true,true,false,false,false,false,false,false,false,false,false,false,false,false,false] rfl rfl (any_of HT_.out (by kernel_rfl)) (fun _ _ _ h=>h) (Or.inl ⟨by rfl,?_⟩) ?_ ?_
                  rotate_left
                  ·intro w'
                   go_simp
                   with_reducible rfl
                  rotate_left
                  ·simp only [Act.put,List.setIfInBounds_toArray,List.set_cons_zero,List.set_cons_succ,i64_w,i32_w]
                   rfl
                  refine pure_ (i:=11) (N:=some 93) (v:=undef) (a':=?_) #[true,true,true,true,true,true,true,true,true,true,true,true,false,false,false,false,false,false,false,false,false,false,false,false] rfl rfl (any_of HT_.out (by kernel_rfl)) (fun _ _ _ h=>h) (Or.inr ⟨by rfl,rfl⟩) ?_ ?_
                  rotate_left
                  ·simp only [Act.put,List.setIfInBounds_toArray,List.set_cons_zero,List.set_cons_succ,i64_w,i32_w]
                   rfl
                  refine pure_ (i:=12) (N:=some 94) (v:=undef) (a':=?_) #[true,true,true,true,true,true,true,true,true,true,true,true,true,false,false,false,false,false,false,false,false,false,false,false] rfl rfl (any_of HT_.out (by kernel_rfl)) (fun _ _ _ h=>h) (Or.inr ⟨by rfl,rfl⟩) ?_ ?_
                  rotate_left
                  ·simp only [Act.put,List.setIfInBounds_toArray,List.set_cons_zero,List.set_cons_succ,i64_w,i32_w]
                   rfl
                  refine pure_ (i:=13) (N:=some 95) (v:=undef) (a':=?_) #[true,true,true,true,true,true,true,true,true,true,true,true,true,true,false,false,false,false,false,false,false,false,false,false] rfl rfl (any_of HT_.out (by kernel_rfl)) (fun _ _ _ h=>h) (Or.inr ⟨by rfl,rfl⟩) ?_ ?_
                  rotate_left
                  ·simp only [Act.put,List.setIfInBounds_toArray,List.set_cons_zero,List.set_cons_succ,i64_w,i32_w]
                   rfl
                  refine pure_ (i:=14) (N:=some 96) (v:=undef) (a':=?_) #[true,true,true,true,true,true,true,true,true,true,true,true,true,true,true,false,false,false,false,false,false,false,false,false] rfl rfl (any_of HT_.out (by kernel_rfl)) (fun _ _ _ h=>h) (Or.inr ⟨by rfl,rfl⟩) ?_ ?_
                  rotate_left
                  ·simp only [Act.put,List.setIfInBounds_toArray,List.set_cons_zero,List.set_cons_succ,i64_w,i32_w]
                   rfl
                  refine pure_ (i:=15) (N:=some 97) (v:=undef) (a':=?_) #[true,true,true,true,true,true,true,true,true,true,true,true,true,true,true,true,false,false,false,false,false,false,false,false] rfl rfl (any_of HT_.out (by kernel_rfl)) (fun _ _ _ h=>h) (Or.inr ⟨by rfl,rfl⟩) ?_ ?_
                  rotate_left
                  ·simp only [Act.put,List.setIfInBounds_toArray,List.set_cons_zero,List.set_cons_succ,i64_w,i32_w]
                   rfl
                  refine pure_ (i:=16) (N:=some 98) (v:=undef) (a':=?_) #[true,true,true,true,true,true,true,true,true,true,true,true,true,true,true,true,true,false,false,false,false,false,false,false] rfl rfl (any_of HT_.out (by kernel_rfl)) (fun _ _ _ h=>h) (Or.inr ⟨by rfl,rfl⟩) ?_ ?_
                  rotate_left
                  ·simp only [Act.put,List.setIfInBounds_toArray,List.set_cons_zero,List.set_cons_succ,i64_w,i32_w]
                   rfl
                  refine pure_ (i:=17) (N:=some 99) (v:=undef) (a':=?_) #[true,true,true,true,true,true,true,true,true,true,true,true,true,true,true,true,true,true,false,false,false,false,false,false] rfl rfl (any_of HT_.out (by kernel_rfl)) (fun _ _ _ h=>h) (Or.inr ⟨by rfl,rfl⟩) ?_ ?_
                  rotate_left
                  ·simp only [Act.put,List.setIfInBounds_toArray,List.set_cons_zero,List.set_cons_succ,i64_w,i32_w]
                   rfl
                  refine pure_ (i:=18) (N:=some 100) (v:=undef) (a':=?_) #[true,true,true,true,true,true,true,true,true,true,true,true,true,true,true,true,true,true,true,false,false,false,false,false] rfl rfl (any_of HT_.out (by kernel_rfl)) (fun _ _ _ h=>h) (Or.inr ⟨by rfl,rfl⟩) ?_ ?_
                  rotate_left
                  ·simp only [Act.put,List.setIfInBounds_toArray,List.set_cons_zero,List.set_cons_succ,i64_w,i32_w]
                   rfl
                  refine pure_ (i:=19) (N:=some 101) (v:=undef) (a':=?_) #[true,true,true,true,true,true,true,true,true,true,true,true,true,true,true,true,true,true,true,true,false,false,false,false] rfl rfl (any_of HT_.out (by kernel_rfl)) (fun _ _ _ h=>h) (Or.inr ⟨by rfl,rfl⟩) ?_ ?_
                  rotate_left
                  ·simp only [Act.put,List.setIfInBounds_toArray,List.set_cons_zero,List.set_cons_succ,i64_w,i32_w]
                   rfl
                  refine pure_ (i:=20) (N:=some 102) (v:=undef) (a':=?_) #[true,true,true,true,true,true,true,true,true,true,true,true,true,true,true,true,true,true,true,true,true,false,false,false] rfl rfl (any_of HT_.out (by kernel_rfl)) (fun _ _ _ h=>h) (Or.inr ⟨by rfl,rfl⟩) ?_ ?_
                  rotate_left
                  ·simp only [Act.put,List.setIfInBounds_toArray,List.set_cons_zero,List.set_cons_succ,i64_w,i32_w]
                   rfl
                  refine pure_ (i:=21) (N:=some 103) (v:=undef) (a':=?_) #[true,true,true,true,true,true,true,true,true,true,true,true,true,true,true,true,true,true,true,true,true,true,false,false] rfl rfl (any_of HT_.out (by kernel_rfl)) (fun _ _ _ h=>h) (Or.inr ⟨by rfl,rfl⟩) ?_ ?_
                  rotate_left
                  ·simp only [Act.put,List.setIfInBounds_toArray,List.set_cons_zero,List.set_cons_succ,i64_w,i32_w]
                   rfl
                  refine pure_ (i:=22) (N:=some 104) (v:=undef) (a':=?_) #[true,true,true,true,true,true,true,true,true,true,true,true,true,true,true,true,true,true,true,true,true,true,true,false] rfl rfl (any_of HT_.out (by kernel_rfl)) (fun _ _ _ h=>h) (Or.inr ⟨by rfl,rfl⟩) ?_ ?_
                  rotate_left
                  ·simp only [Act.put,List.setIfInBounds_toArray,List.set_cons_zero,List.set_cons_succ,i64_w,i32_w]
                   rfl
                  refine pure_ (i:=23) (N:=some 105) (v:=?_) (a':=?_) (.replicate 24 true) rfl rfl (any_of HT_.out (by kernel_rfl)) (fun _ _ _ h=>h) (Or.inl ⟨by rfl,?_⟩) ?_ ?_
                  rotate_left
                  ·intro w'
                   go_simp
                   with_reducible rfl
                  rotate_left
                  ·simp only [Act.put,List.setIfInBounds_toArray,List.set_cons_zero,List.set_cons_succ,i64_w,i32_w]
                   rfl
                  refine done_ (done_of HT_.out (by kernel_rfl)) ?_
                  try go_wp2
                  go_meet
                  case rel=>exact ⟨_,(true),val_,H',⟨by have:=HJ3.out;have:=HK2.out;have:=HJ20.out;first | omega | exact Nat.le_refl _⟩,⟨rod_ HO_7⟩,⟨blo_ BK359.out⟩,⟨belg_⟩⟩
                 ·rw [if_neg c37] at H;have c37b0:decide ((rd t363 x9_2)≤(rd t363 (ji34)))=false:=decide_eq_false c37;clear c37
                  by_cases c39:a0_3 ≥ 0
                  ·rw [if_pos c39] at H;have c39b0:decide (0≤a0_3)=true:=decide_eq_true c39;clear c39;have H':=ad_ H;clear H
                   try go_wp2
                   have n0_:=ad_ (Kd.R_drew HO_7.out);have n1_:=ad_ (blk_drew BK359.out);have n2_:=ad_ (below_drew1 HB.out);clear HO_7;clear BK359;clear HB;have HO_7:=n0_;have BK359:=n1_;have HB:=n2_;clear n0_ n1_ n2_;have p373:0≤(x9_2:Int):=dec_;have q373:x9_2 < (t363.length:Int):=dec_;obtain ⟨ad373,e373,hx373_0⟩:=Kd.at_int (Kd.R_reads' HO_7.out).2.2 x9_2 p373 q373
                   cases e373
                   replace p373:=eq_true p373;replace q373:=eq_true q373;have p374:0≤((ji34):Int):=dec_;have q374:(ji34) < (t363.length:Int):=dec_;obtain ⟨ad374,e374,hx374_0⟩:=Kd.at_int (Kd.R_reads' HO_7.out).2.2 (ji34) p374 q374;obtain rfl:ad373=ad374:=(by injection e374);replace p374:=eq_true p374;replace q374:=eq_true q374;have p375:0≤(x9_2:Int):=dec_;have q375:x9_2 < (t363.length:Int):=dec_;obtain ⟨ad375,e375,hx375_0⟩:=Kd.at_int (Kd.R_reads' HO_7.out).2.2 x9_2 p375 q375;obtain rfl:ad373=ad375:=(by injection e375);replace p375:=eq_true p375;replace q375:=eq_true q375
                   refine start_ (n:=24) (S:=fun w'=>w'.cell? ⟨gb359,0,none⟩=some (.int .i64 a0_0)∧w'.cell? ⟨gb359,1,none⟩=some (.int .i64 a0_1)∧w'.cell? ⟨gb359,2,none⟩=some (.int .i64 a0_2)∧w'.cell? ⟨gb359,3,none⟩=some (.int .i64 a0_3)∧w'.cell? ⟨gb359,4,none⟩=some (.slice A0_4 l0_4.length c0_4)∧w'.cell? ⟨gb359,5,none⟩=some (.slice A0_5 l0_5.length c0_5)∧w'.cell? ⟨gb359,6,none⟩=some (.slice A0_6 l0_6.length c0_6)∧w'.cell? (ad373.add (x9_2).toNat)=some (.int .i64 (rd t363 x9_2))∧w'.cell? (ad373.add ((ji34)).toNat)=some (.int .i64 (rd t363 (ji34)))∧w'.cell? (ad373.add (x9_2).toNat)=some (.int .i64 (rd t363 x9_2))) (ds:=[]) (.replicate 24 false) (by kernel_rfl) rfl rfl ⟨bc_ BK359,bc_ BK359,bc_ BK359,bc_ BK359,bc_ BK359,bc_ BK359,bc_ BK359,hx373_0,hx374_0,hx375_0⟩ (fun hHeld=>?_);refine with_tabW posthornlaw21_RecurTimes.tab12 posthornlaw21_RecurTimes.bits12 (fun HT_ HW_=>?_)
                   generalize wc.drew=w40 at HO_7 BK359 HB hx373_0 hx374_0 hx375_0 hHeld ⊢
                   refine pure_ (i:=0) (N:=some 82) (v:=?_) (a':=?_) #[true,false,false,false,false,false,false,false,false,false,false,false,false,false,false,false,false,false,false,false,false,false,false,false] rfl rfl (any_of HT_.out (by kernel_rfl)) (fun _ _ _ h=>h) (Or.inl ⟨by rfl,?_⟩) ?_ ?_
                   rotate_left
                   ·intro w'
                    go_simp
                    with_reducible rfl
                   rotate_left
                   ·simp only [Act.put,List.setIfInBounds_toArray,List.set_cons_zero,List.set_cons_succ,i64_w,i32_w]
                    rfl
                   refine pure_ (i:=1) (N:=some 83) (v:=?_) (a':=?_) #[true,true,false,false,false,false,false,false,false,false,false,false,false,false,false,false,false,false,false,false,false,false,false,false] rfl rfl (any_of HT_.out (by kernel_rfl)) (fun _ _ _ h=>h) (Or.inl ⟨by rfl,?_⟩) ?_ ?_
                   rotate_left
                   ·intro w'
                    go_simp
                    with_reducible rfl
                   rotate_left
                   ·simp only [Act.put,List.setIfInBounds_toArray,List.set_cons_zero,List.set_cons_succ,i64_w,i32_w]
                    rfl
                   refine pure_ (i:=2) (N:=some 84) (v:=?_) (a':=?_) #[true,true,true,false,false,false,false,false,false,false,false,false,false,false,false,false,false,false,false,false,false,false,false,false] rfl rfl (any_of HT_.out (by kernel_rfl)) (fun _ _ _ h=>h) (Or.inl ⟨by rfl,?_⟩) ?_ ?_
                   rotate_left
                   ·intro w'
                    go_simp
                    with_reducible rfl
                   rotate_left
                   ·simp only [Act.put,List.setIfInBounds_toArray,List.set_cons_zero,List.set_cons_succ,i64_w,i32_w]
                    rfl
                   refine pure_ (i:=4) (N:=some 86) (v:=?_) (a':=?_) #[true,true,true,false,true,false,false,false,false,false,false,false,false,false,false,false,false,false,false,false,false,false,false,false] rfl rfl (any_of HT_.out (by kernel_rfl)) (fun _ _ _ h=>h) (Or.inl ⟨by rfl,?_⟩) ?_ ?_
                   rotate_left
                   ·intro w'
                    go_simp
                    with_reducible rfl
                   rotate_left
                   ·simp only [Act.put,List.setIfInBounds_toArray,List.set_cons_zero,List.set_cons_succ,i64_w,i32_w]
                    rfl
                   refine pure_ (i:=5) (N:=some 87) (v:=?_) (a':=?_) #[true,true,true,false,true,true,false,false,false,false,false,false,false,false,false,false,false,false,false,false,false,false,false,false] rfl rfl (any_of HT_.out (by kernel_rfl)) (fun _ _ _ h=>h) (Or.inl ⟨by rfl,?_⟩) ?_ ?_
                   rotate_left
                   ·intro w'
                    go_simp
                    with_reducible rfl
                   rotate_left
                   ·simp only [Act.put,List.setIfInBounds_toArray,List.set_cons_zero,List.set_cons_succ,i64_w,i32_w]
                    rfl
                   refine pure_ (i:=6) (N:=some 88) (v:=?_) (a':=?_) #[true,true,true,false,true,true,true,false,false,false,false,false,false,false,false,false,false,false,false,false,false,false,false,false] rfl rfl (any_of HT_.out (by kernel_rfl)) (fun _ _ _ h=>h) (Or.inl ⟨by rfl,?_⟩) ?_ ?_
                   rotate_left
                   ·intro w'
                    go_simp
                    with_reducible rfl
                   rotate_left
                   ·simp only [Act.put,List.setIfInBounds_toArray,List.set_cons_zero,List.set_cons_succ,i64_w,i32_w]
                    rfl
                   refine pure_ (i:=7) (N:=some 89) (v:=?_) (a':=?_) #[true,true,true,false,true,true,true,true,false,false,false,false,false,false,false,false,false,false,false,false,false,false,false,false] rfl rfl (any_of HT_.out (by kernel_rfl)) (fun _ _ _ h=>h) (Or.inl ⟨by rfl,?_⟩) ?_ ?_
                   rotate_left
                   ·intro w'
                    go_simp
                    with_reducible rfl
                   rotate_left
                   ·simp only [Act.put,List.setIfInBounds_toArray,List.set_cons_zero,List.set_cons_succ,i64_w,i32_w]
                    rfl
                   refine take_ (i:=3) (N:=some 85) (v:=?_) (a':=?_) #[true,true,true,true,true,true,true,true,false,false,false,false,false,false,false,false,false,false,false,false,false,false,false,false] rfl rfl (take_ofW HT_.out HW_.out (by kernel_rfl)) (fun _ _ _ h=>h) (Or.inl ⟨by rfl,?_⟩) hHeld ?_ ?_
                   rotate_left
                   ·rintro w' ⟨s0,s1,s2,s3,s4,s5,s6,s7,s8,s9⟩
                    go_simp
                    with_reducible rfl
                   rotate_left
                   ·simp only [Act.put,List.setIfInBounds_toArray,List.set_cons_zero,List.set_cons_succ,i64_w,i32_w]
                    rfl
                   refine take_ (i:=8) (N:=some 90) (v:=?_) (a':=?_) #[true,true,true,true,true,true,true,true,true,false,false,false,false,false,false,false,false,false,false,false,false,false,false,false] rfl rfl (take_ofW HT_.out HW_.out (by kernel_rfl)) (fun _ _ _ h=>h) (Or.inl ⟨by rfl,?_⟩) hHeld ?_ ?_
                   rotate_left
                   ·rintro w' ⟨s0,s1,s2,s3,s4,s5,s6,s7,s8,s9⟩
                    go_simp
                    with_reducible rfl
                   rotate_left
                   ·simp only [Act.put,List.setIfInBounds_toArray,List.set_cons_zero,List.set_cons_succ,i64_w,i32_w]
                    rfl
                   refine pure_ (i:=9) (N:=some 91) (v:=?_) (a':=?_) #[true,true,true,true,true,true,true,true,true,true,false,false,false,false,false,false,false,false,false,false,false,false,false,false] rfl rfl (any_of HT_.out (by kernel_rfl)) (fun _ _ _ h=>h) (Or.inl ⟨by rfl,?_⟩) ?_ ?_
                   rotate_left
                   ·intro w'
                    go_simp
                    with_reducible rfl
                   rotate_left
                   ·simp only [Act.put,List.setIfInBounds_toArray,List.set_cons_zero,List.set_cons_succ,i64_w,i32_w]
                    rfl
                   refine pure_ (i:=10) (N:=some 92) (v:=?_) (a':=?_) #[true,true,true,true,true,true,true,true,true,true,true,false,false,false,false,false,false,false,false,false,false,false,false,false] rfl rfl (any_of HT_.out (by kernel_rfl)) (fun _ _ _ h=>h) (Or.inl ⟨by rfl,?_⟩) ?_ ?_
                   rotate_left
                   ·intro w'
                    go_simp
                    with_reducible rfl
                   rotate_left
                   ·simp only [Act.put,List.setIfInBounds_toArray,List.set_cons_zero,List.set_cons_succ,i64_w,i32_w]
                    rfl
                   refine pure_ (i:=11) (N:=some 93) (v:=?_) (a':=?_) #[true,true,true,true,true,true,true,true,true,true,true,true,false,false,false,false,false,false,false,false,false,false,false,false] rfl rfl (any_of HT_.out (by kernel_rfl)) (fun _ _ _ h=>h) (Or.inl ⟨by rfl,?_⟩) ?_ ?_
                   rotate_left
                   ·intro w'
                    go_simp
                    with_reducible rfl
                   rotate_left
                   ·simp only [Act.put,List.setIfInBounds_toArray,List.set_cons_zero,List.set_cons_succ,i64_w,i32_w]
                    rfl
                   refine take_ (i:=12) (N:=some 94) (v:=?_) (a':=?_) #[true,true,true,true,true,true,true,true,true,true,true,true,true,false,false,false,false,false,false,false,false,false,false,false] rfl rfl (take_ofW HT_.out HW_.out (by kernel_rfl)) (fun _ _ _ h=>h) (Or.inl ⟨by rfl,?_⟩) hHeld ?_ ?_
                   rotate_left
                   ·rintro w' ⟨s0,s1,s2,s3,s4,s5,s6,s7,s8,s9⟩
                    go_simp
                    with_reducible rfl
                   rotate_left
                   ·simp only [Act.put,List.setIfInBounds_toArray,List.set_cons_zero,List.set_cons_succ,i64_w,i32_w]
                    rfl
                   refine pure_ (i:=13) (N:=some 95) (v:=?_) (a':=?_) #[true,true,true,true,true,true,true,true,true,true,true,true,true,true,false,false,false,false,false,false,false,false,false,false] rfl rfl (any_of HT_.out (by kernel_rfl)) (fun _ _ _ h=>h) (Or.inl ⟨by rfl,?_⟩) ?_ ?_
                   rotate_left
                   ·intro w'
                    go_simp
                    with_reducible rfl
                   rotate_left
                   ·simp only [Act.put,List.setIfInBounds_toArray,List.set_cons_zero,List.set_cons_succ,i64_w,i32_w]
                    rfl
                   refine pure_ (i:=14) (N:=some 96) (v:=?_) (a':=?_) #[true,true,true,true,true,true,true,true,true,true,true,true,true,true,true,false,false,false,false,false,false,false,false,false] rfl rfl (any_of HT_.out (by kernel_rfl)) (fun _ _ _ h=>h) (Or.inl ⟨by rfl,?_⟩) ?_ ?_
                   rotate_left
                   ·intro w'
                    go_simp
                    with_reducible rfl
                   rotate_left
                   ·simp only [Act.put,List.setIfInBounds_toArray,List.set_cons_zero,List.set_cons_succ,i64_w,i32_w]
                    rfl
                   refine pure_ (i:=15) (N:=some 97) (v:=?_) (a':=?_) #[true,true,true,true,true,true,true,true,true,true,true,true,true,true,true,true,false,false,false,false,false,false,false,false] rfl rfl (any_of HT_.out (by kernel_rfl)) (fun _ _ _ h=>h) (Or.inl ⟨by rfl,?_⟩) ?_ ?_
                   rotate_left
                   ·intro w'
                    go_simp
                    with_reducible rfl
                   rotate_left
                   ·simp only [Act.put,List.setIfInBounds_toArray,List.set_cons_zero,List.set_cons_succ,i64_w,i32_w]
                    rfl
                   refine pure_ (i:=16) (N:=some 98) (v:=?_) (a':=?_) #[true,true,true,true,true,true,true,true,true,true,true,true,true,true,true,true,true,false,false,false,false,false,false,false] rfl rfl (any_of HT_.out (by kernel_rfl)) (fun _ _ _ h=>h) (Or.inl ⟨by rfl,?_⟩) ?_ ?_
                   rotate_left
                   ·intro w'
                    go_simp
                    with_reducible rfl
                   rotate_left
                   ·simp only [Act.put,List.setIfInBounds_toArray,List.set_cons_zero,List.set_cons_succ,i64_w,i32_w]
                    rfl
                   refine pure_ (i:=17) (N:=some 99) (v:=?_) (a':=?_) #[true,true,true,true,true,true,true,true,true,true,true,true,true,true,true,true,true,true,false,false,false,false,false,false] rfl rfl (any_of HT_.out (by kernel_rfl)) (fun _ _ _ h=>h) (Or.inl ⟨by rfl,?_⟩) ?_ ?_
                   rotate_left
                   ·intro w'
                    go_simp
                    with_reducible rfl
                   rotate_left
                   ·simp only [Act.put,List.setIfInBounds_toArray,List.set_cons_zero,List.set_cons_succ,i64_w,i32_w]
                    rfl
                   refine pure_ (i:=19) (N:=some 101) (v:=?_) (a':=?_) #[true,true,true,true,true,true,true,true,true,true,true,true,true,true,true,true,true,true,false,true,false,false,false,false] rfl rfl (any_of HT_.out (by kernel_rfl)) (fun _ _ _ h=>h) (Or.inl ⟨by rfl,?_⟩) ?_ ?_
                   rotate_left
                   ·intro w'
                    go_simp
                    with_reducible rfl
                   rotate_left
                   ·simp only [Act.put,List.setIfInBounds_toArray,List.set_cons_zero,List.set_cons_succ,i64_w,i32_w]
                    rfl
                   refine take_ (i:=18) (N:=some 100) (v:=?_) (a':=?_) #[true,true,true,true,true,true,true,true,true,true,true,true,true,true,true,true,true,true,true,true,false,false,false,false] rfl rfl (take_ofW HT_.out HW_.out (by kernel_rfl)) (fun _ _ _ h=>h) (Or.inl ⟨by rfl,?_⟩) hHeld ?_ ?_
                   rotate_left
                   ·rintro w' ⟨s0,s1,s2,s3,s4,s5,s6,s7,s8,s9⟩
                    go_simp
                    with_reducible rfl
                   rotate_left
                   ·simp only [Act.put,List.setIfInBounds_toArray,List.set_cons_zero,List.set_cons_succ,i64_w,i32_w]
                    rfl
                   refine take_ (i:=20) (N:=some 102) (v:=?_) (a':=?_) #[true,true,true,true,true,true,true,true,true,true,true,true,true,true,true,true,true,true,true,true,true,false,false,false] rfl rfl (take_ofW HT_.out HW_.out (by kernel_rfl)) (fun _ _ _ h=>h) (Or.inl ⟨by rfl,?_⟩) hHeld ?_ ?_
                   rotate_left
                   ·rintro w' ⟨s0,s1,s2,s3,s4,s5,s6,s7,s8,s9⟩
                    go_simp
                    with_reducible rfl
                   rotate_left
                   ·simp only [Act.put,List.setIfInBounds_toArray,List.set_cons_zero,List.set_cons_succ,i64_w,i32_w]
                    rfl
                   refine pure_ (i:=21) (N:=some 103) (v:=?_) (a':=?_) #[true,true,true,true,true,true,true,true,true,true,true,true,true,true,true,true,true,true,true,true,true,true,false,false] rfl rfl (any_of HT_.out (by kernel_rfl)) (fun _ _ _ h=>h) (Or.inl ⟨by rfl,?_⟩) ?_ ?_
                   rotate_left
                   ·intro w'
                    go_simp
                    with_reducible rfl
                   rotate_left
                   ·simp only [Act.put,List.setIfInBounds_toArray,List.set_cons_zero,List.set_cons_succ,i64_w,i32_w]
                    rfl
                   refine pure_ (i:=22) (N:=some 104) (v:=?_) (a':=?_) #[true,true,true,true,true,true,true,true,true,true,true,true,true,true,true,true,true,true,true,true,true,true,true,false] rfl rfl (any_of HT_.out (by kernel_rfl)) (fun _ _ _ h=>h) (Or.inl ⟨by rfl,?_⟩) ?_ ?_
                   rotate_left
                   ·intro w'
                    go_simp
                    with_reducible rfl
                   rotate_left
                   ·simp only [Act.put,List.setIfInBounds_toArray,List.set_cons_zero,List.set_cons_succ,i64_w,i32_w]
                    rfl
                   refine pure_ (i:=23) (N:=some 105) (v:=?_) (a':=?_) (.replicate 24 true) rfl rfl (any_of HT_.out (by kernel_rfl)) (fun _ _ _ h=>h) (Or.inl ⟨by rfl,?_⟩) ?_ ?_
                   rotate_left
                   ·intro w'
                    go_simp
                    with_reducible rfl
                   rotate_left
                   ·simp only [Act.put,List.setIfInBounds_toArray,List.set_cons_zero,List.set_cons_succ,i64_w,i32_w]
                    rfl
                   refine done_ (done_of HT_.out (by kernel_rfl)) ?_
                   try go_wp2
                   go_meet
                   case rel=>exact ⟨_,(decide ((rd t363 x9_2) > a0_3)),val_,H',⟨by have:=HJ3.out;have:=HK2.out;have:=HJ20.out;first | omega | exact Nat.le_refl _⟩,⟨rod_ HO_7⟩,⟨blo_ BK359.out⟩,⟨belg_⟩⟩
                  ·rw [if_neg c39] at H;have c39b0:decide (0≤a0_3)=false:=decide_eq_false c39;clear c39;have H':=ad_ H;clear H
                   try go_wp2
                   have n0_:=ad_ (Kd.R_drew HO_7.out);have n1_:=ad_ (blk_drew BK359.out);have n2_:=ad_ (below_drew1 HB.out);clear HO_7;clear BK359;clear HB;have HO_7:=n0_;have BK359:=n1_;have HB:=n2_;clear n0_ n1_ n2_;have p373:0≤(x9_2:Int):=dec_;have q373:x9_2 < (t363.length:Int):=dec_;obtain ⟨ad373,e373,hx373_0⟩:=Kd.at_int (Kd.R_reads' HO_7.out).2.2 x9_2 p373 q373
                   cases e373
                   replace p373:=eq_true p373;replace q373:=eq_true q373;have p374:0≤((ji34):Int):=dec_;have q374:(ji34) < (t363.length:Int):=dec_;obtain ⟨ad374,e374,hx374_0⟩:=Kd.at_int (Kd.R_reads' HO_7.out).2.2 (ji34) p374 q374;obtain rfl:ad373=ad374:=(by injection e374);replace p374:=eq_true p374;replace q374:=eq_true q374
                   refine start_ (n:=24) (S:=fun w'=>w'.cell? ⟨gb359,0,none⟩=some (.int .i64 a0_0)∧w'.cell? ⟨gb359,1,none⟩=some (.int .i64 a0_1)∧w'.cell? ⟨gb359,2,none⟩=some (.int .i64 a0_2)∧w'.cell? ⟨gb359,3,none⟩=some (.int .i64 a0_3)∧w'.cell? ⟨gb359,4,none⟩=some (.slice A0_4 l0_4.length c0_4)∧w'.cell? ⟨gb359,5,none⟩=some (.slice A0_5 l0_5.length c0_5)∧w'.cell? ⟨gb359,6,none⟩=some (.slice A0_6 l0_6.length c0_6)∧w'.cell? (ad373.add (x9_2).toNat)=some (.int .i64 (rd t363 x9_2))∧w'.cell? (ad373.add ((ji34)).toNat)=some (.int .i64 (rd t363 (ji34)))) (ds:=[]) (.replicate 24 false) (by kernel_rfl) rfl rfl ⟨bc_ BK359,bc_ BK359,bc_ BK359,bc_ BK359,bc_ BK359,bc_ BK359,bc_ BK359,hx373_0,hx374_0⟩ (fun hHeld=>?_);refine with_tabW posthornlaw21_RecurTimes.tab12 posthornlaw21_RecurTimes.bits12 (fun HT_ HW_=>?_)
                   generalize wc.drew=w41 at HO_7 BK359 HB hx373_0 hx374_0 hHeld ⊢
                   refine pure_ (i:=0) (N:=some 82) (v:=?_) (a':=?_) #[true,false,false,false,false,false,false,false,false,false,false,false,false,false,false,false,false,false,false,false,false,false,false,false] rfl rfl (any_of HT_.out (by kernel_rfl)) (fun _ _ _ h=>h) (Or.inl ⟨by rfl,?_⟩) ?_ ?_
                   rotate_left
                   ·intro w'
                    go_simp
                    with_reducible rfl
                   rotate_left
                   ·simp only [Act.put,List.setIfInBounds_toArray,List.set_cons_zero,List.set_cons_succ,i64_w,i32_w]
                    rfl
                   refine pure_ (i:=1) (N:=some 83) (v:=?_) (a':=?_) #[true,true,false,false,false,false,false,false,false,false,false,false,false,false,false,false,false,false,false,false,false,false,false,false] rfl rfl (any_of HT_.out (by kernel_rfl)) (fun _ _ _ h=>h) (Or.inl ⟨by rfl,?_⟩) ?_ ?_
                   rotate_left
                   ·intro w'
                    go_simp
                    with_reducible rfl
                   rotate_left
                   ·simp only [Act.put,List.setIfInBounds_toArray,List.set_cons_zero,List.set_cons_succ,i64_w,i32_w]
                    rfl
                   refine pure_ (i:=2) (N:=some 84) (v:=?_) (a':=?_) #[true,true,true,false,false,false,false,false,false,false,false,false,false,false,false,false,false,false,false,false,false,false,false,false] rfl rfl (any_of HT_.out (by kernel_rfl)) (fun _ _ _ h=>h) (Or.inl ⟨by rfl,?_⟩) ?_ ?_
                   rotate_left
                   ·intro w'
                    go_simp
                    with_reducible rfl
                   rotate_left
                   ·simp only [Act.put,List.setIfInBounds_toArray,List.set_cons_zero,List.set_cons_succ,i64_w,i32_w]
                    rfl
                   refine pure_ (i:=4) (N:=some 86) (v:=?_) (a':=?_) #[true,true,true,false,true,false,false,false,false,false,false,false,false,false,false,false,false,false,false,false,false,false,false,false] rfl rfl (any_of HT_.out (by kernel_rfl)) (fun _ _ _ h=>h) (Or.inl ⟨by rfl,?_⟩) ?_ ?_
                   rotate_left
                   ·intro w'
                    go_simp
                    with_reducible rfl
                   rotate_left
                   ·simp only [Act.put,List.setIfInBounds_toArray,List.set_cons_zero,List.set_cons_succ,i64_w,i32_w]
                    rfl
                   refine pure_ (i:=5) (N:=some 87) (v:=?_) (a':=?_) #[true,true,true,false,true,true,false,false,false,false,false,false,false,false,false,false,false,false,false,false,false,false,false,false] rfl rfl (any_of HT_.out (by kernel_rfl)) (fun _ _ _ h=>h) (Or.inl ⟨by rfl,?_⟩) ?_ ?_
                   rotate_left
                   ·intro w'
                    go_simp
                    with_reducible rfl
                   rotate_left
                   ·simp only [Act.put,List.setIfInBounds_toArray,List.set_cons_zero,List.set_cons_succ,i64_w,i32_w]
                    rfl
                   refine pure_ (i:=6) (N:=some 88) (v:=?_) (a':=?_) #[true,true,true,false,true,true,true,false,false,false,false,false,false,false,false,false,false,false,false,false,false,false,false,false] rfl rfl (any_of HT_.out (by kernel_rfl)) (fun _ _ _ h=>h) (Or.inl ⟨by rfl,?_⟩) ?_ ?_
                   rotate_left
                   ·intro w'
                    go_simp
                    with_reducible rfl
                   rotate_left
                   ·simp only [Act.put,List.setIfInBounds_toArray,List.set_cons_zero,List.set_cons_succ,i64_w,i32_w]
                    rfl
                   refine pure_ (i:=7) (N:=some 89) (v:=?_) (a':=?_) #[true,true,true,false,true,true,true,true,false,false,false,false,false,false,false,false,false,false,false,false,false,false,false,false] rfl rfl (any_of HT_.out (by kernel_rfl)) (fun _ _ _ h=>h) (Or.inl ⟨by rfl,?_⟩) ?_ ?_
                   rotate_left
                   ·intro w'
                    go_simp
                    with_reducible rfl
                   rotate_left
                   ·simp only [Act.put,List.setIfInBounds_toArray,List.set_cons_zero,List.set_cons_succ,i64_w,i32_w]
                    rfl
                   refine take_ (i:=3) (N:=some 85) (v:=?_) (a':=?_) #[true,true,true,true,true,true,true,true,false,false,false,false,false,false,false,false,false,false,false,false,false,false,false,false] rfl rfl (take_ofW HT_.out HW_.out (by kernel_rfl)) (fun _ _ _ h=>h) (Or.inl ⟨by rfl,?_⟩) hHeld ?_ ?_
                   rotate_left
                   ·rintro w' ⟨s0,s1,s2,s3,s4,s5,s6,s7,s8⟩
                    go_simp
                    with_reducible rfl
                   rotate_left
                   ·simp only [Act.put,List.setIfInBounds_toArray,List.set_cons_zero,List.set_cons_succ,i64_w,i32_w]
                    rfl
                   refine take_ (i:=8) (N:=some 90) (v:=?_) (a':=?_) #[true,true,true,true,true,true,true,true,true,false,false,false,false,false,false,false,false,false,false,false,false,false,false,false] rfl rfl (take_ofW HT_.out HW_.out (by kernel_rfl)) (fun _ _ _ h=>h) (Or.inl ⟨by rfl,?_⟩) hHeld ?_ ?_
                   rotate_left
                   ·rintro w' ⟨s0,s1,s2,s3,s4,s5,s6,s7,s8⟩
                    go_simp
                    with_reducible rfl
                   rotate_left
                   ·simp only [Act.put,List.setIfInBounds_toArray,List.set_cons_zero,List.set_cons_succ,i64_w,i32_w]
                    rfl
                   refine pure_ (i:=9) (N:=some 91) (v:=?_) (a':=?_) #[true,true,true,true,true,true,true,true,true,true,false,false,false,false,false,false,false,false,false,false,false,false,false,false] rfl rfl (any_of HT_.out (by kernel_rfl)) (fun _ _ _ h=>h) (Or.inl ⟨by rfl,?_⟩) ?_ ?_
                   rotate_left
                   ·intro w'
                    go_simp
                    with_reducible rfl
                   rotate_left
                   ·simp only [Act.put,List.setIfInBounds_toArray,List.set_cons_zero,List.set_cons_succ,i64_w,i32_w]
                    rfl
                   refine pure_ (i:=10) (N:=some 92) (v:=?_) (a':=?_) #[true,true,true,true,true,true,true,true,true,true,true,false,false,false,false,false,false,false,false,false,false,false,false,false] rfl rfl (any_of HT_.out (by kernel_rfl)) (fun _ _ _ h=>h) (Or.inl ⟨by rfl,?_⟩) ?_ ?_
                   rotate_left
                   ·intro w'
                    go_simp
                    with_reducible rfl
                   rotate_left
                   ·simp only [Act.put,List.setIfInBounds_toArray,List.set_cons_zero,List.set_cons_succ,i64_w,i32_w]
                    rfl
                   refine pure_ (i:=11) (N:=some 93) (v:=?_) (a':=?_) #[true,true,true,true,true,true,true,true,true,true,true,true,false,false,false,false,false,false,false,false,false,false,false,false] rfl rfl (any_of HT_.out (by kernel_rfl)) (fun _ _ _ h=>h) (Or.inl ⟨by rfl,?_⟩) ?_ ?_
                   rotate_left
                   ·intro w'
                    go_simp
                    with_reducible rfl
                   rotate_left
                   ·simp only [Act.put,List.setIfInBounds_toArray,List.set_cons_zero,List.set_cons_succ,i64_w,i32_w]
                    rfl
                   refine take_ (i:=12) (N:=some 94) (v:=?_) (a':=?_) #[true,true,true,true,true,true,true,true,true,true,true,true,true,false,false,false,false,false,false,false,false,false,false,false] rfl rfl (take_ofW HT_.out HW_.out (by kernel_rfl)) (fun _ _ _ h=>h) (Or.inl ⟨by rfl,?_⟩) hHeld ?_ ?_
                   rotate_left
                   ·rintro w' ⟨s0,s1,s2,s3,s4,s5,s6,s7,s8⟩
                    go_simp
                    with_reducible rfl
                   rotate_left
                   ·simp only [Act.put,List.setIfInBounds_toArray,List.set_cons_zero,List.set_cons_succ,i64_w,i32_w]
                    rfl
                   refine pure_ (i:=13) (N:=some 95) (v:=?_) (a':=?_) #[true,true,true,true,true,true,true,true,true,true,true,true,true,true,false,false,false,false,false,false,false,false,false,false] rfl rfl (any_of HT_.out (by kernel_rfl)) (fun _ _ _ h=>h) (Or.inl ⟨by rfl,?_⟩) ?_ ?_
                   rotate_left
                   ·intro w'
                    go_simp
                    with_reducible rfl
                   rotate_left
                   ·simp only [Act.put,List.setIfInBounds_toArray,List.set_cons_zero,List.set_cons_succ,i64_w,i32_w]
                    rfl
                   refine pure_ (i:=14) (N:=some 96) (v:=?_) (a':=?_) #[true,true,true,true,true,true,true,true,true,true,true,true,true,true,true,false,false,false,false,false,false,false,false,false] rfl rfl (any_of HT_.out (by kernel_rfl)) (fun _ _ _ h=>h) (Or.inl ⟨by rfl,?_⟩) ?_ ?_
                   rotate_left
                   ·intro w'
                    go_simp
                    with_reducible rfl
                   rotate_left
                   ·simp only [Act.put,List.setIfInBounds_toArray,List.set_cons_zero,List.set_cons_succ,i64_w,i32_w]
                    rfl
                   refine pure_ (i:=15) (N:=some 97) (v:=undef) (a':=?_) #[true,true,true,true,true,true,true,true,true,true,true,true,true,true,true,true,false,false,false,false,false,false,false,false] rfl rfl (any_of HT_.out (by kernel_rfl)) (fun _ _ _ h=>h) (Or.inr ⟨by rfl,rfl⟩) ?_ ?_
                   rotate_left
                   ·simp only [Act.put,List.setIfInBounds_toArray,List.set_cons_zero,List.set_cons_succ,i64_w,i32_w]
                    rfl
                   refine pure_ (i:=16) (N:=some 98) (v:=undef) (a':=?_) #[true,true,true,true,true,true,true,true,true,true,true,true,true,true,true,true,true,false,false,false,false,false,false,false] rfl rfl (any_of HT_.out (by kernel_rfl)) (fun _ _ _ h=>h) (Or.inr ⟨by rfl,rfl⟩) ?_ ?_
                   rotate_left
                   ·simp only [Act.put,List.setIfInBounds_toArray,List.set_cons_zero,List.set_cons_succ,i64_w,i32_w]
                    rfl
                   refine pure_ (i:=17) (N:=some 99) (v:=undef) (a':=?_) #[true,true,true,true,true,true,true,true,true,true,true,true,true,true,true,true,true,true,false,false,false,false,false,false] rfl rfl (any_of HT_.out (by kernel_rfl)) (fun _ _ _ h=>h) (Or.inr ⟨by rfl,rfl⟩) ?_ ?_
                   rotate_left
                   ·simp only [Act.put,List.setIfInBounds_toArray,List.set_cons_zero,List.set_cons_succ,i64_w,i32_w]
                    rfl
                   refine pure_ (i:=18) (N:=some 100) (v:=undef) (a':=?_) #[true,true,true,true,true,true,true,true,true,true,true,true,true,true,true,true,true,true,true,false,false,false,false,false] rfl rfl (any_of HT_.out (by kernel_rfl)) (fun _ _ _ h=>h) (Or.inr ⟨by rfl,rfl⟩) ?_ ?_
                   rotate_left
                   ·simp only [Act.put,List.setIfInBounds_toArray,List.set_cons_zero,List.set_cons_succ,i64_w,i32_w]
                    rfl
                   refine pure_ (i:=19) (N:=some 101) (v:=undef) (a':=?_) #[true,true,true,true,true,true,true,true,true,true,true,true,true,true,true,true,true,true,true,true,false,false,false,false] rfl rfl (any_of HT_.out (by kernel_rfl)) (fun _ _ _ h=>h) (Or.inr ⟨by rfl,rfl⟩) ?_ ?_
                   rotate_left
                   ·simp only [Act.put,List.setIfInBounds_toArray,List.set_cons_zero,List.set_cons_succ,i64_w,i32_w]
                    rfl
                   refine pure_ (i:=20) (N:=some 102) (v:=undef) (a':=?_) #[true,true,true,true,true,true,true,true,true,true,true,true,true,true,true,true,true,true,true,true,true,false,false,false] rfl rfl (any_of HT_.out (by kernel_rfl)) (fun _ _ _ h=>h) (Or.inr ⟨by rfl,rfl⟩) ?_ ?_
                   rotate_left
                   ·simp only [Act.put,List.setIfInBounds_toArray,List.set_cons_zero,List.set_cons_succ,i64_w,i32_w]
                    rfl
                   refine pure_ (i:=21) (N:=some 103) (v:=undef) (a':=?_) #[true,true,true,true,true,true,true,true,true,true,true,true,true,true,true,true,true,true,true,true,true,true,false,false] rfl rfl (any_of HT_.out (by kernel_rfl)) (fun _ _ _ h=>h) (Or.inr ⟨by rfl,rfl⟩) ?_ ?_
                   rotate_left
                   ·simp only [Act.put,List.setIfInBounds_toArray,List.set_cons_zero,List.set_cons_succ,i64_w,i32_w]
                    rfl
                   refine pure_ (i:=22) (N:=some 104) (v:=?_) (a':=?_) #[true,true,true,true,true,true,true,true,true,true,true,true,true,true,true,true,true,true,true,true,true,true,true,false] rfl rfl (any_of HT_.out (by kernel_rfl)) (fun _ _ _ h=>h) (Or.inl ⟨by rfl,?_⟩) ?_ ?_
                   rotate_left
                   ·intro w'
                    go_simp
                    with_reducible rfl
                   rotate_left
                   ·simp only [Act.put,List.setIfInBounds_toArray,List.set_cons_zero,List.set_cons_succ,i64_w,i32_w]
                    rfl
                   refine pure_ (i:=23) (N:=some 105) (v:=?_) (a':=?_) (.replicate 24 true) rfl rfl (any_of HT_.out (by kernel_rfl)) (fun _ _ _ h=>h) (Or.inl ⟨by rfl,?_⟩) ?_ ?_
                   rotate_left
                   ·intro w'
                    go_simp
                    with_reducible rfl
                   rotate_left
                   ·simp only [Act.put,List.setIfInBounds_toArray,List.set_cons_zero,List.set_cons_succ,i64_w,i32_w]
                    rfl
                   refine done_ (done_of HT_.out (by kernel_rfl)) ?_
                   try go_wp2
                   go_meet
                   case rel=>exact ⟨_,(false),val_,H',⟨by have:=HJ3.out;have:=HK2.out;have:=HJ20.out;first | omega | exact Nat.le_refl _⟩,⟨rod_ HO_7⟩,⟨blo_ BK359.out⟩,⟨belg_⟩⟩
                ·rw [if_neg c36] at H;exact absurd H (by simp)
               ·rw [if_neg c35] at H;exact absurd H (by simp)
              ·rw [if_neg c33] at H;exact absurd H (by simp)
             ·rw [if_neg c32] at H;exact absurd H (by simp)
            case rest =>
             clear HC31;(try clear p2);(try clear c3);(try clear p3);(try clear q3);(try clear hx3);(try clear c32);(try clear c33);(try clear c35);(try clear c36);(try clear c37);(try clear c37b0);(try clear p37);(try clear q37);(try clear hx37);(try clear c39);(try clear c39b0);(try clear hx373_0);(try clear hx374_0);(try clear hx375_0);(try clear p373);(try clear p374);(try clear p375);(try clear q373);(try clear q374);(try clear q375);obtain ⟨kq,x105_30,rfl,HA,HJ30,HO_7,BK359,HB⟩:=hcut
             cases kq with
             | zero=>exact absurd HA.out (by simp [posthornlaw21_RecurTimes.j3])
             | succ kj30 =>
              have H:=HA.out;clear HA
              simp only [posthornlaw21_RecurTimes.j3] at H
              by_cases c42:x105_30=true
              ·subst c42;replace H:=ifp_ H;exact absurd (Option.some.inj H) (by rw [hr_.out];decide)
              ·replace c42:=Bool.eq_false_iff.mpr c42;subst c42;replace H:=ifn_ H
               by_cases c43:0≤x9_2
               ·rw [if_pos c43] at H;have c43b0:decide (0≤x9_2)=true:=decide_eq_true c43;clear c43
                by_cases c44:x9_2 < (t363.length:Int)
                ·rw [if_pos c44] at H;have c44b0:decide (x9_2 < (t363.length:Int))=true:=decide_eq_true c44;clear c44;replace H:=Option.bind_eq_some_iff.mp H;obtain ⟨⟨t377,t378⟩,A450,H⟩:=H
                 try dsimp only at H
                 have A45:=ad_ A450;clear A450;have HC46:=Aside0.mk H;clear H
                 try go_wp2
                 have n0_:=ad_ (Kd.R_drew HO_7.out);have n1_:=ad_ (blk_drew BK359.out);have n2_:=ad_ (below_drew1 HB.out);clear HO_7;clear BK359;clear HB;have HO_7:=n0_;have BK359:=n1_;have HB:=n2_;clear n0_ n1_ n2_;have p376:0≤(x9_2:Int):=dec_;have q376:x9_2 < (t363.length:Int):=dec_;obtain ⟨ad376,e376,hx376_0⟩:=Kd.at_int (Kd.R_reads' HO_7.out).2.2 x9_2 p376 q376
                 cases e376
                 replace p376:=eq_true p376;replace q376:=eq_true q376
                 refine start_ (n:=14) (S:=fun w'=>w'.cell? ⟨gb359,0,none⟩=some (.int .i64 a0_0)∧w'.cell? ⟨gb359,1,none⟩=some (.int .i64 a0_1)∧w'.cell? ⟨gb359,2,none⟩=some (.int .i64 a0_2)∧w'.cell? ⟨gb359,3,none⟩=some (.int .i64 a0_3)∧w'.cell? ⟨gb359,4,none⟩=some (.slice A0_4 l0_4.length c0_4)∧w'.cell? ⟨gb359,5,none⟩=some (.slice A0_5 l0_5.length c0_5)∧w'.cell? ⟨gb359,6,none⟩=some (.slice A0_6 l0_6.length c0_6)∧w'.cell? (ad376.add (x9_2).toNat)=some (.int .i64 (rd t363 x9_2))) (ds:=[]) (.replicate 14 false) (by kernel_rfl) rfl rfl ⟨bc_ BK359,bc_ BK359,bc_ BK359,bc_ BK359,bc_ BK359,bc_ BK359,bc_ BK359,hx376_0⟩ (fun hHeld=>?_);refine with_tabW posthornlaw21_RecurTimes.tab14 posthornlaw21_RecurTimes.bits14 (fun HT_ HW_=>?_)
                 generalize wc.drew=w47 at HO_7 BK359 HB hx376_0 hHeld ⊢
                 refine pure_ (i:=1) (N:=some 108) (v:=?_) (a':=?_) #[false,true,false,false,false,false,false,false,false,false,false,false,false,false] rfl rfl (any_of HT_.out (by kernel_rfl)) (fun _ _ _ h=>h) (Or.inl ⟨by rfl,?_⟩) ?_ ?_
                 rotate_left
                 ·intro w'
                  go_simp
                  with_reducible rfl
                 rotate_left
                 ·simp only [Act.put,List.setIfInBounds_toArray,List.set_cons_zero,List.set_cons_succ,i64_w,i32_w]
                  rfl
                 refine pure_ (i:=2) (N:=some 109) (v:=?_) (a':=?_) #[false,true,true,false,false,false,false,false,false,false,false,false,false,false] rfl rfl (any_of HT_.out (by kernel_rfl)) (fun _ _ _ h=>h) (Or.inl ⟨by rfl,?_⟩) ?_ ?_
                 rotate_left
                 ·intro w'
                  go_simp
                  with_reducible rfl
                 rotate_left
                 ·simp only [Act.put,List.setIfInBounds_toArray,List.set_cons_zero,List.set_cons_succ,i64_w,i32_w]
                  rfl
                 refine pure_ (i:=3) (N:=some 110) (v:=?_) (a':=?_) #[false,true,true,true,false,false,false,false,false,false,false,false,false,false] rfl rfl (any_of HT_.out (by kernel_rfl)) (fun _ _ _ h=>h) (Or.inl ⟨by rfl,?_⟩) ?_ ?_
                 rotate_left
                 ·intro w'
                  go_simp
                  with_reducible rfl
                 rotate_left
                 ·simp only [Act.put,List.setIfInBounds_toArray,List.set_cons_zero,List.set_cons_succ,i64_w,i32_w]
                  rfl
                 refine pure_ (i:=4) (N:=some 111) (v:=?_) (a':=?_) #[false,true,true,true,true,false,false,false,false,false,false,false,false,false] rfl rfl (any_of HT_.out (by kernel_rfl)) (fun _ _ _ h=>h) (Or.inl ⟨by rfl,?_⟩) ?_ ?_
                 rotate_left
                 ·intro w'
                  go_simp
                  with_reducible rfl
                 rotate_left
                 ·simp only [Act.put,List.setIfInBounds_toArray,List.set_cons_zero,List.set_cons_succ,i64_w,i32_w]
                  rfl
                 refine pure_ (i:=5) (N:=some 112) (v:=?_) (a':=?_) #[false,true,true,true,true,true,false,false,false,false,false,false,false,false] rfl rfl (any_of HT_.out (by kernel_rfl)) (fun _ _ _ h=>h) (Or.inl ⟨by rfl,?_⟩) ?_ ?_
                 rotate_left
                 ·intro w'
                  go_simp
                  with_reducible rfl
                 rotate_left
                 ·simp only [Act.put,List.setIfInBounds_toArray,List.set_cons_zero,List.set_cons_succ,i64_w,i32_w]
                  rfl
                 refine take_ (i:=0) (N:=some 107) (v:=?_) (a':=?_) #[true,true,true,true,true,true,false,false,false,false,false,false,false,false] rfl rfl (take_ofW HT_.out HW_.out (by kernel_rfl)) (fun _ _ _ h=>h) (Or.inl ⟨by rfl,?_⟩) hHeld ?_ ?_
                 rotate_left
                 ·rintro w' ⟨s0,s1,s2,s3,s4,s5,s6,s7⟩
                  go_simp
                  with_reducible rfl
                 rotate_left
                 ·simp only [Act.put,List.setIfInBounds_toArray,List.set_cons_zero,List.set_cons_succ,i64_w,i32_w]
                  rfl
                 refine take_ (i:=6) (N:=some 113) (v:=?_) (a':=?_) #[true,true,true,true,true,true,true,false,false,false,false,false,false,false] rfl rfl (take_ofW HT_.out HW_.out (by kernel_rfl)) (fun _ _ _ h=>h) (Or.inl ⟨by rfl,?_⟩) hHeld ?_ ?_
                 rotate_left
                 ·rintro w' ⟨s0,s1,s2,s3,s4,s5,s6,s7⟩
                  go_simp
                  with_reducible rfl
                 rotate_left
                 ·simp only [Act.put,List.setIfInBounds_toArray,List.set_cons_zero,List.set_cons_succ,i64_w,i32_w]
                  rfl
                 refine pure_ (i:=7) (N:=some 114) (v:=?_) (a':=?_) #[true,true,true,true,true,true,true,true,false,false,false,false,false,false] rfl rfl (any_of HT_.out (by kernel_rfl)) (fun _ _ _ h=>h) (Or.inl ⟨by rfl,?_⟩) ?_ ?_
                 rotate_left
                 ·intro w'
                  go_simp
                  with_reducible rfl
                 rotate_left
                 ·simp only [Act.put,List.setIfInBounds_toArray,List.set_cons_zero,List.set_cons_succ,i64_w,i32_w]
                  rfl
                 refine one_ (i:=8) (N:=some 115) #[true,true,true,true,true,true,true,true,true,false,false,false,false,false] rfl rfl (one_of HT_.out (by kernel_rfl)) (by decide) (fun K hK=>?_)
                 refine goes_ Tryz.func10 (by kernel_rfl) rfl #[.agg #[.int .i64 a0_0,.int .i64 a0_1,.int .i64 a0_2,.int .i64 a0_3,.slice A0_4 l0_4.length c0_4,.slice A0_5 l0_5.length c0_5,.slice A0_6 l0_6.length c0_6],.int .i64 (wrap64 (Int.tdiv a1 86400)),.int .i64 (wrap64 (Int.tdiv (rd t363 x9_2) 86400))] (by rfl) rfl rfl arg_ ?_
                 with_reducible refine (recur_Match.calls kj30 a0_0 a0_1 a0_2 a0_3 _ _ l0_4 _ _ l0_5 _ _ l0_6 (wrap64 (Int.tdiv a1 86400)) (wrap64 (Int.tdiv (rd t363 x9_2) 86400)) t377 t378 _ ?side1 ?side2 ?side3 ?side4 ?side5 ?side6 A45.out).mono ?_
                 (case side1=>exact cop_ (Kd.C_below HR0_4.out HB.out))
                 (case side2=>exact HC0_4.out)
                 (case side3=>exact cop_ (Kd.C_below HR0_5.out HB.out))
                 (case side4=>exact HC0_5.out)
                 (case side5=>exact cop_ (Kd.C_below HR0_6.out HB.out))
                 (case side6=>exact HC0_6.out)
                 rintro e w48 ⟨rfl,hb⟩;have HS7_:=(hb.cell (World.block_lt_of_cell? _ _ (hHeld.2.2.2.2.2.2.2))).trans (hHeld.2.2.2.2.2.2.2)
                 refine ⟨_,rfl,?_⟩
                 have n0_:=ad_ (Kd.R_below (rod_ HO_7) hb);have n1_:=ad_ (blk_below (g:=gb359) (o:=.cells #[.int .i64 a0_0,.int .i64 a0_1,.int .i64 a0_2,.int .i64 a0_3,.slice A0_4 l0_4.length c0_4,.slice A0_5 l0_5.length c0_5,.slice A0_6 l0_6.length c0_6] 25 (0,0)) (blo_ BK359.out) hb);have n2_:=hbb_ hb;clear HO_7;clear BK359;clear HB;have HO_7:=n0_;have BK359:=n1_;have HB:=n2_;clear n0_ n1_ n2_
                 (try clear hb)
                 (try clear hb2)
                 (try clear hk)
                 (try clear hi)
                 refine hK.out _ _ ⟨bc_ BK359,bc_ BK359,bc_ BK359,bc_ BK359,bc_ BK359,bc_ BK359,bc_ BK359,HS7_⟩ (fun hHeld=>?_)
                 clear hK K
                 refine norm_ (a':=?_) ?_ ?_
                 rotate_left
                 ·show Act.put _ (some 115) _=_
                  simp only [Act.put,List.setIfInBounds_toArray,List.set_cons_zero,List.set_cons_succ,i64_w,i32_w]
                  rfl
                 refine pure_ (i:=9) (N:=some 106) (v:=?_) (a':=?_) #[true,true,true,true,true,true,true,true,true,true,false,false,false,false] rfl rfl (any_of HT_.out (by kernel_rfl)) (fun _ _ _ h=>h) (Or.inl ⟨by rfl,?_⟩) ?_ ?_
                 rotate_left
                 ·intro w'
                  go_simp
                  with_reducible rfl
                 rotate_left
                 ·simp only [Act.put,List.setIfInBounds_toArray,List.set_cons_zero,List.set_cons_succ,i64_w,i32_w]
                  rfl
                 refine pure_ (i:=10) (N:=some 116) (v:=?_) (a':=?_) #[true,true,true,true,true,true,true,true,true,true,true,false,false,false] rfl rfl (any_of HT_.out (by kernel_rfl)) (fun _ _ _ h=>h) (Or.inl ⟨by rfl,?_⟩) ?_ ?_
                 rotate_left
                 ·intro w'
                  go_simp
                  with_reducible rfl
                 rotate_left
                 ·simp only [Act.put,List.setIfInBounds_toArray,List.set_cons_zero,List.set_cons_succ,i64_w,i32_w]
                  rfl
                 refine pure_ (i:=11) (N:=some 117) (v:=?_) (a':=?_) #[true,true,true,true,true,true,true,true,true,true,true,true,false,false] rfl rfl (any_of HT_.out (by kernel_rfl)) (fun _ _ _ h=>h) (Or.inl ⟨by rfl,?_⟩) ?_ ?_
                 rotate_left
                 ·intro w'
                  go_simp
                  with_reducible rfl
                 rotate_left
                 ·simp only [Act.put,List.setIfInBounds_toArray,List.set_cons_zero,List.set_cons_succ,i64_w,i32_w]
                  rfl
                 refine pure_ (i:=12) (N:=some 10) (v:=?_) (a':=?_) #[true,true,true,true,true,true,true,true,true,true,true,true,true,false] rfl rfl (any_of HT_.out (by kernel_rfl)) (fun _ _ _ h=>h) (Or.inl ⟨by rfl,?_⟩) ?_ ?_
                 rotate_left
                 ·intro w'
                  go_simp
                  with_reducible rfl
                 rotate_left
                 ·simp only [Act.put,List.setIfInBounds_toArray,List.set_cons_zero,List.set_cons_succ,i64_w,i32_w]
                  rfl
                 refine pure_ (i:=13) (N:=some 11) (v:=?_) (a':=?_) (.replicate 14 true) rfl rfl (any_of HT_.out (by kernel_rfl)) (fun _ _ _ h=>h) (Or.inl ⟨by rfl,?_⟩) ?_ ?_
                 rotate_left
                 ·intro w'
                  go_simp
                  with_reducible rfl
                 rotate_left
                 ·simp only [Act.put,List.setIfInBounds_toArray,List.set_cons_zero,List.set_cons_succ,i64_w,i32_w]
                  rfl
                 refine done_ (done_of HT_.out (by kernel_rfl)) ?_
                 go_upto_region 15 with (fail)
                 go_cut [123] (fun v123 wc=>∃ (kq:Nat) (x123_45:Bool),v123 = .bool x123_45∧Aside0 (posthornlaw21_RecurTimes.j4 kq a1 a2 t363 x9_2 x123_45 a0_0 a0_1 a0_2 a0_3 l0_4 l0_5 l0_6=some r)∧Aside0 (kq≤kj30)∧Aside0 (Kd.R (Kd.int .i64) 2 wc w.heap.size (fun _=>True) (.slice (some ad376) t363.length co22) t363)∧Aside0 (wc.heap[gb359]? = some (.cells #[.int .i64 a0_0,.int .i64 a0_1,.int .i64 a0_2,.int .i64 a0_3,(.slice A0_4 l0_4.length c0_4),(.slice A0_5 l0_5.length c0_5),(.slice A0_6 l0_6.length c0_6)] 25 (0,0)))∧Aside0 (Below w.heap.size w wc))
                 case first =>
                  have H:=HC46.out;clear HC46
                  by_cases c49:t377=true
                  ·subst c49;replace H:=ifp_ H;have H':=ad_ H;clear H
                   go_wp2
                   go_meet
                   case rel=>exact ⟨_,((t378 != 0)),val_,H',⟨by have:=HJ3.out;have:=HK2.out;have:=HJ20.out;have:=HJ30.out;first | omega | exact Nat.le_refl _⟩,⟨rod_ HO_7⟩,⟨blo_ BK359.out⟩,⟨belg_⟩⟩
                  ·replace c49:=Bool.eq_false_iff.mpr c49;subst c49;replace H:=ifn_ H;have H':=ad_ H;clear H
                   go_wp2
                   go_meet
                   case rel=>exact ⟨_,(true),val_,H',⟨by have:=HJ3.out;have:=HK2.out;have:=HJ20.out;have:=HJ30.out;first | omega | exact Nat.le_refl _⟩,⟨rod_ HO_7⟩,⟨blo_ BK359.out⟩,⟨belg_⟩⟩
                 case rest =>
                  clear HC46;(try clear c1);(try clear p2);(try clear c3);(try clear p3);(try clear q3);(try clear hx3);(try clear c4);(try clear p6);(try clear c10);(try clear c32);(try clear c33);(try clear c35);(try clear c36);(try clear c37);(try clear c37b0);(try clear p37);(try clear q37);(try clear hx37);(try clear c39);(try clear c39b0);(try clear c42);(try clear c43);(try clear c43b0);(try clear c44);(try clear c44b0);(try clear c49);(try clear hx373_0);(try clear hx374_0);(try clear hx375_0);(try clear hx376_0);(try clear p2);(try clear p3);(try clear p37);(try clear p373);(try clear p374);(try clear p375);(try clear p376);(try clear q3);(try clear q37);(try clear q373);(try clear q374);(try clear q375);(try clear q376);obtain ⟨kq,x123_45,rfl,HA,HJ45,HO_7,BK359,HB⟩:=hcut
                  cases kq with
                  | zero=>exact absurd HA.out (by simp [posthornlaw21_RecurTimes.j4])
                  | succ kj45 =>
                   have H:=HA.out;clear HA
                   simp only [posthornlaw21_RecurTimes.j4] at H
                   by_cases c50:x123_45=true
                   ·subst c50;replace H:=ifp_ H;exact absurd (Option.some.inj H) (by rw [hr_.out];decide)
                   ·replace c50:=Bool.eq_false_iff.mpr c50;subst c50;replace H:=ifn_ H;obtain ⟨ji51,hji51⟩:∃ j_:Int,(wrap64 (x9_2 - 1))=j_:=⟨_,rfl⟩
                    replace H:(if 0≤(ji51) then (if (ji51) < (t363.length:Int) then (posthornlaw21_RecurTimes.l1 kj45 a1 a2 t363 x9_2 (wrap64 ((wrap64 (Int.tdiv (rd t363 (ji51)) 86400)) + 1)) a0_0 a0_1 a0_2 a0_3 l0_4 l0_5 l0_6) else (none)) else (none))=some r:=by first | (rw [hji51] at H;exact H) | (simp only [hji51] at H ⊢;exact H)
                    have hji51w:(IntKind.i64.wrap (x9_2 - 1))=ji51:=(i64_w _).trans hji51
                    by_cases c52:0≤(ji51)
                    ·rw [if_pos c52] at H;have c52b0:decide (0≤(ji51))=true:=decide_eq_true c52;clear c52
                     by_cases c53:(ji51) < (t363.length:Int)
                     ·rw [if_pos c53] at H;have c53b0:decide ((ji51) < (t363.length:Int))=true:=decide_eq_true c53;clear c53;have H':=ad_ H;clear H;have p379:0≤((ji51):Int):=dec_;have q379:(ji51) < (t363.length:Int):=dec_;obtain ⟨ad379,e379,hx379_0⟩:=Kd.at_int (Kd.R_reads' HO_7.out).2.2 (ji51) p379 q379;obtain rfl:ad376=ad379:=(by injection e379);replace p379:=eq_true p379;replace q379:=eq_true q379
                      go_wp2
                      go_loopg [12] kj45 (fun kq v12 w'=>∃ (x12_6:Int),v12 = .int .i64 x12_6∧Aside0 (posthornlaw21_RecurTimes.l1 kq a1 a2 t363 x9_2 x12_6 a0_0 a0_1 a0_2 a0_3 l0_4 l0_5 l0_6=some r)∧Aside0 (kq≤kj45)∧Aside0 (Kd.R (Kd.int .i64) 2 w' w.heap.size (fun _=>True) (.slice (some ad376) t363.length co22) t363)∧Aside0 (w'.heap[gb359]? = some (.cells #[.int .i64 a0_0,.int .i64 a0_1,.int .i64 a0_2,.int .i64 a0_3,(.slice A0_4 l0_4.length c0_4),(.slice A0_5 l0_5.length c0_5),(.slice A0_6 l0_6.length c0_6)] 25 (0,0)))∧Aside0 (Below w.heap.size w w'))
                      case atStart=>exact ⟨(wrap64 ((wrap64 (Int.tdiv (rd t363 (ji51)) 86400)) + 1)),(by first | rfl | (simp;done) | (simp only [← hji51] <;> (first | rfl | simp)) | (simp [*];done)),H',⟨Nat.le_refl _⟩,⟨rod_ HO_7⟩,⟨blo_ BK359.out⟩,⟨belg_⟩⟩
                      case round =>
                       clear H';(try clear c1);(try clear p2);(try clear c3);(try clear p3);(try clear q3);(try clear hx3);(try clear c4);(try clear c5);(try clear p6);(try clear c10);(try clear c32);(try clear c33);(try clear c35);(try clear c36);(try clear c37);(try clear c37b0);(try clear p37);(try clear q37);(try clear hx37);(try clear c39);(try clear c39b0);(try clear c42);(try clear c43);(try clear c43b0);(try clear c44);(try clear c44b0);(try clear c49);(try clear c50);(try clear c52);(try clear c52b0);(try clear c53);(try clear c53b0);(try clear hx373_0);(try clear hx374_0);(try clear hx375_0);(try clear hx376_0);(try clear hx379_0);(try clear p2);(try clear p3);(try clear p37);(try clear p373);(try clear p374);(try clear p375);(try clear p376);(try clear p379);(try clear p6);(try clear q3);(try clear q37);(try clear q373);(try clear q374);(try clear q375);(try clear q376);(try clear q379);obtain ⟨x12_6,rfl,HA,HK6,HO_7,BK359,HB⟩:=hrel
                       cases gk with
                       | zero=>exact absurd HA.out (by simp [posthornlaw21_RecurTimes.l1])
                       | succ k6 =>
                        have H:=HA.out;clear HA
                        simp only [posthornlaw21_RecurTimes.l1] at H
                        have HC54:=Aside0.mk H;clear H
                        go_upto_region 18 with (fail)
                        go_cut [148] (fun v148 wc=>∃ (kq:Nat) (x148_53:Bool),v148 = .bool x148_53∧Aside0 (posthornlaw21_RecurTimes.j6 kq a1 a2 t363 x9_2 x12_6 x148_53 a0_0 a0_1 a0_2 a0_3 l0_4 l0_5 l0_6=some r)∧Aside0 (kq≤k6)∧Aside0 (Kd.R (Kd.int .i64) 2 wc w.heap.size (fun _=>True) (.slice (some ad376) t363.length co22) t363)∧Aside0 (wc.heap[gb359]? = some (.cells #[.int .i64 a0_0,.int .i64 a0_1,.int .i64 a0_2,.int .i64 a0_3,(.slice A0_4 l0_4.length c0_4),(.slice A0_5 l0_5.length c0_5),(.slice A0_6 l0_6.length c0_6)] 25 (0,0)))∧Aside0 (Below w.heap.size w wc))
                        case first =>
                         have H:=HC54.out;clear HC54
                         by_cases c55:0≤x9_2
                         ·rw [if_pos c55] at H;have c55b0:decide (0≤x9_2)=true:=decide_eq_true c55;clear c55
                          (first | rw [c55b0] | (simp only [i64_w,i32_w];rw [c55b0]) | skip)
                          by_cases c56:x9_2 < (t363.length:Int)
                          ·rw [if_pos c56] at H;have c56b0:decide (x9_2 < (t363.length:Int))=true:=decide_eq_true c56;clear c56
                           by_cases c57:x12_6 < (wrap64 (Int.tdiv (rd t363 x9_2) 86400))
                           ·rw [if_pos c57] at H;have c57b0:decide (x12_6 < (wrap64 (Int.tdiv (rd t363 x9_2) 86400)))=true:=decide_eq_true c57;clear c57;clear hji51 hji51w;obtain ⟨ji58,hji58⟩:∃ j_:Int,(wrap64 (x9_2 - 1))=j_:=⟨_,rfl⟩
                            replace H:(if 0≤(ji58) then (if (ji58) < (t363.length:Int) then (posthornlaw21_RecurTimes.j6 k6 a1 a2 t363 x9_2 x12_6 (decide (x12_6 < (wrap64 ((wrap64 (Int.tdiv (rd t363 (ji58)) 86400)) + 60)))) a0_0 a0_1 a0_2 a0_3 l0_4 l0_5 l0_6) else (none)) else (none))=some r:=by first | (rw [hji58] at H;exact H) | (simp only [hji58] at H ⊢;exact H)
                            have hji58w:(IntKind.i64.wrap (x9_2 - 1))=ji58:=(i64_w _).trans hji58
                            by_cases c59:0≤(ji58)
                            ·rw [if_pos c59] at H;have c59b0:decide (0≤(ji58))=true:=decide_eq_true c59;clear c59
                             by_cases c60:(ji58) < (t363.length:Int)
                             ·rw [if_pos c60] at H;have c60b0:decide ((ji58) < (t363.length:Int))=true:=decide_eq_true c60;clear c60;have H':=ad_ H;clear H;have p380:0≤(x9_2:Int):=dec_;have q380:x9_2 < (t363.length:Int):=dec_;obtain ⟨ad380,e380,hx380_0⟩:=Kd.at_int (Kd.R_reads' HO_7.out).2.2 x9_2 p380 q380;obtain rfl:ad376=ad380:=(by injection e380);replace p380:=eq_true p380;replace q380:=eq_true q380;have p381:0≤((ji58):Int):=dec_;have q381:(ji58) < (t363.length:Int):=dec_;obtain ⟨ad381,e381,hx381_0⟩:=Kd.at_int (Kd.R_reads' HO_7.out).2.2 (ji58) p381 q381;obtain rfl:ad376=ad381:=(by injection e381);replace p381:=eq_true p381;replace q381:=eq_true q381
                              go_wp2
                              go_meet
                              case rel=>exact ⟨_,(decide (x12_6 < (wrap64 ((wrap64 (Int.tdiv (rd t363 (ji58)) 86400)) + 60)))),(by first | rfl | (simp;done) | (simp only [← hji58] <;> (first | rfl | simp)) | (simp [*];done)),H',⟨by have:=HJ3.out;have:=HK2.out;have:=HJ20.out;have:=HJ30.out;have:=HJ45.out;have:=HK6.out;first | omega | exact Nat.le_refl _⟩,⟨rod_ HO_7⟩,⟨blo_ BK359.out⟩,⟨belg_⟩⟩
                             ·rw [if_neg c60] at H;exact absurd H (by simp)
                            ·rw [if_neg c59] at H;exact absurd H (by simp)
                           ·rw [if_neg c57] at H;have c57b0:decide (x12_6 < (wrap64 (Int.tdiv (rd t363 x9_2) 86400)))=false:=decide_eq_false c57;clear c57;have H':=ad_ H;clear H;have p380:0≤(x9_2:Int):=dec_;have q380:x9_2 < (t363.length:Int):=dec_;obtain ⟨ad380,e380,hx380_0⟩:=Kd.at_int (Kd.R_reads' HO_7.out).2.2 x9_2 p380 q380;obtain rfl:ad376=ad380:=(by injection e380);replace p380:=eq_true p380;replace q380:=eq_true q380
                            go_wp2
                            go_meet
                            case rel=>exact ⟨_,(false),val_,H',⟨by have:=HJ3.out;have:=HK2.out;have:=HJ20.out;have:=HJ30.out;have:=HJ45.out;have:=HK6.out;first | omega | exact Nat.le_refl _⟩,⟨rod_ HO_7⟩,⟨blo_ BK359.out⟩,⟨belg_⟩⟩
                          ·rw [if_neg c56] at H;exact absurd H (by simp)
                         ·rw [if_neg c55] at H;exact absurd H (by simp)
                        case rest =>
                         clear HC54;(try clear c1);(try clear p2);(try clear c3);(try clear p3);(try clear q3);(try clear hx3);(try clear c4);(try clear c5);(try clear c6);(try clear p6);(try clear c10);(try clear c32);(try clear c33);(try clear c35);(try clear c36);(try clear c37);(try clear c37b0);(try clear p37);(try clear q37);(try clear hx37);(try clear p38);(try clear q38);(try clear hx38);(try clear c39);(try clear c39b0);(try clear c42);(try clear c43);(try clear c43b0);(try clear c44);(try clear c44b0);(try clear c49);(try clear c50);(try clear c52);(try clear c52b0);(try clear c53);(try clear c53b0);(try clear c55);(try clear c55b0);(try clear c56);(try clear c56b0);(try clear c57);(try clear c57b0);(try clear c59);(try clear c59b0);(try clear c60);(try clear c60b0);(try clear hx373_0);(try clear hx374_0);(try clear hx375_0);(try clear hx376_0);(try clear hx379_0);(try clear hx380_0);(try clear hx381_0);(try clear p2);(try clear p3);(try clear p37);(try clear p373);(try clear p374);(try clear p375);(try clear p376);(try clear p379);(try clear p380);(try clear p381);(try clear p6);(try clear q3);(try clear q37);(try clear q373);(try clear q374);(try clear q375);(try clear q376);(try clear q379);(try clear q380);(try clear q381);obtain ⟨kq,x148_53,rfl,HA,HJ53,HO_7,BK359,HB⟩:=hcut
                         cases kq with
                         | zero=>exact absurd HA.out (by simp [posthornlaw21_RecurTimes.j6])
                         | succ kj53 =>
                          have H:=HA.out;clear HA
                          simp only [posthornlaw21_RecurTimes.j6] at H
                          by_cases c61:x148_53=true
                          ·subst c61;replace H:=ifp_ H;replace H:=Option.bind_eq_some_iff.mp H;obtain ⟨⟨t382,t383⟩,A620,H⟩:=H
                           try dsimp only at H
                           have A62:=ad_ A620;clear A620
                           by_cases c63:t382=true
                           ·subst c63;replace H:=ifp_ H;exact absurd (Option.some.inj H) (by rw [hr_.out];decide)
                           ·replace c63:=Bool.eq_false_iff.mpr c63;subst c63;replace H:=ifn_ H
                            by_cases c64:t383=0
                            ·rw [if_pos c64] at H;have c64b0:(t383 == 0)=true:=beq_iff_eq.mpr c64;have c64b1:(t383 != 0)=false:=bne_eq_false_iff_eq.mpr c64;clear c64;have H':=ad_ H;clear H;have hcz65_:=cells7_ BK359.out
                             go_wp2_with (first | ((with_reducible refine gate_callee (f:=10) rfl ?_);refine goesL_ (some 156) rfl rfl Tryz.func10 (by kernel_rfl) rfl #[.agg #[.int .i64 a0_0,.int .i64 a0_1,.int .i64 a0_2,.int .i64 a0_3,.slice A0_4 l0_4.length c0_4,.slice A0_5 l0_5.length c0_5,.slice A0_6 l0_6.length c0_6],.int .i64 (wrap64 (Int.tdiv a1 86400)),.int .i64 x12_6] rfl arg_ ?_;(with_reducible refine (recur_Match.calls kj53 a0_0 a0_1 a0_2 a0_3 _ _ l0_4 _ _ l0_5 _ _ l0_6 (wrap64 (Int.tdiv a1 86400)) x12_6 false t383 _ ?_ ?_ ?_ ?_ ?_ ?_ A62.out).mono ?_);(iterate 6 exact sc_);rintro e w66 ⟨rfl,hb⟩;refine ⟨_,rfl,?_⟩;replace HO_7:=ad_ (Kd.R_below (rod_ HO_7) hb);replace BK359:=ad_ (blk_below (g:=gb359) (o:=.cells #[.int .i64 a0_0,.int .i64 a0_1,.int .i64 a0_2,.int .i64 a0_3,.slice A0_4 l0_4.length c0_4,.slice A0_5 l0_5.length c0_5,.slice A0_6 l0_6.length c0_6] 25 (0,0)) (blo_ BK359.out) hb);replace HB:=hbb_ hb;clear hb))
                             go_roundg kj53
                             case measure=>have:=HJ3.out;have:=HK2.out;have:=HJ20.out;have:=HJ30.out;have:=HJ45.out;have:=HK6.out;have:=HJ53.out;omega
                             case rel=>exact ⟨(wrap64 (x12_6 + 1)),val_,H',⟨by have:=HJ3.out;have:=HK2.out;have:=HJ20.out;have:=HJ30.out;have:=HJ45.out;have:=HK6.out;have:=HJ53.out;omega⟩,⟨rod_ HO_7⟩,⟨blo_ BK359.out⟩,⟨belg_⟩⟩
                            ·rw [if_neg c64] at H;have c64b0:(t383 == 0)=false:=beq_eq_false_iff_ne.mpr c64;have c64b1:(t383 != 0)=true:=bne_iff_ne.mpr c64;exact absurd (Option.some.inj H) (by rw [hr_.out];decide)
                          ·replace c61:=Bool.eq_false_iff.mpr c61;subst c61;replace H:=ifn_ H;have H':=ad_ H;clear H
                           go_wp2
                           go_roundg kj53
                           case measure=>have:=HJ3.out;have:=HK2.out;have:=HJ20.out;have:=HJ30.out;have:=HJ45.out;have:=HK6.out;have:=HJ53.out;omega
                           case rel=>exact ⟨(wrap64 (x9_2 + 1)),val_,H',⟨by have:=HJ3.out;have:=HK2.out;have:=HJ20.out;have:=HJ30.out;have:=HJ45.out;have:=HK6.out;have:=HJ53.out;omega⟩,⟨rod_ HO_7⟩,⟨blo_ BK359.out⟩,⟨belg_⟩⟩
                     ·rw [if_neg c53] at H;exact absurd H (by simp)
                    ·rw [if_neg c52] at H;exact absurd H (by simp)
                ·rw [if_neg c44] at H;exact absurd H (by simp)
               ·rw [if_neg c43] at H;exact absurd H (by simp)
       ·rw [if_neg c20] at H;have c20b0:decide (x9_2 < (t363.length:Int))=false:=decide_eq_false c20;clear c20;obtain ⟨t368,A670,H⟩:=bnd_ H
        try dsimp only at H
        have A67:=ad_ A670;clear A670
        by_cases c68:t368=true
        ·subst c68;replace H:=ifp_ H
         by_cases c69:a0_2=0
         ·rw [if_pos c69] at H;have c69b0:(a0_2 == 0)=true:=beq_iff_eq.mpr c69;have c69b1:(a0_2 != 0)=false:=bne_eq_false_iff_eq.mpr c69;clear c69;obtain rfl:=Option.some.inj H;obtain ⟨Ao70,co70,eo70⟩:=Kd.R_slice HO_7.out;subst eo70
          go_wp2_with (first | ((with_reducible refine gate_callee (f:=9) rfl ?_);refine goesL_ (some 164) rfl rfl Tryz.func9 (by kernel_rfl) rfl #[] rfl arg_ ?_;(with_reducible refine (posthornlaw21_alive.calls k2  true _ A67.out).mono ?_);rintro e w71 ⟨rfl,hb⟩;refine ⟨_,rfl,?_⟩;replace HO_7:=ad_ (Kd.R_below (rod_ HO_7) hb);replace BK359:=ad_ (blk_below (g:=gb359) (o:=.cells #[.int .i64 a0_0,.int .i64 a0_1,.int .i64 a0_2,.int .i64 a0_3,.slice A0_4 l0_4.length c0_4,.slice A0_5 l0_5.length c0_5,.slice A0_6 l0_6.length c0_6] 25 (0,0)) (blo_ BK359.out) hb);replace HB:=hbb_ hb;clear hb;have hcz72_:=cells7_ BK359.out))
          go_ret
          exact ⟨ret_,belg_⟩
         ·rw [if_neg c69] at H;have c69b0:(a0_2 == 0)=false:=beq_eq_false_iff_ne.mpr c69;have c69b1:(a0_2 != 0)=true:=bne_iff_ne.mpr c69;obtain rfl:=Option.some.inj H;obtain ⟨Ao73,co73,eo73⟩:=Kd.R_slice HO_7.out;subst eo73
          go_wp2_with (first | ((with_reducible refine gate_callee (f:=9) rfl ?_);refine goesL_ (some 164) rfl rfl Tryz.func9 (by kernel_rfl) rfl #[] rfl arg_ ?_;(with_reducible refine (posthornlaw21_alive.calls k2  true _ A67.out).mono ?_);rintro e w74 ⟨rfl,hb⟩;refine ⟨_,rfl,?_⟩;replace HO_7:=ad_ (Kd.R_below (rod_ HO_7) hb);replace BK359:=ad_ (blk_below (g:=gb359) (o:=.cells #[.int .i64 a0_0,.int .i64 a0_1,.int .i64 a0_2,.int .i64 a0_3,.slice A0_4 l0_4.length c0_4,.slice A0_5 l0_5.length c0_5,.slice A0_6 l0_6.length c0_6] 25 (0,0)) (blo_ BK359.out) hb);replace HB:=hbb_ hb;clear hb;have hcz75_:=cells7_ BK359.out))
          go_ret
          exact ⟨ret_,belg_⟩
        ·replace c68:=Bool.eq_false_iff.mpr c68;subst c68;replace H:=ifn_ H;exact absurd (Option.some.inj H) (by rw [hr_.out];decide)
    ·rw [if_neg c17] at H;have c17b0:(t366 == 0)=false:=beq_eq_false_iff_ne.mpr c17;have c17b1:(t366 != 0)=true:=bne_iff_ne.mpr c17;obtain ⟨t367,A760,H⟩:=bnd_ H
     try dsimp only at H
     have A76:=ad_ A760;clear A760
     by_cases c77:t367=true
     ·subst c77;replace H:=ifp_ H;obtain rfl:=Option.some.inj H;have hcz78_:=cells7_ BK359.out
      go_wp2_with (first | ((with_reducible refine gate_callee (f:=14) rfl ?_);refine goesL_ (some 28) rfl rfl Tryz.func14 (by kernel_rfl) rfl #[.agg #[.int .i64 a0_0,.int .i64 a0_1,.int .i64 a0_2,.int .i64 a0_3,.slice A0_4 l0_4.length c0_4,.slice A0_5 l0_5.length c0_5,.slice A0_6 l0_6.length c0_6],.int .i64 a1,.int .i64 a1,.int .i64 a2,.int .i64 40] rfl arg_ ?_;(with_reducible refine (recur_Expand.calls kj3 a0_0 a0_1 a0_2 a0_3 _ _ l0_4 _ _ l0_5 _ _ l0_6 a1 a1 a2 40 t363 t366 _ ?_ ?_ ?_ ?_ ?_ ?_ A16.out).mono ?_);(iterate 6 exact sc_);rintro e w79 ⟨v364,rfl,ho0,hb⟩;refine ⟨_,rfl,?_⟩;have HO365:=ad_ (Kd.R_lower ho0 (below_size belg_));replace BK359:=ad_ (blk_below (g:=gb359) (o:=.cells #[.int .i64 a0_0,.int .i64 a0_1,.int .i64 a0_2,.int .i64 a0_3,.slice A0_4 l0_4.length c0_4,.slice A0_5 l0_5.length c0_5,.slice A0_6 l0_6.length c0_6] 25 (0,0)) (blo_ BK359.out) hb);replace HB:=hbb_ hb;(try clear hb);(try clear hb2);(try clear hk);(try clear hi);(try clear ho0)) | ((with_reducible refine gate_callee (f:=9) rfl ?_);refine goesL_ (some 33) rfl rfl Tryz.func9 (by kernel_rfl) rfl #[] rfl arg_ ?_;(with_reducible refine (posthornlaw21_alive.calls kj3  true _ A76.out).mono ?_);rintro e w80 ⟨rfl,hb⟩;refine ⟨_,rfl,?_⟩;replace HO365:=ad_ (Kd.R_below (rod_ HO365) hb);replace BK359:=ad_ (blk_below (g:=gb359) (o:=.cells #[.int .i64 a0_0,.int .i64 a0_1,.int .i64 a0_2,.int .i64 a0_3,.slice A0_4 l0_4.length c0_4,.slice A0_5 l0_5.length c0_5,.slice A0_6 l0_6.length c0_6] 25 (0,0)) (blo_ BK359.out) hb);replace HB:=hbb_ hb;clear hb;obtain ⟨Ao81,co81,eo81⟩:=Kd.R_slice HO365.out;subst eo81))
      go_ret
      exact ⟨ret_,belg_⟩
     ·replace c77:=Bool.eq_false_iff.mpr c77;subst c77;replace H:=ifn_ H;exact absurd (Option.some.inj H) (by rw [hr_.out];decide)

end Go.Proofs.YtbeihceeliifeaaGreatDoor.PR

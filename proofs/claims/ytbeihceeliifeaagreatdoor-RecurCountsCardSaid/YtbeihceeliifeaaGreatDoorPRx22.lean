-- Written by a program of the session (wip/tools).
import Derived.Test.YtbeihceeliifeaaGreatDoorPRx0
import Derived.Test.YtbeihceeliifeaaGreatDoorPRx3
import Derived.Test.YtbeihceeliifeaaGreatDoorPRx7
import Derived.Test.YtbeihceeliifeaaGreatDoorPRx9
import Derived.Test.YtbeihceeliifeaaGreatDoorPRx15
import Derived.Test.YtbeihceeliifeaaGreatDoorPRx17
namespace Go.Proofs.YtbeihceeliifeaaGreatDoor.PR
open Go.RowKit Go.Proofs.YtbeihceeliifeaaGreatDoorW.PrintWords Go.Proofs.YtbeihceeliifeaaGreatDoorW.PrintLast Go.Proofs.YtbeihceeliifeaaGreatDoorW.PrintMore
attribute [local go_sem] max2_int min2_int max_two min_two max_three min_three max_four min_four   -- for this text's walks alone
set_option linter.unusedVariables false
set_option linter.unusedSimpArgs false

/-! ### posthornlaw21_RecurCounts: function 7 -/
mutual
def posthornlaw21_RecurCounts.j0:Nat→Int→Int→Int→Bool→Int→Int→Int→Int→List Int→List Int→List (S53)→Option (Bool)
 | 0,_,_,_,_,_,_,_,_,_,_,_=>none
 | k + 1,x1,x2,x3,x30,x415000,x415001,x415002,x415003,x415004,x415005,x415006=>if x30=true then ((posthornlaw21_alive.f k).bind fun t417=>(some t417)) else ((recur_Expand.f k x415000 x415001 0 (-1) x415004 x415005 x415006 x1 x1 x2 1000).bind fun bt418=>((recur_Expand.f k x415000 x415001 x3 (-1) x415004 x415005 x415006 x1 x1 x2 1000).bind fun bt422=>(if bt418.2=0 then (posthornlaw21_RecurCounts.j1 k x1 x2 x3 bt418.1 bt418.2 bt422.1 bt422.2 (bt422.2 != 0) x415000 x415001 x3 (-1) x415004 x415005 x415006) else (posthornlaw21_RecurCounts.j1 k x1 x2 x3 bt418.1 bt418.2 bt422.1 bt422.2 true x415000 x415001 x3 (-1) x415004 x415005 x415006))))
def posthornlaw21_RecurCounts.j1:Nat→Int→Int→Int→List Int→Int→List Int→Int→Bool→Int→Int→Int→Int→List Int→List Int→List (S53)→Option (Bool)
 | 0,_,_,_,_,_,_,_,_,_,_,_,_,_,_,_=>none
 | k + 1,x1,x2,x3,x9,x10,x11,x12,x57,x415000,x415001,x415002,x415003,x415004,x415005,x415006=>if x57=true then ((posthornlaw21_alive.f k).bind fun t426=>(if t426=true then (some (x10 == x12)) else (some false))) else (if (x9.length:Int) < x3 then (posthornlaw21_RecurCounts.j2 k x1 x2 x9 x11 (x9.length:Int) x415000 x415001 x415002 x415003 x415004 x415005 x415006) else (posthornlaw21_RecurCounts.j2 k x1 x2 x9 x11 x3 x415000 x415001 x415002 x415003 x415004 x415005 x415006))
def posthornlaw21_RecurCounts.j2:Nat→Int→Int→List Int→List Int→Int→Int→Int→Int→Int→List Int→List Int→List (S53)→Option (Bool)
 | 0,_,_,_,_,_,_,_,_,_,_,_,_=>none
 | k + 1,x1,x2,x9,x11,x13,x415000,x415001,x415002,x415003,x415004,x415005,x415006=>if (x11.length:Int)=x13 then (if 0≤x13 then (if x13≤(x9.length:Int) then ((posthornref21_SameTimes.f k x11 (x9.take (x13:Int).toNat)).bind fun t431=>(posthornlaw21_RecurCounts.j3 k x1 x2 x9 x11 x13 (!t431) x415000 x415001 x415002 x415003 x415004 x415005 x415006)) else (none)) else (none)) else (posthornlaw21_RecurCounts.j3 k x1 x2 x9 x11 x13 true x415000 x415001 x415002 x415003 x415004 x415005 x415006)
def posthornlaw21_RecurCounts.j3:Nat→Int→Int→List Int→List Int→Int→Bool→Int→Int→Int→Int→List Int→List Int→List (S53)→Option (Bool)
 | 0,_,_,_,_,_,_,_,_,_,_,_,_,_=>none
 | k + 1,x1,x2,x9,x11,x13,x82,x415000,x415001,x415002,x415003,x415004,x415005,x415006=>if x82=true then (some false) else (if x13=0 then ((posthornlaw21_alive.f k).bind fun t432=>(some t432)) else (if 0≤(wrap64 (x13 - 1)) then (if (wrap64 (x13 - 1)) < (x9.length:Int) then ((recur_Expand.f k x415000 x415001 0 (rd x9 (wrap64 (x13 - 1))) x415004 x415005 x415006 x1 x1 x2 1000).bind fun bt434=>((posthornlaw21_alive.f k).bind fun t438=>(if t438=true then (if bt434.2=0 then ((posthornref21_SameTimes.f k bt434.1 x11).bind fun t439=>(some t439)) else (some false)) else (some false)))) else (none)) else (none)))
end
def posthornlaw21_RecurCounts.f (k:Nat) (a0_0:Int) (a0_1:Int) (a0_2:Int) (a0_3:Int) (l0_4:List Int) (l0_5:List Int) (l0_6:List (S53)) (a1:Int) (a2:Int) (a3:Int):Option (Bool):=(posthornlaw21_Great.f a0_0 a0_1 a0_2 a0_3 l0_4 l0_5 l0_6).bind fun t415=>(if t415=true then (posthornlaw21_RecurCounts.j0 k a1 a2 a3 true a0_0 a0_1 a0_2 a0_3 l0_4 l0_5 l0_6) else ((posthornlaw21_Far.f a1 a2).bind fun t416=>(if t416=true then (posthornlaw21_RecurCounts.j0 k a1 a2 a3 true a0_0 a0_1 a0_2 a0_3 l0_4 l0_5 l0_6) else (if a3 < 1 then (posthornlaw21_RecurCounts.j0 k a1 a2 a3 true a0_0 a0_1 a0_2 a0_3 l0_4 l0_5 l0_6) else (posthornlaw21_RecurCounts.j0 k a1 a2 a3 (decide (a3 > 1000)) a0_0 a0_1 a0_2 a0_3 l0_4 l0_5 l0_6)))))
def posthornlaw21_RecurCounts.T16:Bool×List (List Nat×List Nat):=(true,[([],[]),([],[]),([1],[1]),([0,2],[0,2]),([3],[3]),([],[]),([5],[5]),([0,1,2,3,4,5,6],[]),([7,4,6,0,1,2,3,4,5,6],[4,7])])
def posthornlaw21_RecurCounts.B16:List Nat:=[0,0,2,7,15,0,32,127,255]
theorem posthornlaw21_RecurCounts.tab16:rtab .any (opsOf Tryz.f7 16)=posthornlaw21_RecurCounts.T16:=by kernel_rfl
theorem posthornlaw21_RecurCounts.bits16:waitsOk posthornlaw21_RecurCounts.T16.2 posthornlaw21_RecurCounts.B16=true:=by kernel_rfl
set_option maxHeartbeats 8000000 in
set_option maxRecDepth 100000 in
theorem posthornlaw21_RecurCounts.calls (k:Nat) (a0_0:Int) (a0_1:Int) (a0_2:Int) (a0_3:Int) (A0_4:Option Addr) (c0_4:Nat) (l0_4:List Int) (A0_5:Option Addr) (c0_5:Nat) (l0_5:List Int) (A0_6:Option Addr) (c0_6:Nat) (l0_6:List (S53)) (a1:Int) (a2:Int) (a3:Int) (r:Bool) (w:World) (hr0_4:Kd.C (Kd.int .i64) w A0_4 l0_4.length l0_4) (hc0_4:l0_4.length≤c0_4) (hr0_5:Kd.C (Kd.int .i64) w A0_5 l0_5.length l0_5) (hc0_5:l0_5.length≤c0_5) (hr0_6:Kd.C k53 w A0_6 l0_6.length l0_6) (hc0_6:l0_6.length≤c0_6) (h:posthornlaw21_RecurCounts.f k a0_0 a0_1 a0_2 a0_3 l0_4 l0_5 l0_6 a1 a2 a3=some r) (hr_:Aside0 (r=true):=by first | exact ⟨rfl⟩ | assumption) (hG:Read.Glob w) :
  Calls Tryz.prog 7 #[.agg #[.int .i64 a0_0,.int .i64 a0_1,.int .i64 a0_2,.int .i64 a0_3,.slice A0_4 l0_4.length c0_4,.slice A0_5 l0_5.length c0_5,.slice A0_6 l0_6.length c0_6],.int .i64 a1,.int .i64 a2,.int .i64 a3] w fun e w'=>e = .returned (.bool r)∧Below w.heap.size w w':=by
 have hu25:=Tryz.underlying25;have HR0_4:=Aside0.mk hr0_4;have HC0_4:=Aside0.mk hc0_4;clear hr0_4 hc0_4;have HR0_5:=Aside0.mk hr0_5;have HC0_5:=Aside0.mk hc0_5;clear hr0_5 hc0_5;have HR0_6:=Aside0.mk hr0_6;have HC0_6:=Aside0.mk hc0_6;clear hr0_6 hc0_6;have HB:=ad_ (Below.refl w.heap.size w);have HG:=Aside0.mk hG;clear hG;have H:((posthornlaw21_Great.f a0_0 a0_1 a0_2 a0_3 l0_4 l0_5 l0_6).bind fun t415=>(if t415=true then (posthornlaw21_RecurCounts.j0 k a1 a2 a3 true a0_0 a0_1 a0_2 a0_3 l0_4 l0_5 l0_6) else ((posthornlaw21_Far.f a1 a2).bind fun t416=>(if t416=true then (posthornlaw21_RecurCounts.j0 k a1 a2 a3 true a0_0 a0_1 a0_2 a0_3 l0_4 l0_5 l0_6) else (if a3 < 1 then (posthornlaw21_RecurCounts.j0 k a1 a2 a3 true a0_0 a0_1 a0_2 a0_3 l0_4 l0_5 l0_6) else (posthornlaw21_RecurCounts.j0 k a1 a2 a3 (decide (a3 > 1000)) a0_0 a0_1 a0_2 a0_3 l0_4 l0_5 l0_6))))))=some r:=h;clear h;have HC5:=Aside0.mk H;clear H
 go_enter Tryz.func7,Tryz.ntmps7
 go_upto_region 1 with (first | ((with_reducible refine gate_dst (N:=4) rfl ?_);refine box_event ?hg (N:=4) ?hd (cs:=#[.int .i64 a0_0,.int .i64 a0_1,.int .i64 a0_2,.int .i64 a0_3,.slice A0_4 l0_4.length c0_4,.slice A0_5 l0_5.length c0_5,.slice A0_6 l0_6.length c0_6]) (t:=25) ?hr ?_;(case hd=>rfl);(case hg=>rfl);(case hr=>first | (go_simp;done) | (go_simp;rfl));intro gb414 hg w6 hbox hb;have BK414:=ad_ (hbox);have GW414:=ad_ ((by rw [hg];exact (below_size bel_):w.heap.size≤gb414));have GE414:=ad_ ((by rw [hg];exact (below_size bel_):w.heap.size≤gb414));replace HB:=hbb_ hb;clear hb hbox hg))
 (try simp only [Act.put,List.setIfInBounds_toArray,List.set_cons_zero,List.set_cons_succ])
 go_cut [30] (fun v30 wc=>∃ (kq:Nat) (x30_4:Bool),v30 = .bool x30_4∧Aside0 (posthornlaw21_RecurCounts.j0 kq a1 a2 a3 x30_4 a0_0 a0_1 a0_2 a0_3 l0_4 l0_5 l0_6=some r)∧Aside0 (kq≤k)∧Aside0 (wc.heap[gb414]? = some (.cells #[.int .i64 a0_0,.int .i64 a0_1,.int .i64 a0_2,.int .i64 a0_3,(.slice A0_4 l0_4.length c0_4),(.slice A0_5 l0_5.length c0_5),(.slice A0_6 l0_6.length c0_6)] 25 (0,0)))∧Aside0 (Below w.heap.size w wc))
 case first =>
  have H:=HC5.out;clear HC5;obtain ⟨t415,A70,H⟩:=bnd_ H
  try dsimp only at H
  have A7:=ad_ A70;clear A70
  by_cases c8:t415=true
  ·subst c8;replace H:=ifp_ H;have H':=ad_ H;clear H;have hcz9_:=cells7_ BK414.out
   go_wp2_with (first | ((with_reducible refine gate_callee (f:=8) rfl ?_);refine goesL_ (some 17) rfl rfl Tryz.func8 (by kernel_rfl) rfl #[.agg #[.int .i64 a0_0,.int .i64 a0_1,.int .i64 a0_2,.int .i64 a0_3,.slice A0_4 l0_4.length c0_4,.slice A0_5 l0_5.length c0_5,.slice A0_6 l0_6.length c0_6]] rfl arg_ ?_;(with_reducible refine (posthornlaw21_Great.calls a0_0 a0_1 a0_2 a0_3 _ _ l0_4 _ _ l0_5 _ _ l0_6 true _ ?_ ?_ ?_ ?_ ?_ ?_ A7.out).mono ?_);(iterate 6 exact sc_);rintro e w10 ⟨rfl,hb⟩;refine ⟨_,rfl,?_⟩;replace BK414:=ad_ (blk_below (g:=gb414) (o:=.cells #[.int .i64 a0_0,.int .i64 a0_1,.int .i64 a0_2,.int .i64 a0_3,.slice A0_4 l0_4.length c0_4,.slice A0_5 l0_5.length c0_5,.slice A0_6 l0_6.length c0_6] 25 (0,0)) (blo_ BK414.out) hb);replace HB:=hbb_ hb;clear hb))
   go_meet
   case rel=>exact ⟨_,(true),val_,H',⟨by first | omega | exact Nat.le_refl _⟩,⟨blo_ BK414.out⟩,⟨belg_⟩⟩
  ·replace c8:=Bool.eq_false_iff.mpr c8;subst c8;replace H:=ifn_ H;obtain ⟨t416,A110,H⟩:=bnd_ H
   try dsimp only at H
   have A11:=ad_ A110;clear A110
   by_cases c12:t416=true
   ·subst c12;replace H:=ifp_ H;have H':=ad_ H;clear H;have hcz13_:=cells7_ BK414.out
    go_wp2_with (first | ((with_reducible refine gate_callee (f:=8) rfl ?_);refine goesL_ (some 17) rfl rfl Tryz.func8 (by kernel_rfl) rfl #[.agg #[.int .i64 a0_0,.int .i64 a0_1,.int .i64 a0_2,.int .i64 a0_3,.slice A0_4 l0_4.length c0_4,.slice A0_5 l0_5.length c0_5,.slice A0_6 l0_6.length c0_6]] rfl arg_ ?_;(with_reducible refine (posthornlaw21_Great.calls a0_0 a0_1 a0_2 a0_3 _ _ l0_4 _ _ l0_5 _ _ l0_6 false _ ?_ ?_ ?_ ?_ ?_ ?_ A7.out).mono ?_);(iterate 6 exact sc_);rintro e w14 ⟨rfl,hb⟩;refine ⟨_,rfl,?_⟩;replace BK414:=ad_ (blk_below (g:=gb414) (o:=.cells #[.int .i64 a0_0,.int .i64 a0_1,.int .i64 a0_2,.int .i64 a0_3,.slice A0_4 l0_4.length c0_4,.slice A0_5 l0_5.length c0_5,.slice A0_6 l0_6.length c0_6] 25 (0,0)) (blo_ BK414.out) hb);replace HB:=hbb_ hb;clear hb) | (go_at_call 13;(with_reducible refine (posthornlaw21_Far.calls a1 a2 true _ A11.out).mono ?_);rintro e w' ⟨rfl,⟨nd,rfl⟩⟩))
    go_meet
    case rel=>exact ⟨_,(true),val_,H',⟨by first | omega | exact Nat.le_refl _⟩,⟨blo_ BK414.out⟩,⟨belg_⟩⟩
   ·replace c12:=Bool.eq_false_iff.mpr c12;subst c12;replace H:=ifn_ H
    by_cases c15:a3 < 1
    ·rw [if_pos c15] at H;have c15b0:decide (a3 < 1)=true:=decide_eq_true c15;clear c15
     (first | rw [c15b0] | (simp only [i64_w,i32_w];rw [c15b0]) | skip)
     have H':=ad_ H;clear H;have hcz16_:=cells7_ BK414.out
     go_wp2_with (first | ((with_reducible refine gate_callee (f:=8) rfl ?_);refine goesL_ (some 17) rfl rfl Tryz.func8 (by kernel_rfl) rfl #[.agg #[.int .i64 a0_0,.int .i64 a0_1,.int .i64 a0_2,.int .i64 a0_3,.slice A0_4 l0_4.length c0_4,.slice A0_5 l0_5.length c0_5,.slice A0_6 l0_6.length c0_6]] rfl arg_ ?_;(with_reducible refine (posthornlaw21_Great.calls a0_0 a0_1 a0_2 a0_3 _ _ l0_4 _ _ l0_5 _ _ l0_6 false _ ?_ ?_ ?_ ?_ ?_ ?_ A7.out).mono ?_);(iterate 6 exact sc_);rintro e w17 ⟨rfl,hb⟩;refine ⟨_,rfl,?_⟩;replace BK414:=ad_ (blk_below (g:=gb414) (o:=.cells #[.int .i64 a0_0,.int .i64 a0_1,.int .i64 a0_2,.int .i64 a0_3,.slice A0_4 l0_4.length c0_4,.slice A0_5 l0_5.length c0_5,.slice A0_6 l0_6.length c0_6] 25 (0,0)) (blo_ BK414.out) hb);replace HB:=hbb_ hb;clear hb) | (go_at_call 13;(with_reducible refine (posthornlaw21_Far.calls a1 a2 false _ A11.out).mono ?_);rintro e w' ⟨rfl,⟨nd,rfl⟩⟩))
     go_meet
     case rel=>exact ⟨_,(true),val_,H',⟨by first | omega | exact Nat.le_refl _⟩,⟨blo_ BK414.out⟩,⟨belg_⟩⟩
    ·rw [if_neg c15] at H;have c15b0:decide (a3 < 1)=false:=decide_eq_false c15;clear c15
     (first | rw [c15b0] | (simp only [i64_w,i32_w];rw [c15b0]) | skip)
     have H':=ad_ H;clear H;have hcz18_:=cells7_ BK414.out
     go_wp2_with (first | ((with_reducible refine gate_callee (f:=8) rfl ?_);refine goesL_ (some 17) rfl rfl Tryz.func8 (by kernel_rfl) rfl #[.agg #[.int .i64 a0_0,.int .i64 a0_1,.int .i64 a0_2,.int .i64 a0_3,.slice A0_4 l0_4.length c0_4,.slice A0_5 l0_5.length c0_5,.slice A0_6 l0_6.length c0_6]] rfl arg_ ?_;(with_reducible refine (posthornlaw21_Great.calls a0_0 a0_1 a0_2 a0_3 _ _ l0_4 _ _ l0_5 _ _ l0_6 false _ ?_ ?_ ?_ ?_ ?_ ?_ A7.out).mono ?_);(iterate 6 exact sc_);rintro e w19 ⟨rfl,hb⟩;refine ⟨_,rfl,?_⟩;replace BK414:=ad_ (blk_below (g:=gb414) (o:=.cells #[.int .i64 a0_0,.int .i64 a0_1,.int .i64 a0_2,.int .i64 a0_3,.slice A0_4 l0_4.length c0_4,.slice A0_5 l0_5.length c0_5,.slice A0_6 l0_6.length c0_6] 25 (0,0)) (blo_ BK414.out) hb);replace HB:=hbb_ hb;clear hb) | (go_at_call 13;(with_reducible refine (posthornlaw21_Far.calls a1 a2 false _ A11.out).mono ?_);rintro e w' ⟨rfl,⟨nd,rfl⟩⟩))
     go_meet
     case rel=>exact ⟨_,(decide (a3 > 1000)),val_,H',⟨by first | omega | exact Nat.le_refl _⟩,⟨blo_ BK414.out⟩,⟨belg_⟩⟩
 case rest =>
  clear HC5;(try clear c1);(try clear p2);(try clear c7);(try clear c8);(try clear c12);(try clear c15);(try clear c15b0);(try clear hcz13_);(try clear hcz16_);(try clear hcz18_);(try clear hcz9_);obtain ⟨kq,x30_4,rfl,HA,HJ4,BK414,HB⟩:=hcut
  cases kq with
  | zero=>exact absurd HA.out (by simp [posthornlaw21_RecurCounts.j0])
  | succ kj4 =>
   have H:=HA.out;clear HA
   simp only [posthornlaw21_RecurCounts.j0] at H
   by_cases c20:x30_4=true
   ·subst c20;replace H:=ifp_ H;obtain ⟨t417,A210,H⟩:=bnd_ H
    try dsimp only at H
    have A21:=ad_ A210;clear A210;obtain rfl:=Option.some.inj H
    go_wp2_with (first | ((with_reducible refine gate_callee (f:=9) rfl ?_);refine goesL_ (some 31) rfl rfl Tryz.func9 (by kernel_rfl) rfl #[] rfl arg_ ?_;(with_reducible refine (posthornlaw21_alive.calls kj4  t417 _ A21.out).mono ?_);rintro e w22 ⟨rfl,hb⟩;refine ⟨_,rfl,?_⟩;replace BK414:=ad_ (blk_below (g:=gb414) (o:=.cells #[.int .i64 a0_0,.int .i64 a0_1,.int .i64 a0_2,.int .i64 a0_3,.slice A0_4 l0_4.length c0_4,.slice A0_5 l0_5.length c0_5,.slice A0_6 l0_6.length c0_6] 25 (0,0)) (blo_ BK414.out) hb);replace HB:=hbb_ hb;clear hb))
    go_ret
    exact ⟨ret_,belg_⟩
   ·replace c20:=Bool.eq_false_iff.mpr c20;subst c20;replace H:=ifn_ H;replace H:=Option.bind_eq_some_iff.mp H;obtain ⟨⟨t418,t421⟩,A230,H⟩:=H
    try dsimp only at H
    have A23:=ad_ A230;clear A230;replace H:=Option.bind_eq_some_iff.mp H;obtain ⟨⟨t422,t425⟩,A240,H⟩:=H
    try dsimp only at H
    have A24:=ad_ A240;clear A240;have HC25:=Aside0.mk H;clear H;have hcz26_:=cells7_ BK414.out
    go_upto_region 7 with (first | ((with_reducible refine gate_callee (f:=14) rfl ?_);refine goesL_ (some 39) rfl rfl Tryz.func14 (by kernel_rfl) rfl #[.agg #[.int .i64 a0_0,.int .i64 a0_1,.int .i64 0,.int .i64 (-1),.slice A0_4 l0_4.length c0_4,.slice A0_5 l0_5.length c0_5,.slice A0_6 l0_6.length c0_6],.int .i64 a1,.int .i64 a1,.int .i64 a2,.int .i64 1000] rfl arg_ ?_;(with_reducible refine (recur_Expand.calls kj4 a0_0 a0_1 0 (-1) _ _ l0_4 _ _ l0_5 _ _ l0_6 a1 a1 a2 1000 t418 t421 _ ?_ ?_ ?_ ?_ ?_ ?_ A23.out).mono ?_);exact Kd.C_below HR0_4.out belg_;exact HC0_4.out;exact Kd.C_below HR0_5.out belg_;exact HC0_5.out;exact Kd.C_below HR0_6.out belg_;exact HC0_6.out;rintro e w27 ⟨v419,rfl,ho0,hb⟩;refine ⟨_,rfl,?_⟩;have HO420:=ad_ (Kd.R_lower ho0 (below_size belg_));replace BK414:=ad_ (blk_below (g:=gb414) (o:=.cells #[.int .i64 a0_0,.int .i64 a0_1,.int .i64 0,.int .i64 (-1),.slice A0_4 l0_4.length c0_4,.slice A0_5 l0_5.length c0_5,.slice A0_6 l0_6.length c0_6] 25 (0,0)) (by refine blo_ ?_;refine blk_put (cs:=#[.int .i64 a0_0,.int .i64 a0_1,.int .i64 a0_2,.int .i64 (-1),.slice A0_4 l0_4.length c0_4,.slice A0_5 l0_5.length c0_5,.slice A0_6 l0_6.length c0_6]) ?_ 2 _ rfl;refine blo_ ?_;refine blk_put (cs:=#[.int .i64 a0_0,.int .i64 a0_1,.int .i64 a0_2,.int .i64 a0_3,.slice A0_4 l0_4.length c0_4,.slice A0_5 l0_5.length c0_5,.slice A0_6 l0_6.length c0_6]) ?_ 3 _ rfl;exact blo_ BK414.out) hb);replace HB:=hbb_ hb;(try clear hb);(try clear hb2);(try clear hk);(try clear hi);(try clear ho0);have hcz28_:=cells7_ BK414.out) | ((with_reducible refine gate_callee (f:=14) rfl ?_);refine goesL_ (some 49) rfl rfl Tryz.func14 (by kernel_rfl) rfl #[.agg #[.int .i64 a0_0,.int .i64 a0_1,.int .i64 a3,.int .i64 (-1),.slice A0_4 l0_4.length c0_4,.slice A0_5 l0_5.length c0_5,.slice A0_6 l0_6.length c0_6],.int .i64 a1,.int .i64 a1,.int .i64 a2,.int .i64 1000] rfl arg_ ?_;(with_reducible refine (recur_Expand.calls kj4 a0_0 a0_1 a3 (-1) _ _ l0_4 _ _ l0_5 _ _ l0_6 a1 a1 a2 1000 t422 t425 _ ?_ ?_ ?_ ?_ ?_ ?_ A24.out).mono ?_);exact Kd.C_below HR0_4.out belg_;exact HC0_4.out;exact Kd.C_below HR0_5.out belg_;exact HC0_5.out;exact Kd.C_below HR0_6.out belg_;exact HC0_6.out;rintro e w29 ⟨v423,rfl,ho0,hb⟩;refine ⟨_,rfl,?_⟩;have HO424:=ad_ (Kd.R_lower (Kd.R_new' ho0 (Kd.R_lt (by (with_reducible repeat (first | apply Kd.R_alloc | apply Kd.R_drewN | apply Kd.R_drew));exact (Kd.R_mono (rfar_ (Kd.R_types HO420.out BK414.out (by decide))) (fun _ h_=>h_.1))))) (below_size belg_));replace HO420:=ad_ (Kd.R_elder' (by (with_reducible repeat (first | apply Kd.R_alloc | apply Kd.R_drewN | apply Kd.R_drew));exact (Kd.R_mono (rfar_ (Kd.R_types HO420.out BK414.out (by decide))) (fun _ h_=>h_.1))) (Kd.R_base ho0) hb);replace BK414:=ad_ (blk_below (g:=gb414) (o:=.cells #[.int .i64 a0_0,.int .i64 a0_1,.int .i64 a3,.int .i64 (-1),.slice A0_4 l0_4.length c0_4,.slice A0_5 l0_5.length c0_5,.slice A0_6 l0_6.length c0_6] 25 (0,0)) (by refine blo_ ?_;refine blk_put (cs:=#[.int .i64 a0_0,.int .i64 a0_1,.int .i64 0,.int .i64 (-1),.slice A0_4 l0_4.length c0_4,.slice A0_5 l0_5.length c0_5,.slice A0_6 l0_6.length c0_6]) ?_ 2 _ rfl;exact blo_ BK414.out) hb);replace HB:=hbb_ hb;(try clear hb);(try clear hb2);(try clear hk);(try clear hi);(try clear ho0)))
    (try simp only [Act.put,List.setIfInBounds_toArray,List.set_cons_zero,List.set_cons_succ])
    go_cut [57] (fun v57 wc=>∃ (kq:Nat) (x57_24:Bool),v57 = .bool x57_24∧Aside0 (posthornlaw21_RecurCounts.j1 kq a1 a2 a3 t418 t421 t422 t425 x57_24 a0_0 a0_1 a3 (-1) l0_4 l0_5 l0_6=some r)∧Aside0 (kq≤kj4)∧Aside0 (Kd.R (Kd.int .i64) 2 wc w.heap.size (fun k_=>some k_≠(v423:Value).ownBlock) v419 t418)∧Aside0 (Kd.R (Kd.int .i64) 2 wc w.heap.size (fun k_=>some k_≠(v419:Value).ownBlock) v423 t422)∧Aside0 (wc.heap[gb414]? = some (.cells #[.int .i64 a0_0,.int .i64 a0_1,.int .i64 a3,.int .i64 (-1),(.slice A0_4 l0_4.length c0_4),(.slice A0_5 l0_5.length c0_5),(.slice A0_6 l0_6.length c0_6)] 25 (0,0)))∧Aside0 (Below w.heap.size w wc))
    case first =>
     have H:=HC25.out;clear HC25
     by_cases c30:t421=0
     ·rw [if_pos c30] at H;have c30b0:(t421 == 0)=true:=beq_iff_eq.mpr c30;have c30b1:(t421 != 0)=false:=bne_eq_false_iff_eq.mpr c30;clear c30
      (first | rw [c30b0] | (simp only [i64_w,i32_w];rw [c30b0]) | skip)
      have H':=ad_ H;clear H
      go_wp2
      go_meet
      case rel=>exact ⟨_,((t425 != 0)),val_,H',⟨by have:=HJ4.out;first | omega | exact Nat.le_refl _⟩,⟨by (with_reducible repeat (first | apply Kd.R_alloc | apply Kd.R_drewN | apply Kd.R_drew));exact Kd.R_mono HO420.out (fun _ hk=>hk.2)⟩,⟨by (with_reducible repeat (first | apply Kd.R_alloc | apply Kd.R_drewN | apply Kd.R_drew));exact Kd.R_mono HO424.out (fun _ hk=>hk.2)⟩,⟨blo_ BK414.out⟩,⟨belg_⟩⟩
     ·rw [if_neg c30] at H;have c30b0:(t421 == 0)=false:=beq_eq_false_iff_ne.mpr c30;have c30b1:(t421 != 0)=true:=bne_iff_ne.mpr c30
      (first | rw [c30b0] | (simp only [i64_w,i32_w];rw [c30b0]) | skip)
      have H':=ad_ H;clear H
      go_wp2
      go_meet
      case rel=>exact ⟨_,(true),val_,H',⟨by have:=HJ4.out;first | omega | exact Nat.le_refl _⟩,⟨by (with_reducible repeat (first | apply Kd.R_alloc | apply Kd.R_drewN | apply Kd.R_drew));exact Kd.R_mono HO420.out (fun _ hk=>hk.2)⟩,⟨by (with_reducible repeat (first | apply Kd.R_alloc | apply Kd.R_drewN | apply Kd.R_drew));exact Kd.R_mono HO424.out (fun _ hk=>hk.2)⟩,⟨blo_ BK414.out⟩,⟨belg_⟩⟩
    case rest =>
     clear HC25;(try clear c1);(try clear c2);(try clear p2);(try clear c3);(try clear c7);(try clear c8);(try clear c9);(try clear c12);(try clear c14);(try clear c15);(try clear c15b0);(try clear c20);(try clear c30);(try clear c30b0);(try clear c30b1);(try clear hcz13_);(try clear hcz16_);(try clear hcz18_);(try clear hcz26_);(try clear hcz28_);(try clear hcz9_);(try clear p2);obtain ⟨kq,x57_24,rfl,HA,HJ24,HO_9,HO_11,BK414,HB⟩:=hcut
     cases kq with
     | zero=>exact absurd HA.out (by simp [posthornlaw21_RecurCounts.j1])
     | succ kj24 =>
      have H:=HA.out;clear HA
      simp only [posthornlaw21_RecurCounts.j1] at H
      by_cases c31:x57_24=true
      ·subst c31;replace H:=ifp_ H;obtain ⟨t426,A320,H⟩:=bnd_ H
       try dsimp only at H
       have A32:=ad_ A320;clear A320
       by_cases c33:t426=true
       ·subst c33;replace H:=ifp_ H;obtain rfl:=Option.some.inj H
        go_wp2_with (first | ((with_reducible refine gate_callee (f:=9) rfl ?_);refine goesL_ (some 58) rfl rfl Tryz.func9 (by kernel_rfl) rfl #[] rfl arg_ ?_;(with_reducible refine (posthornlaw21_alive.calls kj24  true _ A32.out).mono ?_);rintro e w34 ⟨rfl,hb⟩;refine ⟨_,rfl,?_⟩;replace HO_9:=ad_ (Kd.R_below (rod_ HO_9) hb);replace HO_11:=ad_ (Kd.R_below (rod_ HO_11) hb);replace BK414:=ad_ (blk_below (g:=gb414) (o:=.cells #[.int .i64 a0_0,.int .i64 a0_1,.int .i64 a3,.int .i64 (-1),.slice A0_4 l0_4.length c0_4,.slice A0_5 l0_5.length c0_5,.slice A0_6 l0_6.length c0_6] 25 (0,0)) (blo_ BK414.out) hb);replace HB:=hbb_ hb;clear hb))
        go_ret
        exact ⟨ret_,belg_⟩
       ·replace c33:=Bool.eq_false_iff.mpr c33;subst c33;replace H:=ifn_ H;exact absurd (Option.some.inj H) (by rw [hr_.out];decide)
      ·replace c31:=Bool.eq_false_iff.mpr c31;subst c31;replace H:=ifn_ H;have HC35:=Aside0.mk H;clear H;obtain ⟨Ao36,co36,eo36⟩:=Kd.R_slice HO_9.out;subst eo36
       go_upto_if 68 with (fail)
       go_cut [13] (fun v13 wc=>∃ (kq:Nat) (x13_34:Int),v13 = .int .i64 x13_34∧Aside0 (posthornlaw21_RecurCounts.j2 kq a1 a2 t418 t422 x13_34 a0_0 a0_1 a3 (-1) l0_4 l0_5 l0_6=some r)∧Aside0 (kq≤kj24)∧Aside0 (Kd.R (Kd.int .i64) 2 wc w.heap.size (fun k_=>some k_≠(v423:Value).ownBlock) (.slice Ao36 t418.length co36) t418)∧Aside0 (Kd.R (Kd.int .i64) 2 wc w.heap.size (fun k_=>some k_≠((.slice Ao36 t418.length co36):Value).ownBlock) v423 t422)∧Aside0 (wc.heap[gb414]? = some (.cells #[.int .i64 a0_0,.int .i64 a0_1,.int .i64 a3,.int .i64 (-1),(.slice A0_4 l0_4.length c0_4),(.slice A0_5 l0_5.length c0_5),(.slice A0_6 l0_6.length c0_6)] 25 (0,0)))∧Aside0 (Below w.heap.size w wc))
       case first =>
        have H:=HC35.out;clear HC35
        by_cases c37:(t418.length:Int) < a3
        ·rw [if_pos c37] at H;have c37b0:decide ((t418.length:Int) < a3)=true:=decide_eq_true c37;clear c37
         (first | rw [c37b0] | (simp only [i64_w,i32_w];rw [c37b0]) | skip)
         have H':=ad_ H;clear H
         go_wp2
         go_meet
         case rel=>exact ⟨_,((t418.length:Int)),val_,H',⟨by have:=HJ4.out;have:=HJ24.out;first | omega | exact Nat.le_refl _⟩,⟨rod_ HO_9⟩,⟨rod_ HO_11⟩,⟨blo_ BK414.out⟩,⟨belg_⟩⟩
        ·rw [if_neg c37] at H;have c37b0:decide ((t418.length:Int) < a3)=false:=decide_eq_false c37;clear c37
         (first | rw [c37b0] | (simp only [i64_w,i32_w];rw [c37b0]) | skip)
         have H':=ad_ H;clear H
         go_wp2
         go_meet
         case rel=>exact ⟨_,(a3),val_,H',⟨by have:=HJ4.out;have:=HJ24.out;first | omega | exact Nat.le_refl _⟩,⟨rod_ HO_9⟩,⟨rod_ HO_11⟩,⟨blo_ BK414.out⟩,⟨belg_⟩⟩
       case rest =>
        clear HC35;(try clear c1);(try clear c2);(try clear p2);(try clear c3);(try clear c7);(try clear c8);(try clear c9);(try clear c12);(try clear c14);(try clear c15);(try clear c15b0);(try clear c20);(try clear c30);(try clear c30b0);(try clear c30b1);(try clear c31);(try clear c33);(try clear c37);(try clear c37b0);(try clear hcz13_);(try clear hcz16_);(try clear hcz18_);(try clear hcz26_);(try clear hcz28_);(try clear hcz9_);(try clear p2);obtain ⟨kq,x13_34,rfl,HA,HJ34,HO_9,HO_11,BK414,HB⟩:=hcut
        cases kq with
        | zero=>exact absurd HA.out (by simp [posthornlaw21_RecurCounts.j2])
        | succ kj34 =>
         have H:=HA.out;clear HA
         simp only [posthornlaw21_RecurCounts.j2] at H
         have HC38:=Aside0.mk H;clear H
         go_upto_region 12 with (fail)
         go_cut [82] (fun v82 wc=>∃ (kq:Nat) (x82_37:Bool),v82 = .bool x82_37∧Aside0 (posthornlaw21_RecurCounts.j3 kq a1 a2 t418 t422 x13_34 x82_37 a0_0 a0_1 a3 (-1) l0_4 l0_5 l0_6=some r)∧Aside0 (kq≤kj34)∧Aside0 (Kd.R (Kd.int .i64) 2 wc w.heap.size (fun k_=>some k_≠(v423:Value).ownBlock) (.slice Ao36 t418.length co36) t418)∧Aside0 (Kd.R (Kd.int .i64) 2 wc w.heap.size (fun k_=>some k_≠((.slice Ao36 t418.length co36):Value).ownBlock) v423 t422)∧Aside0 (wc.heap[gb414]? = some (.cells #[.int .i64 a0_0,.int .i64 a0_1,.int .i64 a3,.int .i64 (-1),(.slice A0_4 l0_4.length c0_4),(.slice A0_5 l0_5.length c0_5),(.slice A0_6 l0_6.length c0_6)] 25 (0,0)))∧Aside0 (Below w.heap.size w wc))
         case first =>
          have H:=HC38.out;clear HC38
          by_cases c39:(t422.length:Int)=x13_34
          ·rw [if_pos c39] at H;have c39b0:((t422.length:Int) == x13_34)=true:=beq_iff_eq.mpr c39;have c39b1:((t422.length:Int) != x13_34)=false:=bne_eq_false_iff_eq.mpr c39;clear c39
           (first | rw [c39b0] | (simp only [i64_w,i32_w];rw [c39b0]) | skip)
           by_cases c40:0≤x13_34
           ·rw [if_pos c40] at H;have c40b0:=eq_true c40;have c40b1:decide (0≤x13_34)=true:=decide_eq_true c40;clear c40
            by_cases c41:x13_34≤(t418.length:Int)
            ·rw [if_pos c41] at H;have c41b0:=eq_true c41;have c41b1:decide (x13_34≤(t418.length:Int))=true:=decide_eq_true c41;clear c41;obtain ⟨y427,hy427⟩:∃ y_:List Int,y_=(t418.take (x13_34:Int).toNat):=⟨_,rfl⟩
             replace H:((posthornref21_SameTimes.f kj34 t422 y427).bind fun t431=>(posthornlaw21_RecurCounts.j3 kj34 a1 a2 t418 t422 x13_34 (!t431) a0_0 a0_1 a3 (-1) l0_4 l0_5 l0_6))=some r:=by first | (rw [hy427];with_reducible exact H) | (have H2_:=(Option.bind_some _ _).symm.trans H;rw [hy427];with_reducible exact H2_) | (have H2_:=(Option.bind_some _ _).symm.trans H;with_reducible exact H2_) | with_reducible exact H | (rw [hy427];exact H) | exact H
             have Ny427:=Aside0.mk hy427;clear hy427;obtain ⟨t431,A420,H⟩:=bnd_ H
             try dsimp only at H
             have A42:=ad_ A420;clear A420;have H':=ad_ H;clear H;obtain ⟨Ao43,co43,eo43⟩:=Kd.R_slice HO_11.out;subst eo43;have q44:(x13_34:Int)≤((t418.length:Int):Int):=dec_;obtain ⟨i044,hi044,_,hsz44,_⟩:=info_parts info2;have hroom44:t418.length≤co36:=(Kd.R_reads' HO_9.out).2.1;have hC44:Kd.C (Kd.int .i64) _ Ao36 t418.length t418:=(Kd.R_reads' HO_9.out).2.2;have hcut44:=cut_to (P:=Tryz.prog) 38 2 .i64 Tryz.underlying38 hi044 Ao36 t418.length co36 x13_34 (dec_) q44 hroom44;have hr44:=Kd.C_take (m:=(x13_34:Int).toNat) hC44 (by omega);have hy44:y427.length=(x13_34:Int).toNat:=(by rw [Ny427.out,List.length_take];omega);rw [← Ny427.out] at hr44;rw [← hy44] at hcut44;have HR430:=Aside0.mk hr44;have HC430:=ad_ (show y427.length≤co36 from by omega);clear hr44 hC44 hroom44 hi044 hsz44;have KY44:=Aside0.mk hy44;clear hy44;have KL44:=ad_ (show (x13_34:Int).toNat≤t418.length from by omega);replace q44:=eq_true q44
             go_wp2_with (first | (go_at_call 16;(with_reducible refine (posthornref21_SameTimes.calls kj34 _ _ t422 _ _ y427 t431 _ ?_ ?_ ?_ ?_ A42.out).mono ?_);exact cop_ (Kd.R_reads' HO_11.out).2.2;exact (Kd.R_reads' HO_11.out).2.1;exact cop_ (by repeat (first | (with_reducible exact HR430.out) | (with_reducible refine Kd.C_alloc ?_ _) | (with_reducible refine Kd.C_drewN ?_ _) | (with_reducible refine Kd.C_drew ?_) | exact HR430.out));exact HC430.out;rintro e w' ⟨rfl,⟨nd,rfl⟩⟩))
             go_meet
             case rel=>exact ⟨_,(!t431),val_,H',⟨by have:=HJ4.out;have:=HJ24.out;have:=HJ34.out;first | omega | exact Nat.le_refl _⟩,⟨rod_ HO_9⟩,⟨rod_ HO_11⟩,⟨blo_ BK414.out⟩,⟨belg_⟩⟩
            ·rw [if_neg c41] at H;exact absurd H (by simp)
           ·rw [if_neg c40] at H;exact absurd H (by simp)
          ·rw [if_neg c39] at H;have c39b0:((t422.length:Int) == x13_34)=false:=beq_eq_false_iff_ne.mpr c39;have c39b1:((t422.length:Int) != x13_34)=true:=bne_iff_ne.mpr c39
           (first | rw [c39b0] | (simp only [i64_w,i32_w];rw [c39b0]) | skip)
           have H':=ad_ H;clear H;obtain ⟨Ao45,co45,eo45⟩:=Kd.R_slice HO_11.out;subst eo45
           go_wp2
           go_meet
           case rel=>exact ⟨_,(true),val_,H',⟨by have:=HJ4.out;have:=HJ24.out;have:=HJ34.out;first | omega | exact Nat.le_refl _⟩,⟨rod_ HO_9⟩,⟨rod_ HO_11⟩,⟨blo_ BK414.out⟩,⟨belg_⟩⟩
         case rest =>
          clear HC38;(try clear c1);(try clear c2);(try clear p2);(try clear c3);(try clear c4);(try clear q4);(try clear c7);(try clear c8);(try clear c9);(try clear c12);(try clear c14);(try clear c15);(try clear c15b0);(try clear c20);(try clear c30);(try clear c30b0);(try clear c30b1);(try clear c31);(try clear c33);(try clear c37);(try clear c37b0);(try clear c39);(try clear c39b0);(try clear c39b1);(try clear c40);(try clear c40b0);(try clear c40b1);(try clear c41);(try clear c41b0);(try clear c41b1);(try clear q44);(try clear hcz13_);(try clear hcz16_);(try clear hcz18_);(try clear hcz26_);(try clear hcz28_);(try clear hcz9_);(try clear p2);(try clear q44);obtain ⟨kq,x82_37,rfl,HA,HJ37,HO_9,HO_11,BK414,HB⟩:=hcut
          cases kq with
          | zero=>exact absurd HA.out (by simp [posthornlaw21_RecurCounts.j3])
          | succ kj37 =>
           have H:=HA.out;clear HA
           simp only [posthornlaw21_RecurCounts.j3] at H
           by_cases c46:x82_37=true
           ·subst c46;replace H:=ifp_ H;exact absurd (Option.some.inj H) (by rw [hr_.out];decide)
           ·replace c46:=Bool.eq_false_iff.mpr c46;subst c46;replace H:=ifn_ H
            by_cases c47:x13_34=0
            ·rw [if_pos c47] at H;have c47b0:(x13_34 == 0)=true:=beq_iff_eq.mpr c47;have c47b1:(x13_34 != 0)=false:=bne_eq_false_iff_eq.mpr c47;clear c47;obtain ⟨t432,A480,H⟩:=bnd_ H
             try dsimp only at H
             have A48:=ad_ A480;clear A480;obtain rfl:=Option.some.inj H
             go_wp2_with (first | ((with_reducible refine gate_callee (f:=9) rfl ?_);refine goesL_ (some 85) rfl rfl Tryz.func9 (by kernel_rfl) rfl #[] rfl arg_ ?_;(with_reducible refine (posthornlaw21_alive.calls kj37  t432 _ A48.out).mono ?_);rintro e w49 ⟨rfl,hb⟩;refine ⟨_,rfl,?_⟩;replace HO_9:=ad_ (Kd.R_below (rod_ HO_9) hb);replace HO_11:=ad_ (Kd.R_below (rod_ HO_11) hb);replace BK414:=ad_ (blk_below (g:=gb414) (o:=.cells #[.int .i64 a0_0,.int .i64 a0_1,.int .i64 a3,.int .i64 (-1),.slice A0_4 l0_4.length c0_4,.slice A0_5 l0_5.length c0_5,.slice A0_6 l0_6.length c0_6] 25 (0,0)) (blo_ BK414.out) hb);replace HB:=hbb_ hb;clear hb))
             go_ret
             exact ⟨ret_,belg_⟩
            ·rw [if_neg c47] at H;have c47b0:(x13_34 == 0)=false:=beq_eq_false_iff_ne.mpr c47;have c47b1:(x13_34 != 0)=true:=bne_iff_ne.mpr c47;obtain ⟨ji50,hji50⟩:∃ j_:Int,(wrap64 (x13_34 - 1))=j_:=⟨_,rfl⟩
             replace H:(if 0≤(ji50) then (if (ji50) < (t418.length:Int) then ((recur_Expand.f kj37 a0_0 a0_1 0 (rd t418 (ji50)) l0_4 l0_5 l0_6 a1 a1 a2 1000).bind fun bt434=>((posthornlaw21_alive.f kj37).bind fun t438=>(if t438=true then (if bt434.2=0 then ((posthornref21_SameTimes.f kj37 bt434.1 t422).bind fun t439=>(some t439)) else (some false)) else (some false)))) else (none)) else (none))=some r:=by first | (rw [hji50] at H;exact H) | (simp only [hji50] at H ⊢;exact H)
             have hji50w:(IntKind.i64.wrap (x13_34 - 1))=ji50:=(i64_w _).trans hji50
             by_cases c51:0≤(ji50)
             ·rw [if_pos c51] at H;have c51b0:decide (0≤(ji50))=true:=decide_eq_true c51;clear c51
              by_cases c52:(ji50) < (t418.length:Int)
              ·rw [if_pos c52] at H;have c52b0:decide ((ji50) < (t418.length:Int))=true:=decide_eq_true c52;clear c52;replace H:=Option.bind_eq_some_iff.mp H;obtain ⟨⟨t434,t437⟩,A530,H⟩:=H
               try dsimp only at H
               have A53:=ad_ A530;clear A530;obtain ⟨t438,A540,H⟩:=bnd_ H
               try dsimp only at H
               have A54:=ad_ A540;clear A540
               by_cases c55:t438=true
               ·subst c55;replace H:=ifp_ H
                by_cases c56:t437=0
                ·rw [if_pos c56] at H;have c56b0:(t437 == 0)=true:=beq_iff_eq.mpr c56;have c56b1:(t437 != 0)=false:=bne_eq_false_iff_eq.mpr c56;clear c56;obtain ⟨t439,A570,H⟩:=bnd_ H
                 try dsimp only at H
                 have A57:=ad_ A570;clear A570;obtain rfl:=Option.some.inj H
                 try go_wp2
                 have n0_:=ad_ (Kd.R_drew HO_9.out);have n1_:=ad_ (Kd.R_drew HO_11.out);have n2_:=ad_ (blk_drew BK414.out);have n3_:=ad_ (below_drew1 HB.out);clear HO_9;clear HO_11;clear BK414;clear HB;have HO_9:=n0_;have HO_11:=n1_;have BK414:=n2_;have HB:=n3_;clear n0_ n1_ n2_ n3_;have p433:0≤((ji50):Int):=dec_;have q433:(ji50) < (t418.length:Int):=dec_;obtain ⟨ad433,e433,hx433_0⟩:=Kd.at_int (Kd.R_reads' HO_9.out).2.2 (ji50) p433 q433
                 cases e433
                 replace p433:=eq_true p433;replace q433:=eq_true q433
                 refine start_ (n:=9) (S:=fun w'=>w'.cell? (ad433.add ((ji50)).toNat)=some (.int .i64 (rd t418 (ji50)))) (ds:=[]) (.replicate 9 false) (by kernel_rfl) rfl rfl (hx433_0) (fun hHeld=>?_);refine with_tabW posthornlaw21_RecurCounts.tab16 posthornlaw21_RecurCounts.bits16 (fun HT_ HW_=>?_)
                 generalize wc.drew=w58 at HO_9 HO_11 BK414 HB hx433_0 hHeld ⊢
                 refine pure_ (i:=0) (N:=some 86) (v:=?_) (a':=?_) #[true,false,false,false,false,false,false,false,false] rfl rfl (any_of HT_.out (by kernel_rfl)) (fun _ _ _ h=>h) (Or.inl ⟨by rfl,?_⟩) ?_ ?_
                 rotate_left
                 ·intro w'
                  go_simp
                  with_reducible rfl
                 rotate_left
                 ·simp only [Act.put,List.setIfInBounds_toArray,List.set_cons_zero,List.set_cons_succ,i64_w,i32_w]
                  rfl
                 refine pure_ (i:=1) (N:=some 87) (v:=?_) (a':=?_) #[true,true,false,false,false,false,false,false,false] rfl rfl (any_of HT_.out (by kernel_rfl)) (fun _ _ _ h=>h) (Or.inl ⟨by rfl,?_⟩) ?_ ?_
                 rotate_left
                 ·intro w'
                  go_simp
                  with_reducible rfl
                 rotate_left
                 ·simp only [Act.put,List.setIfInBounds_toArray,List.set_cons_zero,List.set_cons_succ,i64_w,i32_w]
                  rfl
                 refine pure_ (i:=2) (N:=some 88) (v:=?_) (a':=?_) #[true,true,true,false,false,false,false,false,false] rfl rfl (any_of HT_.out (by kernel_rfl)) (fun _ _ _ h=>h) (Or.inl ⟨by rfl,?_⟩) ?_ ?_
                 rotate_left
                 ·intro w'
                  go_simp
                  with_reducible rfl
                 rotate_left
                 ·simp only [Act.put,List.setIfInBounds_toArray,List.set_cons_zero,List.set_cons_succ,i64_w,i32_w]
                  rfl
                 refine pure_ (i:=3) (N:=some 89) (v:=?_) (a':=?_) #[true,true,true,true,false,false,false,false,false] rfl rfl (any_of HT_.out (by kernel_rfl)) (fun _ _ _ h=>h) (Or.inl ⟨by rfl,?_⟩) ?_ ?_
                 rotate_left
                 ·intro w'
                  go_simp
                  with_reducible rfl
                 rotate_left
                 ·simp only [Act.put,List.setIfInBounds_toArray,List.set_cons_zero,List.set_cons_succ,i64_w,i32_w]
                  rfl
                 refine pure_ (i:=5) (N:=some 91) (v:=?_) (a':=?_) #[true,true,true,true,false,true,false,false,false] rfl rfl (any_of HT_.out (by kernel_rfl)) (fun _ _ _ h=>h) (Or.inl ⟨by rfl,?_⟩) ?_ ?_
                 rotate_left
                 ·intro w'
                  go_simp
                  with_reducible rfl
                 rotate_left
                 ·simp only [Act.put,List.setIfInBounds_toArray,List.set_cons_zero,List.set_cons_succ,i64_w,i32_w]
                  rfl
                 refine take_ (i:=4) (N:=some 90) (v:=?_) (a':=?_) #[true,true,true,true,true,true,false,false,false] rfl rfl (take_ofW HT_.out HW_.out (by kernel_rfl)) (fun _ _ _ h=>h) (Or.inl ⟨by rfl,?_⟩) hHeld ?_ ?_
                 rotate_left
                 ·intro w' s0
                  go_simp
                  with_reducible rfl
                 rotate_left
                 ·simp only [Act.put,List.setIfInBounds_toArray,List.set_cons_zero,List.set_cons_succ,i64_w,i32_w]
                  rfl
                 refine one_ (i:=6) (N:=none) #[true,true,true,true,true,true,true,false,false] rfl rfl (one_of HT_.out (by kernel_rfl)) (by decide) (fun K hK=>?_)
                 have hs59:w58.cell? ⟨gb414,2,none⟩=some (.int .i64 a3):=bc_ BK414;have hfs59:=blk_frozen BK414.out 2
                 refine skip_ (w1:=?_) (by rfl) rfl ?_ ?_
                 rotate_left
                 ·go_simp
                  rfl
                 refine hK.out _ _ (((cell_far (p:=⟨gb414,_,none⟩) (by first | exact Kd.own_blk (Kd.R_ne HO_9.out BK414.out (by decide)) | (rw [add_block];exact Kd.own_blk (Kd.R_ne HO_9.out BK414.out (by decide))) | (show (Addr.add _ _).block≠_;rw [add_block];exact Kd.own_blk (Kd.R_ne HO_9.out BK414.out (by decide))) | (dsimp only;exact Kd.own_blk (Kd.R_ne HO_9.out BK414.out (by decide)))) _).trans (hHeld))) (fun hHeld=>?_)
                 clear hK K
                 refine pure_ (i:=7) (N:=some 92) (v:=?_) (a':=?_) #[true,true,true,true,true,true,true,true,false] rfl rfl (any_of HT_.out (by kernel_rfl)) (fun _ _ _ h=>h) (Or.inl ⟨by rfl,?_⟩) ?_ ?_
                 rotate_left
                 ·intro w'
                  go_simp
                  with_reducible rfl
                 rotate_left
                 ·simp only [Act.put,List.setIfInBounds_toArray,List.set_cons_zero,List.set_cons_succ,i64_w,i32_w]
                  rfl
                 refine one_ (i:=8) (N:=none) (.replicate 9 true) rfl rfl (one_of HT_.out (by kernel_rfl)) (by decide) (fun K hK=>?_)
                 have hs60:w58.cell? ⟨gb414,3,none⟩=some (.int .i64 (-1)):=bc_ BK414;have hfs60:=blk_frozen BK414.out 3
                 refine skip_ (w1:=?_) (by rfl) rfl ?_ ?_
                 rotate_left
                 ·go_simp
                  rfl
                 refine hK.out _ _ (((cell_far (p:=⟨gb414,_,none⟩) (by first | exact Kd.own_blk (Kd.R_ne HO_9.out BK414.out (by decide)) | (rw [add_block];exact Kd.own_blk (Kd.R_ne HO_9.out BK414.out (by decide))) | (show (Addr.add _ _).block≠_;rw [add_block];exact Kd.own_blk (Kd.R_ne HO_9.out BK414.out (by decide))) | (dsimp only;exact Kd.own_blk (Kd.R_ne HO_9.out BK414.out (by decide)))) _).trans (hHeld))) (fun hHeld=>?_)
                 clear hK K
                 refine done_ (done_of HT_.out (by kernel_rfl)) ?_
                 have hcz61_:=cells7_ BK414.out
                 try go_wp2_with (first | ((with_reducible refine gate_callee (f:=14) rfl ?_);refine goesL_ (some 98) rfl rfl Tryz.func14 (by kernel_rfl) rfl #[.agg #[.int .i64 a0_0,.int .i64 a0_1,.int .i64 0,.int .i64 (rd t418 (ji50)),.slice A0_4 l0_4.length c0_4,.slice A0_5 l0_5.length c0_5,.slice A0_6 l0_6.length c0_6],.int .i64 a1,.int .i64 a1,.int .i64 a2,.int .i64 1000] rfl (by (try simp only [List.map_toArray,List.map_cons,List.map_nil]);first | done | (simp only [hji50];rfl) | rfl | (simp only [List.length_drop,List.length_take];rfl)) ?_;(with_reducible refine (recur_Expand.calls kj37 a0_0 a0_1 0 (rd t418 (ji50)) _ _ l0_4 _ _ l0_5 _ _ l0_6 a1 a1 a2 1000 t434 t437 _ ?_ ?_ ?_ ?_ ?_ ?_ A53.out).mono ?_);exact Kd.C_below HR0_4.out belg_;exact HC0_4.out;exact Kd.C_below HR0_5.out belg_;exact HC0_5.out;exact Kd.C_below HR0_6.out belg_;exact HC0_6.out;rintro e w62 ⟨v435,rfl,ho0,hb⟩;refine ⟨_,rfl,?_⟩;have HO436:=ad_ (Kd.R_lower (Kd.R_new' (Kd.R_new' ho0 (Kd.R_lt (by (with_reducible repeat (first | apply Kd.R_alloc | apply Kd.R_drewN | apply Kd.R_drew));exact (Kd.R_mono (rfar_ (Kd.R_types HO_9.out BK414.out (by decide))) (fun _ h_=>h_.1))))) (Kd.R_lt (by (with_reducible repeat (first | apply Kd.R_alloc | apply Kd.R_drewN | apply Kd.R_drew));exact (Kd.R_mono (rfar_ (Kd.R_types HO_11.out BK414.out (by decide))) (fun _ h_=>h_.1))))) (below_size belg_));replace HO_9:=ad_ (Kd.R_elder' (by (with_reducible repeat (first | apply Kd.R_alloc | apply Kd.R_drewN | apply Kd.R_drew));exact (Kd.R_mono (rfar_ (Kd.R_types HO_9.out BK414.out (by decide))) (fun _ h_=>h_.1))) (Kd.R_base ho0) hb);replace HO_11:=ad_ (Kd.R_elder' (by (with_reducible repeat (first | apply Kd.R_alloc | apply Kd.R_drewN | apply Kd.R_drew));exact (Kd.R_mono (rfar_ (Kd.R_types HO_11.out BK414.out (by decide))) (fun _ h_=>h_.1))) (Kd.R_base ho0) hb);replace BK414:=ad_ (blk_below (g:=gb414) (o:=.cells #[.int .i64 a0_0,.int .i64 a0_1,.int .i64 0,.int .i64 (rd t418 (ji50)),.slice A0_4 l0_4.length c0_4,.slice A0_5 l0_5.length c0_5,.slice A0_6 l0_6.length c0_6] 25 (0,0)) (by refine blo_ ?_;refine blk_put (cs:=#[.int .i64 a0_0,.int .i64 a0_1,.int .i64 0,.int .i64 (-1),.slice A0_4 l0_4.length c0_4,.slice A0_5 l0_5.length c0_5,.slice A0_6 l0_6.length c0_6]) ?_ 3 _ rfl;refine blo_ ?_;refine blk_put (cs:=#[.int .i64 a0_0,.int .i64 a0_1,.int .i64 a3,.int .i64 (-1),.slice A0_4 l0_4.length c0_4,.slice A0_5 l0_5.length c0_5,.slice A0_6 l0_6.length c0_6]) ?_ 2 _ rfl;exact blo_ BK414.out) hb);replace HB:=hbb_ hb;(try clear hb);(try clear hb2);(try clear hk);(try clear hi);(try clear ho0)) | ((with_reducible refine gate_callee (f:=9) rfl ?_);refine goesL_ (some 101) rfl rfl Tryz.func9 (by kernel_rfl) rfl #[] rfl arg_ ?_;(with_reducible refine (posthornlaw21_alive.calls kj37  true _ A54.out).mono ?_);rintro e w63 ⟨rfl,hb⟩;refine ⟨_,rfl,?_⟩;replace HO_9:=ad_ (Kd.R_below (rod_ HO_9) hb);replace HO_11:=ad_ (Kd.R_below (rod_ HO_11) hb);replace HO436:=ad_ (Kd.R_below (rod_ HO436) hb);replace BK414:=ad_ (blk_below (g:=gb414) (o:=.cells #[.int .i64 a0_0,.int .i64 a0_1,.int .i64 0,.int .i64 (rd t418 (ji50)),.slice A0_4 l0_4.length c0_4,.slice A0_5 l0_5.length c0_5,.slice A0_6 l0_6.length c0_6] 25 (0,0)) (blo_ BK414.out) hb);replace HB:=hbb_ hb;clear hb;obtain ⟨Ao64,co64,eo64⟩:=Kd.R_slice HO436.out;subst eo64;obtain ⟨Ao65,co65,eo65⟩:=Kd.R_slice HO_11.out;subst eo65) | (go_at_call 16;(with_reducible refine (posthornref21_SameTimes.calls kj37 _ _ t434 _ _ t422 t439 _ ?_ ?_ ?_ ?_ A57.out).mono ?_);exact cop_ (Kd.R_reads' HO436.out).2.2;exact (Kd.R_reads' HO436.out).2.1;exact cop_ (Kd.R_reads' HO_11.out).2.2;exact (Kd.R_reads' HO_11.out).2.1;rintro e w' ⟨rfl,⟨nd,rfl⟩⟩))
                 go_ret
                 exact ⟨by first | rfl | (simp [errW_none,errW_some] <;> rfl) | (simp only [← hji50];first | rfl | (simp [errW_none,errW_some] <;> rfl)) | (simp [*,errW_none,errW_some] <;> rfl),belg_⟩
                ·rw [if_neg c56] at H;have c56b0:(t437 == 0)=false:=beq_eq_false_iff_ne.mpr c56;have c56b1:(t437 != 0)=true:=bne_iff_ne.mpr c56;exact absurd (Option.some.inj H) (by rw [hr_.out];decide)
               ·replace c55:=Bool.eq_false_iff.mpr c55;subst c55;replace H:=ifn_ H;exact absurd (Option.some.inj H) (by rw [hr_.out];decide)
              ·rw [if_neg c52] at H;exact absurd H (by simp)
             ·rw [if_neg c51] at H;exact absurd H (by simp)

end Go.Proofs.YtbeihceeliifeaaGreatDoor.PR

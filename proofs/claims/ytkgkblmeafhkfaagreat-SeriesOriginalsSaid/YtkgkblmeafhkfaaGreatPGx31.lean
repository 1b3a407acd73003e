-- Written by a program of the session (wip/tools).
import Derived.Test.YtkgkblmeafhkfaaGreatPGx0
import Derived.Test.YtkgkblmeafhkfaaGreatPGx5
import Derived.Test.YtkgkblmeafhkfaaGreatPGx8
import Derived.Test.YtkgkblmeafhkfaaGreatPGx13
import Derived.Test.YtkgkblmeafhkfaaGreatPGx16
import Derived.Test.YtkgkblmeafhkfaaGreatPGx17
import Derived.Test.YtkgkblmeafhkfaaGreatPGx21
import Derived.Test.YtkgkblmeafhkfaaGreatPGx27
import Derived.Test.YtkgkblmeafhkfaaGreatPGx28
import Derived.Test.YtkgkblmeafhkfaaGreatPGx30
namespace Go.Proofs.YtkgkblmeafhkfaaGreat.PG
open Go.RowKit Go.Proofs.YtkgkblmeafhkfaaGreatW.PrintWords Go.Proofs.YtkgkblmeafhkfaaGreatW.PrintLast Go.Proofs.YtkgkblmeafhkfaaGreatW.PrintMore
attribute [local go_sem] max2_int min2_int max_two min_two max_three min_three max_four min_four   -- for this text's walks alone
set_option linter.unusedVariables false
set_option linter.unusedSimpArgs false

def pl23_SeriesOriginals.f (k:Nat) (a0_0 a0_1:Int) (a0_2:Bool) (a0_3 a0_4:Int) (a0_5 a0_6:Int) (l0_7 l0_8:List Int) (l0_9:List (S91)) (l0_10 l0_11:List Int) (l0_12:List (S64)) (a1 a2:Int):Option (Bool):=(pl23_Great.f a0_0 a0_1 a0_2 a0_3 a0_4 a0_5 a0_6 l0_7 l0_8 l0_9 l0_10 l0_11 l0_12 a2).bind fun t529=>(if t529=true then ((pl23_alive.f k).bind fun t530=>(some t530)) else ((pl23_As.f k a0_0 a0_1 a0_2 a0_3 a0_4 a0_5 a0_6 l0_7 l0_8 l0_9 l0_10 l0_11 l0_12).bind fun bt531=>((series_Originals.f k a0_0 a0_1 a0_2 a0_3 a0_4 a0_5 a0_6 l0_7 l0_8 l0_9 l0_10 l0_11 l0_12 a1 a2).bind fun bt557=>((pr23_Originals.f k bt531.1 bt531.2.1 bt531.2.2.1 bt531.2.2.2.1 bt531.2.2.2.2.1 bt531.2.2.2.2.2.1 bt531.2.2.2.2.2.2.1 bt531.2.2.2.2.2.2.2.1 bt531.2.2.2.2.2.2.2.2.1 bt531.2.2.2.2.2.2.2.2.2.1 bt531.2.2.2.2.2.2.2.2.2.2.1 bt531.2.2.2.2.2.2.2.2.2.2.2.1 bt531.2.2.2.2.2.2.2.2.2.2.2.2 a1 a2).bind fun bt561=>((pl23_alive.f k).bind fun t565=>(if t565=true then ((series_Right.f k a0_0 a0_1 a0_2 a0_3 a0_4 a0_5 a0_6 l0_7 l0_8 l0_9 l0_10 l0_11 l0_12).bind fun t566=>((pr23_Right.f k bt531.1 bt531.2.1 bt531.2.2.1 bt531.2.2.2.1 bt531.2.2.2.2.1 bt531.2.2.2.2.2.1 bt531.2.2.2.2.2.2.1 bt531.2.2.2.2.2.2.2.1 bt531.2.2.2.2.2.2.2.2.1 bt531.2.2.2.2.2.2.2.2.2.1 bt531.2.2.2.2.2.2.2.2.2.2.1 bt531.2.2.2.2.2.2.2.2.2.2.2.1 bt531.2.2.2.2.2.2.2.2.2.2.2.2).bind fun t567=>(if (t566 == t567)=true then ((pr21_SameTimes.f k bt557.1 bt561.1).bind fun t568=>(if t568=true then (if bt557.2=bt561.2 then ((pl23_As.f k a0_0 a0_1 a0_2 a0_3 a0_4 a0_5 a0_6 l0_7 l0_8 l0_9 l0_10 l0_11 l0_12).bind fun bt569=>((pl23_Same.f k bt569.1 bt569.2.1 bt569.2.2.1 bt569.2.2.2.1 bt569.2.2.2.2.1 bt569.2.2.2.2.2.1 bt569.2.2.2.2.2.2.1 bt569.2.2.2.2.2.2.2.1 bt569.2.2.2.2.2.2.2.2.1 bt569.2.2.2.2.2.2.2.2.2.1 bt569.2.2.2.2.2.2.2.2.2.2.1 bt569.2.2.2.2.2.2.2.2.2.2.2.1 bt569.2.2.2.2.2.2.2.2.2.2.2.2 bt531.1 bt531.2.1 bt531.2.2.1 bt531.2.2.2.1 bt531.2.2.2.2.1 bt531.2.2.2.2.2.1 bt531.2.2.2.2.2.2.1 bt531.2.2.2.2.2.2.2.1 bt531.2.2.2.2.2.2.2.2.1 bt531.2.2.2.2.2.2.2.2.2.1 bt531.2.2.2.2.2.2.2.2.2.2.1 bt531.2.2.2.2.2.2.2.2.2.2.2.1 bt531.2.2.2.2.2.2.2.2.2.2.2.2).bind fun t594=>(some t594))) else (some false)) else (some false))) else (some false)))) else (some false)))))))
def pl23_SeriesOriginals.T6:Bool×List (List Nat×List Nat):=(true,[([],[]),([0,0],[0]),([1],[1]),([2,1,1],[1,2]),([1],[1]),([4,3,1],[1,4]),([3,5,1],[1,3,5]),([1,6],[1,6]),([7,5],[7]),([8],[8]),([8],[8]),([9,10,8,8],[8,9,10]),([8,11],[8,11]),([12,11],[12]),([13],[13]),([13],[13]),([14,15,13],[13,14,15]),([13,16],[13,16]),([17,13],[17]),([18],[18]),([19,18,18],[18,19]),([18],[18]),([20,21,20,18],[18,20,21]),([18,22],[18,22]),([23,22,0,1,2,3,4,5,6,7,8,9,10,11,12,13,14,15,16,17,18,19,20,21,22,23],[23])])
def pl23_SeriesOriginals.B6:List Nat:=[0,1,3,7,3,31,63,127,255,511,511,2047,4095,8191,16383,16383,65535,131071,262143,524287,1048575,524287,4194303,8388607,16777215]
theorem pl23_SeriesOriginals.tab6:rtab .any (opsOf Tryz.f3 6)=pl23_SeriesOriginals.T6:=by kernel_rfl
theorem pl23_SeriesOriginals.bits6:waitsOk pl23_SeriesOriginals.T6.2 pl23_SeriesOriginals.B6=true:=by kernel_rfl
set_option maxHeartbeats 8000000 in
set_option maxRecDepth 100000 in
theorem pl23_SeriesOriginals.calls (k:Nat) (a0_0 a0_1:Int) (a0_2:Bool) (a0_3 a0_4:Int) (a0_5 a0_6:Int) (A0_7:Option Addr) (c0_7:Nat) (l0_7:List Int) (A0_8:Option Addr) (c0_8:Nat) (l0_8:List Int) (A0_9:Option Addr) (c0_9:Nat) (l0_9:List (S91)) (A0_10:Option Addr) (c0_10:Nat) (l0_10:List Int) (A0_11:Option Addr) (c0_11:Nat) (l0_11:List Int) (A0_12:Option Addr) (c0_12:Nat) (l0_12:List (S64)) (a1 a2:Int) (r:Bool) (w:World) (hr0_7:Kd.C (Kd.int .i64) w A0_7 l0_7.length l0_7) (hc0_7:l0_7.length≤c0_7) (hr0_8:Kd.C (Kd.int .i64) w A0_8 l0_8.length l0_8) (hc0_8:l0_8.length≤c0_8) (hr0_9:Kd.C k91 w A0_9 l0_9.length l0_9) (hc0_9:l0_9.length≤c0_9) (hr0_10:Kd.C (Kd.int .i64) w A0_10 l0_10.length l0_10) (hc0_10:l0_10.length≤c0_10) (hr0_11:Kd.C (Kd.int .i64) w A0_11 l0_11.length l0_11) (hc0_11:l0_11.length≤c0_11) (hr0_12:Kd.C k64 w A0_12 l0_12.length l0_12) (hc0_12:l0_12.length≤c0_12) (h:pl23_SeriesOriginals.f k a0_0 a0_1 a0_2 a0_3 a0_4 a0_5 a0_6 l0_7 l0_8 l0_9 l0_10 l0_11 l0_12 a1 a2=some r) (hr_:Aside0 (r=true):=by first | exact ⟨rfl⟩ | assumption) :
  Calls Tryz.prog 3 #[.agg #[.int .i64 a0_0,.int .i64 a0_1,.bool a0_2,.int .i64 a0_3,.int .i64 a0_4,.int .i64 a0_5,.int .i64 a0_6,.slice A0_7 l0_7.length c0_7,.slice A0_8 l0_8.length c0_8,.slice A0_9 l0_9.length c0_9,.slice A0_10 l0_10.length c0_10,.slice A0_11 l0_11.length c0_11,.slice A0_12 l0_12.length c0_12],.int .i64 a1,.int .i64 a2] w fun e w'=>e = .returned (.bool r)∧Below w.heap.size w w':=by
 have hu29:=Tryz.underlying29;have hu37:=Tryz.underlying37;have HR0_7:=Aside0.mk hr0_7;have HC0_7:=Aside0.mk hc0_7;clear hr0_7 hc0_7;have HR0_8:=Aside0.mk hr0_8;have HC0_8:=Aside0.mk hc0_8;clear hr0_8 hc0_8;have HR0_9:=Aside0.mk hr0_9;have HC0_9:=Aside0.mk hc0_9;clear hr0_9 hc0_9;have HR0_10:=Aside0.mk hr0_10;have HC0_10:=Aside0.mk hc0_10;clear hr0_10 hc0_10;have HR0_11:=Aside0.mk hr0_11;have HC0_11:=Aside0.mk hc0_11;clear hr0_11 hc0_11;have HR0_12:=Aside0.mk hr0_12;have HC0_12:=Aside0.mk hc0_12;clear hr0_12 hc0_12;have HB:=ad_ (Below.refl w.heap.size w);have H:((pl23_Great.f a0_0 a0_1 a0_2 a0_3 a0_4 a0_5 a0_6 l0_7 l0_8 l0_9 l0_10 l0_11 l0_12 a2).bind fun t529=>(if t529=true then ((pl23_alive.f k).bind fun t530=>(some t530)) else ((pl23_As.f k a0_0 a0_1 a0_2 a0_3 a0_4 a0_5 a0_6 l0_7 l0_8 l0_9 l0_10 l0_11 l0_12).bind fun bt531=>((series_Originals.f k a0_0 a0_1 a0_2 a0_3 a0_4 a0_5 a0_6 l0_7 l0_8 l0_9 l0_10 l0_11 l0_12 a1 a2).bind fun bt557=>((pr23_Originals.f k bt531.1 bt531.2.1 bt531.2.2.1 bt531.2.2.2.1 bt531.2.2.2.2.1 bt531.2.2.2.2.2.1 bt531.2.2.2.2.2.2.1 bt531.2.2.2.2.2.2.2.1 bt531.2.2.2.2.2.2.2.2.1 bt531.2.2.2.2.2.2.2.2.2.1 bt531.2.2.2.2.2.2.2.2.2.2.1 bt531.2.2.2.2.2.2.2.2.2.2.2.1 bt531.2.2.2.2.2.2.2.2.2.2.2.2 a1 a2).bind fun bt561=>((pl23_alive.f k).bind fun t565=>(if t565=true then ((series_Right.f k a0_0 a0_1 a0_2 a0_3 a0_4 a0_5 a0_6 l0_7 l0_8 l0_9 l0_10 l0_11 l0_12).bind fun t566=>((pr23_Right.f k bt531.1 bt531.2.1 bt531.2.2.1 bt531.2.2.2.1 bt531.2.2.2.2.1 bt531.2.2.2.2.2.1 bt531.2.2.2.2.2.2.1 bt531.2.2.2.2.2.2.2.1 bt531.2.2.2.2.2.2.2.2.1 bt531.2.2.2.2.2.2.2.2.2.1 bt531.2.2.2.2.2.2.2.2.2.2.1 bt531.2.2.2.2.2.2.2.2.2.2.2.1 bt531.2.2.2.2.2.2.2.2.2.2.2.2).bind fun t567=>(if (t566 == t567)=true then ((pr21_SameTimes.f k bt557.1 bt561.1).bind fun t568=>(if t568=true then (if bt557.2=bt561.2 then ((pl23_As.f k a0_0 a0_1 a0_2 a0_3 a0_4 a0_5 a0_6 l0_7 l0_8 l0_9 l0_10 l0_11 l0_12).bind fun bt569=>((pl23_Same.f k bt569.1 bt569.2.1 bt569.2.2.1 bt569.2.2.2.1 bt569.2.2.2.2.1 bt569.2.2.2.2.2.1 bt569.2.2.2.2.2.2.1 bt569.2.2.2.2.2.2.2.1 bt569.2.2.2.2.2.2.2.2.1 bt569.2.2.2.2.2.2.2.2.2.1 bt569.2.2.2.2.2.2.2.2.2.2.1 bt569.2.2.2.2.2.2.2.2.2.2.2.1 bt569.2.2.2.2.2.2.2.2.2.2.2.2 bt531.1 bt531.2.1 bt531.2.2.1 bt531.2.2.2.1 bt531.2.2.2.2.1 bt531.2.2.2.2.2.1 bt531.2.2.2.2.2.2.1 bt531.2.2.2.2.2.2.2.1 bt531.2.2.2.2.2.2.2.2.1 bt531.2.2.2.2.2.2.2.2.2.1 bt531.2.2.2.2.2.2.2.2.2.2.1 bt531.2.2.2.2.2.2.2.2.2.2.2.1 bt531.2.2.2.2.2.2.2.2.2.2.2.2).bind fun t594=>(some t594))) else (some false)) else (some false))) else (some false)))) else (some false))))))))=some r:=h;clear h;obtain ⟨t529,A40,H⟩:=bnd_ H
 try dsimp only at H
 have A4:=ad_ A40;clear A40
 replace H:=db_ H;rcases H with ⟨rfl,H⟩|⟨rfl,H⟩
 ·obtain ⟨t530,A60,H⟩:=bnd_ H
  try dsimp only at H
  have A6:=ad_ A60;clear A60;obtain rfl:=Option.some.inj H
  go_enter Tryz.func3,Tryz.ntmps3
  go_wp2_with (first | ((with_reducible refine gate_dst (N:=3) rfl ?_);refine box_event ?hg (N:=3) ?hd (cs:=#[.int .i64 a0_0,.int .i64 a0_1,.bool a0_2,.int .i64 a0_3,.int .i64 a0_4,.int .i64 a0_5,.int .i64 a0_6,.slice A0_7 l0_7.length c0_7,.slice A0_8 l0_8.length c0_8,.slice A0_9 l0_9.length c0_9,.slice A0_10 l0_10.length c0_10,.slice A0_11 l0_11.length c0_11,.slice A0_12 l0_12.length c0_12]) (t:=29) ?hr ?_;(case hd=>rfl);(case hg=>rfl);(case hr=>first | (go_simp;done) | (go_simp;rfl));intro gb528 hg w7 hbox hb;have BK528:=ad_ (hbox);have GW528:=gw_ w hg;have GE528:=GW528;replace HB:=hbb_ hb;clear hb hbox hg;have hcz8_:=cells13_ BK528.out) | ((with_reducible refine gate_callee (f:=6) rfl ?_);refine goesL_ (some 14) rfl rfl Tryz.func6 (by kernel_rfl) rfl #[.agg #[.int .i64 a0_0,.int .i64 a0_1,.bool a0_2,.int .i64 a0_3,.int .i64 a0_4,.int .i64 a0_5,.int .i64 a0_6,.slice A0_7 l0_7.length c0_7,.slice A0_8 l0_8.length c0_8,.slice A0_9 l0_9.length c0_9,.slice A0_10 l0_10.length c0_10,.slice A0_11 l0_11.length c0_11,.slice A0_12 l0_12.length c0_12],.int .i64 a2] rfl arg_ ?_;(with_reducible refine (pl23_Great.calls a0_0 a0_1 a0_2 a0_3 a0_4 a0_5 a0_6 _ _ l0_7 _ _ l0_8 _ _ l0_9 _ _ l0_10 _ _ l0_11 _ _ l0_12 a2 true _ ?_ ?_ ?_ ?_ ?_ ?_ ?_ ?_ ?_ ?_ ?_ ?_ A4.out).mono ?_);(iterate 12 exact sc_);rintro e w9 ⟨rfl,hb⟩;refine ⟨_,rfl,?_⟩;replace BK528:=bkb_ BK528 hb;replace HB:=hbb_ hb;clear hb) | ((with_reducible refine gate_callee (f:=7) rfl ?_);refine goesL_ (some 15) rfl rfl Tryz.func7 (by kernel_rfl) rfl #[] rfl arg_ ?_;(with_reducible refine (pl23_alive.calls k  t530 _ A6.out).mono ?_);rintro e w10 ⟨rfl,hb⟩;refine ⟨_,rfl,?_⟩;replace BK528:=bkb_ BK528 hb;replace HB:=hbb_ hb;clear hb))
  go_ret
  exact ⟨ret_,belg_⟩
 ·replace H:=Option.bind_eq_some_iff.mp H;obtain ⟨⟨t531,t532,t533,t534,t535,t536,t537,t538,t541,t544,t547,t550,t553⟩,A110,H⟩:=H
  try dsimp only at H
  have A11:=ad_ A110;clear A110;replace H:=Option.bind_eq_some_iff.mp H;obtain ⟨⟨t557,t560⟩,A120,H⟩:=H
  try dsimp only at H
  have A12:=ad_ A120;clear A120;replace H:=Option.bind_eq_some_iff.mp H;obtain ⟨⟨t561,t564⟩,A130,H⟩:=H
  try dsimp only at H
  have A13:=ad_ A130;clear A130;obtain ⟨t565,A140,H⟩:=bnd_ H
  try dsimp only at H
  have A14:=ad_ A140;clear A140
  replace H:=db_ H;rcases H with ⟨rfl,H⟩|⟨rfl,H⟩
  ·obtain ⟨t566,A160,H⟩:=bnd_ H
   try dsimp only at H
   have A16:=ad_ A160;clear A160;obtain ⟨t567,A170,H⟩:=bnd_ H
   try dsimp only at H
   have A17:=ad_ A170;clear A170
   by_cases c18:(t566 == t567)=true
   ·rw [if_pos c18] at H;have c18b0:(t566 == t567)=true:=c18
    (try (have c18b1:decide (t566=t567)=true:=by simpa using c18))
    (try (have c18b2:(t566 == t567)=true:=by simpa using c18))
    clear c18;obtain ⟨t568,A190,H⟩:=bnd_ H
    try dsimp only at H
    have A19:=ad_ A190;clear A190
    replace H:=db_ H;rcases H with ⟨rfl,H⟩|⟨rfl,H⟩
    ·replace H:=de_ H;rcases H with ⟨H,-,c21b0,c21b1⟩|⟨H,c21,c21b0,c21b1⟩
     ·replace H:=Option.bind_eq_some_iff.mp H;obtain ⟨⟨t569,t570,t571,t572,t573,t574,t575,t576,t579,t582,t585,t588,t591⟩,A220,H⟩:=H
      try dsimp only at H
      have A22:=ad_ A220;clear A220;obtain ⟨t594,A230,H⟩:=bnd_ H
      try dsimp only at H
      have A23:=ad_ A230;clear A230;obtain rfl:=Option.some.inj H
      go_enter Tryz.func3,Tryz.ntmps3
      try go_wp2_with (first | ((with_reducible refine gate_dst (N:=3) rfl ?_);refine box_event ?hg (N:=3) ?hd (cs:=#[.int .i64 a0_0,.int .i64 a0_1,.bool a0_2,.int .i64 a0_3,.int .i64 a0_4,.int .i64 a0_5,.int .i64 a0_6,.slice A0_7 l0_7.length c0_7,.slice A0_8 l0_8.length c0_8,.slice A0_9 l0_9.length c0_9,.slice A0_10 l0_10.length c0_10,.slice A0_11 l0_11.length c0_11,.slice A0_12 l0_12.length c0_12]) (t:=29) ?hr ?_;(case hd=>rfl);(case hg=>rfl);(case hr=>first | (go_simp;done) | (go_simp;rfl));intro gb528 hg w24 hbox hb;have BK528:=ad_ (hbox);have GW528:=gw_ w hg;have GE528:=GW528;replace HB:=hbb_ hb;clear hb hbox hg;have hcz25_:=cells13_ BK528.out) | ((with_reducible refine gate_callee (f:=6) rfl ?_);refine goesL_ (some 14) rfl rfl Tryz.func6 (by kernel_rfl) rfl #[.agg #[.int .i64 a0_0,.int .i64 a0_1,.bool a0_2,.int .i64 a0_3,.int .i64 a0_4,.int .i64 a0_5,.int .i64 a0_6,.slice A0_7 l0_7.length c0_7,.slice A0_8 l0_8.length c0_8,.slice A0_9 l0_9.length c0_9,.slice A0_10 l0_10.length c0_10,.slice A0_11 l0_11.length c0_11,.slice A0_12 l0_12.length c0_12],.int .i64 a2] rfl arg_ ?_;(with_reducible refine (pl23_Great.calls a0_0 a0_1 a0_2 a0_3 a0_4 a0_5 a0_6 _ _ l0_7 _ _ l0_8 _ _ l0_9 _ _ l0_10 _ _ l0_11 _ _ l0_12 a2 false _ ?_ ?_ ?_ ?_ ?_ ?_ ?_ ?_ ?_ ?_ ?_ ?_ A4.out).mono ?_);(iterate 12 exact sc_);rintro e w26 ⟨rfl,hb⟩;refine ⟨_,rfl,?_⟩;replace BK528:=bkb_ BK528 hb;replace HB:=hbb_ hb;clear hb;have hcz27_:=cells13_ BK528.out) | ((with_reducible refine gate_callee (f:=8) rfl ?_);refine goesL_ (some 17) rfl rfl Tryz.func8 (by kernel_rfl) rfl #[.agg #[.int .i64 a0_0,.int .i64 a0_1,.bool a0_2,.int .i64 a0_3,.int .i64 a0_4,.int .i64 a0_5,.int .i64 a0_6,.slice A0_7 l0_7.length c0_7,.slice A0_8 l0_8.length c0_8,.slice A0_9 l0_9.length c0_9,.slice A0_10 l0_10.length c0_10,.slice A0_11 l0_11.length c0_11,.slice A0_12 l0_12.length c0_12]] rfl arg_ ?_;(with_reducible refine (pl23_As.calls k a0_0 a0_1 a0_2 a0_3 a0_4 a0_5 a0_6 (fun k_=>k_ < w.heap.size) _ _ l0_7 (fun k_=>k_ < w.heap.size) _ _ l0_8 _ _ l0_9 (fun k_=>k_ < w.heap.size) _ _ l0_10 (fun k_=>k_ < w.heap.size) _ _ l0_11 _ _ l0_12 t531 t532 t533 t534 t535 t536 t537 t538 t541 t544 t547 t550 t553 _ ?_ ?_ ?_ ?_ ?_ ?_ ?_ ?_ A11.out).mono ?_);exact Kd.V_mk HC0_7.out (Kd.F_below (Kd.C_F (Kd.heap_int .i64) HR0_7.out) belg_);exact Kd.V_mk HC0_8.out (Kd.F_below (Kd.C_F (Kd.heap_int .i64) HR0_8.out) belg_);(iterate 2 exact sc_);exact Kd.V_mk HC0_10.out (Kd.F_below (Kd.C_F (Kd.heap_int .i64) HR0_10.out) belg_);exact Kd.V_mk HC0_11.out (Kd.F_below (Kd.C_F (Kd.heap_int .i64) HR0_11.out) belg_);(iterate 2 exact sc_);rintro e w28 ⟨v539,v542,v545,v548,v551,v554,rfl,ho0,ho1,ho2,ho3,ho4,ho5,hb⟩;refine ⟨_,rfl,?_⟩;have HO540:=ad_ (Kd.V_lower (Kd.V_mono (ok':=fun k_=>some k_≠(v545:Value).ownBlock∧some k_≠(v554:Value).ownBlock∧k_≠gb528) ho0 (fun k_ hk_=>⟨hk_.2.1,hk_.2.2,Or.elim hk_.1 (fun hs_=>Or.elim hs_ (fun hs_=>fun e_=>Nat.not_le.2 hs_ (by rw [e_];exact GW528.out)) (fun hs_=>Or.elim hs_ (fun hs_=>fun e_=>Nat.not_le.2 hs_ (by rw [e_];exact GW528.out)) (fun hs_=>Or.elim hs_ (fun hs_=>fun e_=>Nat.not_le.2 hs_ (by rw [e_];exact GW528.out)) (fun hs_=>fun e_=>Nat.not_le.2 hs_ (by rw [e_];exact GW528.out))))) (fun hn_=>(Kd.freshB (g:=gb528) (blo_ BK528.out) k_ hn_))⟩)) (below_size belg_));have HO543:=ad_ (Kd.V_lower (Kd.V_mono (ok':=fun k_=>some k_≠(v545:Value).ownBlock∧some k_≠(v554:Value).ownBlock∧k_≠gb528) ho1 (fun k_ hk_=>⟨hk_.2.1,hk_.2.2,Or.elim hk_.1 (fun hs_=>Or.elim hs_ (fun hs_=>fun e_=>Nat.not_le.2 hs_ (by rw [e_];exact GW528.out)) (fun hs_=>Or.elim hs_ (fun hs_=>fun e_=>Nat.not_le.2 hs_ (by rw [e_];exact GW528.out)) (fun hs_=>Or.elim hs_ (fun hs_=>fun e_=>Nat.not_le.2 hs_ (by rw [e_];exact GW528.out)) (fun hs_=>fun e_=>Nat.not_le.2 hs_ (by rw [e_];exact GW528.out))))) (fun hn_=>(Kd.freshB (g:=gb528) (blo_ BK528.out) k_ hn_))⟩)) (below_size belg_));have HO546:=ad_ (Kd.R_lower (Kd.R_mono (ok':=fun k_=>True) ho2 (fun _ hk_=>trivial)) (below_size belg_));have HO549:=ad_ (Kd.V_lower (Kd.V_mono (ok':=fun k_=>some k_≠(v545:Value).ownBlock∧some k_≠(v554:Value).ownBlock∧k_≠gb528) ho3 (fun k_ hk_=>⟨hk_.2.1,hk_.2.2,Or.elim hk_.1 (fun hs_=>Or.elim hs_ (fun hs_=>fun e_=>Nat.not_le.2 hs_ (by rw [e_];exact GW528.out)) (fun hs_=>Or.elim hs_ (fun hs_=>fun e_=>Nat.not_le.2 hs_ (by rw [e_];exact GW528.out)) (fun hs_=>Or.elim hs_ (fun hs_=>fun e_=>Nat.not_le.2 hs_ (by rw [e_];exact GW528.out)) (fun hs_=>fun e_=>Nat.not_le.2 hs_ (by rw [e_];exact GW528.out))))) (fun hn_=>(Kd.freshB (g:=gb528) (blo_ BK528.out) k_ hn_))⟩)) (below_size belg_));have HO552:=ad_ (Kd.V_lower (Kd.V_mono (ok':=fun k_=>some k_≠(v545:Value).ownBlock∧some k_≠(v554:Value).ownBlock∧k_≠gb528) ho4 (fun k_ hk_=>⟨hk_.2.1,hk_.2.2,Or.elim hk_.1 (fun hs_=>Or.elim hs_ (fun hs_=>fun e_=>Nat.not_le.2 hs_ (by rw [e_];exact GW528.out)) (fun hs_=>Or.elim hs_ (fun hs_=>fun e_=>Nat.not_le.2 hs_ (by rw [e_];exact GW528.out)) (fun hs_=>Or.elim hs_ (fun hs_=>fun e_=>Nat.not_le.2 hs_ (by rw [e_];exact GW528.out)) (fun hs_=>fun e_=>Nat.not_le.2 hs_ (by rw [e_];exact GW528.out))))) (fun hn_=>(Kd.freshB (g:=gb528) (blo_ BK528.out) k_ hn_))⟩)) (below_size belg_));have HO555:=ad_ (Kd.R_lower (Kd.R_mono (ok':=fun k_=>True) ho5 (fun _ hk_=>trivial)) (below_size belg_));replace BK528:=bkb_ BK528 hb;replace HB:=hbb_ hb;clear hb ho0 ho1 ho2 ho3 ho4 ho5) | ((with_reducible refine gate_dst (N:=7) rfl ?_);refine box_event ?hg (N:=7) ?hd (cs:=#[.int .i64 0,.int .i64 0,.bool false,.int .i64 0,.int .i64 0,.int .i64 0,.int .i64 0,.slice none 0 0,.slice none 0 0,.slice none 0 0,.slice none 0 0,.slice none 0 0,.slice none 0 0]) (t:=37) ?hr ?_;(case hd=>rfl);(case hg=>rfl);(case hr=>first | (go_simp;done) | (go_simp;rfl));intro gb556 hg w29 hbox hb;replace HO540:=ad_ (Kd.V_below (Kd.V_elderB (vod_ (HO540.out)) gb556 (Nat.le_of_eq hg.symm)) hb);replace HO543:=ad_ (Kd.V_below (Kd.V_elderB (vod_ (HO543.out)) gb556 (Nat.le_of_eq hg.symm)) hb);replace HO546:=ad_ (Kd.R_below (rod_ HO546) hb);replace HO549:=ad_ (Kd.V_below (Kd.V_elderB (vod_ (HO549.out)) gb556 (Nat.le_of_eq hg.symm)) hb);replace HO552:=ad_ (Kd.V_below (Kd.V_elderB (vod_ (HO552.out)) gb556 (Nat.le_of_eq hg.symm)) hb);replace HO555:=ad_ (Kd.R_below (rod_ HO555) hb);have BK556:=ad_ (hbox);have GW556:=gw_ w hg;have GE556:=GW556;replace HB:=hbb_ hb;have NB528_556:=nlt_ hg BK528;have NB556_528:=ngt_ hg BK528;replace BK528:=bkb_ BK528 hb;clear hb hbox hg;have hnb30:=NB556_528.out;have hnc30:=NB528_556.out;have hcz31_:=cells13_ BK556.out;obtain ⟨Ao32,co32,eo32⟩:=Kd.V_slice HO540.out;subst eo32;obtain ⟨Ao33,co33,eo33⟩:=Kd.V_slice HO543.out;subst eo33;obtain ⟨Ao34,co34,eo34⟩:=Kd.R_slice HO546.out;subst eo34;obtain ⟨Ao35,co35,eo35⟩:=Kd.V_slice HO549.out;subst eo35;obtain ⟨Ao36,co36,eo36⟩:=Kd.V_slice HO552.out;subst eo36;obtain ⟨Ao37,co37,eo37⟩:=Kd.R_slice HO555.out;subst eo37;have hcz38_:=cells13_ BK528.out) | ((with_reducible refine gate_callee (f:=9) rfl ?_);refine goesL_ (some 22) rfl rfl Tryz.func9 (by kernel_rfl) rfl #[.agg #[.int .i64 a0_0,.int .i64 a0_1,.bool a0_2,.int .i64 a0_3,.int .i64 a0_4,.int .i64 a0_5,.int .i64 a0_6,.slice A0_7 l0_7.length c0_7,.slice A0_8 l0_8.length c0_8,.slice A0_9 l0_9.length c0_9,.slice A0_10 l0_10.length c0_10,.slice A0_11 l0_11.length c0_11,.slice A0_12 l0_12.length c0_12],.int .i64 a1,.int .i64 a2] rfl arg_ ?_;(with_reducible refine (series_Originals.calls k a0_0 a0_1 a0_2 a0_3 a0_4 a0_5 a0_6 _ _ l0_7 _ _ l0_8 _ _ l0_9 _ _ l0_10 _ _ l0_11 _ _ l0_12 a1 a2 t557 t560 _ ?_ ?_ ?_ ?_ ?_ ?_ ?_ ?_ ?_ ?_ ?_ ?_ A12.out).mono ?_);exact Kd.C_below HR0_7.out belg_;exact HC0_7.out;exact Kd.C_below HR0_8.out belg_;exact HC0_8.out;exact Kd.C_below HR0_9.out belg_;exact HC0_9.out;exact Kd.C_below HR0_10.out belg_;exact HC0_10.out;exact Kd.C_below HR0_11.out belg_;exact HC0_11.out;exact Kd.C_below HR0_12.out belg_;exact HC0_12.out;rintro e w39 ⟨v558,rfl,ho0,hb⟩;refine ⟨_,rfl,?_⟩;replace HO540:=ad_ (Kd.V_elder' (by (with_reducible repeat (first | apply Kd.V_alloc | apply Kd.V_drewN | apply Kd.V_drew));exact (Kd.V_mono (vfar_ (Kd.V_mono HO540.out (fun k_ hk=>(⟨hk,hk.2⟩:_∧k_≠gb556)))) (fun _ h_=>h_.1))) (Kd.R_base ho0) hb);replace HO543:=ad_ (Kd.V_elder' (by (with_reducible repeat (first | apply Kd.V_alloc | apply Kd.V_drewN | apply Kd.V_drew));exact (Kd.V_mono (vfar_ (Kd.V_mono HO543.out (fun k_ hk=>(⟨hk,hk.2⟩:_∧k_≠gb556)))) (fun _ h_=>h_.1))) (Kd.R_base ho0) hb);replace HO546:=ad_ (Kd.R_below (by (with_reducible repeat (first | apply Kd.R_alloc | apply Kd.R_drewN | apply Kd.R_drew));exact (Kd.R_mono (rfar_ (Kd.R_types HO546.out BK556.out (by decide))) (fun _ h_=>h_.1))) hb);replace HO549:=ad_ (Kd.V_elder' (by (with_reducible repeat (first | apply Kd.V_alloc | apply Kd.V_drewN | apply Kd.V_drew));exact (Kd.V_mono (vfar_ (Kd.V_mono HO549.out (fun k_ hk=>(⟨hk,hk.2⟩:_∧k_≠gb556)))) (fun _ h_=>h_.1))) (Kd.R_base ho0) hb);replace HO552:=ad_ (Kd.V_elder' (by (with_reducible repeat (first | apply Kd.V_alloc | apply Kd.V_drewN | apply Kd.V_drew));exact (Kd.V_mono (vfar_ (Kd.V_mono HO552.out (fun k_ hk=>(⟨hk,hk.2⟩:_∧k_≠gb556)))) (fun _ h_=>h_.1))) (Kd.R_base ho0) hb);replace HO555:=ad_ (Kd.R_below (by (with_reducible repeat (first | apply Kd.R_alloc | apply Kd.R_drewN | apply Kd.R_drew));exact (Kd.R_mono (rfar_ (Kd.R_types HO555.out BK556.out (by decide))) (fun _ h_=>h_.1))) hb);have HO559:=ad_ (Kd.R_lower ho0 (below_size belg_));replace BK528:=ad_ (blk_below (g:=gb528) (o:=.cells #[.int .i64 a0_0,.int .i64 a0_1,.bool a0_2,.int .i64 a0_3,.int .i64 a0_4,.int .i64 a0_5,.int .i64 a0_6,.slice A0_7 l0_7.length c0_7,.slice A0_8 l0_8.length c0_8,.slice A0_9 l0_9.length c0_9,.slice A0_10 l0_10.length c0_10,.slice A0_11 l0_11.length c0_11,.slice A0_12 l0_12.length c0_12] 29 (0,0)) (blf_ BK528.out) hb);replace BK556:=ad_ (blk_below (g:=gb556) (o:=.cells #[.int .i64 t531,.int .i64 t532,.bool t533,.int .i64 t534,.int .i64 t535,.int .i64 t536,.int .i64 t537,.slice Ao32 t538.length co32,.slice Ao33 t541.length co33,.slice Ao34 t544.length co34,.slice Ao35 t547.length co35,.slice Ao36 t550.length co36,.slice Ao37 t553.length co37] 37 (0,0)) (put_ BK556) hb);replace HB:=hbb_ hb;clear hb ho0;have hcz40_:=cells13_ BK556.out) | ((with_reducible refine gate_callee (f:=10) rfl ?_);refine goesL_ (some 29) rfl rfl Tryz.func10 (by kernel_rfl) rfl #[.agg #[.int .i64 t531,.int .i64 t532,.bool t533,.int .i64 t534,.int .i64 t535,.int .i64 t536,.int .i64 t537,.slice Ao32 t538.length co32,.slice Ao33 t541.length co33,.slice Ao34 t544.length co34,.slice Ao35 t547.length co35,.slice Ao36 t550.length co36,.slice Ao37 t553.length co37],.int .i64 a1,.int .i64 a2] rfl arg_ ?_;(with_reducible refine (pr23_Originals.calls k t531 t532 t533 t534 t535 t536 t537 _ _ t538 _ _ t541 _ _ t544 _ _ t547 _ _ t550 _ _ t553 a1 a2 t561 t564 _ ?_ ?_ ?_ ?_ ?_ ?_ ?_ ?_ ?_ ?_ ?_ ?_ A13.out).mono ?_);exact cop_ (Kd.V_reads' HO540.out).2.2;exact (Kd.V_reads' HO540.out).2.1;exact cop_ (Kd.V_reads' HO543.out).2.2;exact (Kd.V_reads' HO543.out).2.1;exact cop_ (Kd.R_reads' HO546.out).2.2;exact (Kd.R_reads' HO546.out).2.1;exact cop_ (Kd.V_reads' HO549.out).2.2;exact (Kd.V_reads' HO549.out).2.1;exact cop_ (Kd.V_reads' HO552.out).2.2;exact (Kd.V_reads' HO552.out).2.1;exact cop_ (Kd.R_reads' HO555.out).2.2;exact (Kd.R_reads' HO555.out).2.1;rintro e w41 ⟨v562,rfl,ho0,hb⟩;refine ⟨_,rfl,?_⟩;replace HO540:=ad_ (Kd.V_elder' (vod_ (HO540.out)) (Kd.R_base ho0) hb);replace HO543:=ad_ (Kd.V_elder' (vod_ (HO543.out)) (Kd.R_base ho0) hb);replace HO546:=ad_ (Kd.R_below (rod_ HO546) hb);replace HO549:=ad_ (Kd.V_elder' (vod_ (HO549.out)) (Kd.R_base ho0) hb);replace HO552:=ad_ (Kd.V_elder' (vod_ (HO552.out)) (Kd.R_base ho0) hb);replace HO555:=ad_ (Kd.R_below (rod_ HO555) hb);have HO563:=ad_ (Kd.R_lower (Kd.R_new' ho0 (Kd.R_lt (rod_ HO559))) (below_size belg_));replace HO559:=ad_ (Kd.R_elder' (rod_ HO559) (Kd.R_base ho0) hb);replace BK528:=bkb_ BK528 hb;replace BK556:=bkb_ BK556 hb;replace HB:=hbb_ hb;clear hb ho0))
      have n0_:=ad_ (Kd.V_drew HO540.out);have n1_:=ad_ (Kd.V_drew HO543.out);have n2_:=ad_ (Kd.R_drew HO546.out);have n3_:=ad_ (Kd.V_drew HO549.out);have n4_:=ad_ (Kd.V_drew HO552.out);have n5_:=ad_ (Kd.R_drew HO555.out);have n6_:=ad_ (Kd.R_drew HO559.out);have n7_:=ad_ (Kd.R_drew HO563.out);have n8_:=ad_ (blk_drew BK528.out);have n9_:=ad_ (blk_drew BK556.out);have n10_:=ad_ (below_drew1 HB.out);clear HO540;clear HO543;clear HO546;clear HO549;clear HO552;clear HO555;clear HO559;clear HO563;clear BK528;clear BK556;clear HB;have HO540:=n0_;have HO543:=n1_;have HO546:=n2_;have HO549:=n3_;have HO552:=n4_;have HO555:=n5_;have HO559:=n6_;have HO563:=n7_;have BK528:=n8_;have BK556:=n9_;have HB:=n10_;clear n0_ n1_ n2_ n3_ n4_ n5_ n6_ n7_ n8_ n9_ n10_
      refine start_ (n:=25) (S:=fun w'=>w'.cell? ⟨gb528,0,none⟩=some (.int .i64 a0_0)∧w'.cell? ⟨gb528,1,none⟩=some (.int .i64 a0_1)∧w'.cell? ⟨gb528,2,none⟩=some (.bool a0_2)∧w'.cell? ⟨gb528,3,none⟩=some (.int .i64 a0_3)∧w'.cell? ⟨gb528,4,none⟩=some (.int .i64 a0_4)∧w'.cell? ⟨gb528,5,none⟩=some (.int .i64 a0_5)∧w'.cell? ⟨gb528,6,none⟩=some (.int .i64 a0_6)∧w'.cell? ⟨gb528,7,none⟩=some (.slice A0_7 l0_7.length c0_7)∧w'.cell? ⟨gb528,8,none⟩=some (.slice A0_8 l0_8.length c0_8)∧w'.cell? ⟨gb528,9,none⟩=some (.slice A0_9 l0_9.length c0_9)∧w'.cell? ⟨gb528,10,none⟩=some (.slice A0_10 l0_10.length c0_10)∧w'.cell? ⟨gb528,11,none⟩=some (.slice A0_11 l0_11.length c0_11)∧w'.cell? ⟨gb528,12,none⟩=some (.slice A0_12 l0_12.length c0_12)∧w'.cell? ⟨gb556,0,none⟩=some (.int .i64 t531)∧w'.cell? ⟨gb556,1,none⟩=some (.int .i64 t532)∧w'.cell? ⟨gb556,2,none⟩=some (.bool t533)∧w'.cell? ⟨gb556,3,none⟩=some (.int .i64 t534)∧w'.cell? ⟨gb556,4,none⟩=some (.int .i64 t535)∧w'.cell? ⟨gb556,5,none⟩=some (.int .i64 t536)∧w'.cell? ⟨gb556,6,none⟩=some (.int .i64 t537)∧w'.cell? ⟨gb556,7,none⟩=some (.slice Ao32 t538.length co32)∧w'.cell? ⟨gb556,8,none⟩=some (.slice Ao33 t541.length co33)∧w'.cell? ⟨gb556,9,none⟩=some (.slice Ao34 t544.length co34)∧w'.cell? ⟨gb556,10,none⟩=some (.slice Ao35 t547.length co35)∧w'.cell? ⟨gb556,11,none⟩=some (.slice Ao36 t550.length co36)∧w'.cell? ⟨gb556,12,none⟩=some (.slice Ao37 t553.length co37)) (ds:=[]) (.replicate 25 false) (by kernel_rfl) rfl rfl ⟨bc_ BK528,bc_ BK528,bc_ BK528,bc_ BK528,bc_ BK528,bc_ BK528,bc_ BK528,bc_ BK528,bc_ BK528,bc_ BK528,bc_ BK528,bc_ BK528,bc_ BK528,bc_ BK556,bc_ BK556,bc_ BK556,bc_ BK556,bc_ BK556,bc_ BK556,bc_ BK556,bc_ BK556,bc_ BK556,bc_ BK556,bc_ BK556,bc_ BK556,bc_ BK556⟩ (fun hHeld=>?_);refine with_tabW pl23_SeriesOriginals.tab6 pl23_SeriesOriginals.bits6 (fun HT_ HW_=>?_)
      generalize w41.drew=w42 at HO540 HO543 HO546 HO549 HO552 HO555 HO559 HO563 BK528 BK556 HB hHeld ⊢
      refine one_ (i:=0) (N:=some 32) #[true,false,false,false,false,false,false,false,false,false,false,false,false,false,false,false,false,false,false,false,false,false,false,false,false] rfl rfl (one_of HT_.out (by kernel_rfl)) (by decide) (fun K hK=>?_)
      refine goes_ Tryz.func7 (by kernel_rfl) rfl #[] (by rfl) rfl rfl arg_ ?_
      with_reducible refine (pl23_alive.calls k  true _ A14.out).mono ?_
      rintro e w43 ⟨rfl,hb⟩
      refine ⟨_,rfl,?_⟩
      have n0_:=ad_ (Kd.V_below (vod_ (HO540.out)) hb);have n1_:=ad_ (Kd.V_below (vod_ (HO543.out)) hb);have n2_:=ad_ (Kd.R_below (rod_ HO546) hb);have n3_:=ad_ (Kd.V_below (vod_ (HO549.out)) hb);have n4_:=ad_ (Kd.V_below (vod_ (HO552.out)) hb);have n5_:=ad_ (Kd.R_below (rod_ HO555) hb);have n6_:=ad_ (Kd.R_below (rod_ HO559) hb);have n7_:=ad_ (Kd.R_below (rod_ HO563) hb);have n8_:=bkb_ BK528 hb;have n9_:=bkb_ BK556 hb;have n10_:=hbb_ hb;clear HO540;clear HO543;clear HO546;clear HO549;clear HO552;clear HO555;clear HO559;clear HO563;clear BK528;clear BK556;clear HB;have HO540:=n0_;have HO543:=n1_;have HO546:=n2_;have HO549:=n3_;have HO552:=n4_;have HO555:=n5_;have HO559:=n6_;have HO563:=n7_;have BK528:=n8_;have BK556:=n9_;have HB:=n10_;clear n0_ n1_ n2_ n3_ n4_ n5_ n6_ n7_ n8_ n9_ n10_
      (try clear hb)
      (try clear hk)
      refine hK.out _ _ ⟨bc_ BK528,bc_ BK528,bc_ BK528,bc_ BK528,bc_ BK528,bc_ BK528,bc_ BK528,bc_ BK528,bc_ BK528,bc_ BK528,bc_ BK528,bc_ BK528,bc_ BK528,bc_ BK556,bc_ BK556,bc_ BK556,bc_ BK556,bc_ BK556,bc_ BK556,bc_ BK556,bc_ BK556,bc_ BK556,bc_ BK556,bc_ BK556,bc_ BK556,bc_ BK556⟩ (fun hHeld=>?_)
      clear hK K
      refine norm_ (a':=?_) ?_ ?_
      rotate_left
      ·show Act.put _ (some 32) _=_
       simp only [Act.put,List.setIfInBounds_toArray,List.set_cons_zero,List.set_cons_succ,i64_w,i32_w]
       rfl
      refine pure_ (i:=1) (N:=some 33) (v:=?_) (a':=?_) #[true,true,false,false,false,false,false,false,false,false,false,false,false,false,false,false,false,false,false,false,false,false,false,false,false] rfl rfl (any_of HT_.out (by kernel_rfl)) (fun _ _ _ h=>h) (Or.inl ⟨by rfl,?_⟩) ?_ ?_
      rotate_left
      ·intro w'
       go_simp
       with_reducible rfl
      rotate_left
      ·simp only [Act.put,List.setIfInBounds_toArray,List.set_cons_zero,List.set_cons_succ,i64_w,i32_w]
       rfl
      refine take_ (i:=2) (N:=some 34) (v:=?_) (a':=?_) #[true,true,true,false,false,false,false,false,false,false,false,false,false,false,false,false,false,false,false,false,false,false,false,false,false] rfl rfl (take_ofW HT_.out HW_.out (by kernel_rfl)) (fun _ _ _ h=>h) (Or.inl ⟨by rfl,?_⟩) hHeld ?_ ?_
      rotate_left
      ·rintro w' ⟨s0,s1,s2,s3,s4,s5,s6,s7,s8,s9,s10,s11,s12,s13,s14,s15,s16,s17,s18,s19,s20,s21,s22,s23,s24,s25⟩
       go_simp
       with_reducible rfl
      rotate_left
      ·simp only [Act.put,List.setIfInBounds_toArray,List.set_cons_zero,List.set_cons_succ,i64_w,i32_w]
       rfl
      refine take_ (i:=4) (N:=some 36) (v:=?_) (a':=?_) #[true,true,true,false,true,false,false,false,false,false,false,false,false,false,false,false,false,false,false,false,false,false,false,false,false] rfl rfl (take_ofW HT_.out HW_.out (by kernel_rfl)) (fun _ _ _ h=>h) (Or.inl ⟨by rfl,?_⟩) hHeld ?_ ?_
      rotate_left
      ·rintro w' ⟨s0,s1,s2,s3,s4,s5,s6,s7,s8,s9,s10,s11,s12,s13,s14,s15,s16,s17,s18,s19,s20,s21,s22,s23,s24,s25⟩
       go_simp
       with_reducible rfl
      rotate_left
      ·simp only [Act.put,List.setIfInBounds_toArray,List.set_cons_zero,List.set_cons_succ,i64_w,i32_w]
       rfl
      refine one_ (i:=3) (N:=some 35) #[true,true,true,true,true,false,false,false,false,false,false,false,false,false,false,false,false,false,false,false,false,false,false,false,false] rfl rfl (one_of HT_.out (by kernel_rfl)) (by decide) (fun K hK=>?_)
      refine goes_ Tryz.func11 (by kernel_rfl) rfl #[.agg #[.int .i64 a0_0,.int .i64 a0_1,.bool a0_2,.int .i64 a0_3,.int .i64 a0_4,.int .i64 a0_5,.int .i64 a0_6,.slice A0_7 l0_7.length c0_7,.slice A0_8 l0_8.length c0_8,.slice A0_9 l0_9.length c0_9,.slice A0_10 l0_10.length c0_10,.slice A0_11 l0_11.length c0_11,.slice A0_12 l0_12.length c0_12]] (by rfl) rfl rfl arg_ ?_
      with_reducible refine (series_Right.calls k a0_0 a0_1 a0_2 a0_3 a0_4 a0_5 a0_6 _ _ l0_7 _ _ l0_8 _ _ l0_9 _ _ l0_10 _ _ l0_11 _ _ l0_12 t566 _ ?side1 ?side2 ?side3 ?side4 ?side5 ?side6 ?side7 ?side8 ?side9 ?side10 ?side11 ?side12 A16.out).mono ?_
      (case side1=>exact cop_ (Kd.C_below HR0_7.out HB.out))
      (case side2=>exact HC0_7.out)
      (case side3=>exact cop_ (Kd.C_below HR0_8.out HB.out))
      (case side4=>exact HC0_8.out)
      (case side5=>exact cop_ (Kd.C_below HR0_9.out HB.out))
      (case side6=>exact HC0_9.out)
      (case side7=>exact cop_ (Kd.C_below HR0_10.out HB.out))
      (case side8=>exact HC0_10.out)
      (case side9=>exact cop_ (Kd.C_below HR0_11.out HB.out))
      (case side10=>exact HC0_11.out)
      (case side11=>exact cop_ (Kd.C_below HR0_12.out HB.out))
      (case side12=>exact HC0_12.out)
      rintro e w44 ⟨rfl,hb⟩
      refine ⟨_,rfl,?_⟩
      have n0_:=ad_ (Kd.V_below (vod_ (HO540.out)) hb);have n1_:=ad_ (Kd.V_below (vod_ (HO543.out)) hb);have n2_:=ad_ (Kd.R_below (rod_ HO546) hb);have n3_:=ad_ (Kd.V_below (vod_ (HO549.out)) hb);have n4_:=ad_ (Kd.V_below (vod_ (HO552.out)) hb);have n5_:=ad_ (Kd.R_below (rod_ HO555) hb);have n6_:=ad_ (Kd.R_below (rod_ HO559) hb);have n7_:=ad_ (Kd.R_below (rod_ HO563) hb);have n8_:=bkb_ BK528 hb;have n9_:=bkb_ BK556 hb;have n10_:=hbb_ hb;clear HO540;clear HO543;clear HO546;clear HO549;clear HO552;clear HO555;clear HO559;clear HO563;clear BK528;clear BK556;clear HB;have HO540:=n0_;have HO543:=n1_;have HO546:=n2_;have HO549:=n3_;have HO552:=n4_;have HO555:=n5_;have HO559:=n6_;have HO563:=n7_;have BK528:=n8_;have BK556:=n9_;have HB:=n10_;clear n0_ n1_ n2_ n3_ n4_ n5_ n6_ n7_ n8_ n9_ n10_
      (try clear hb)
      refine hK.out _ _ ⟨bc_ BK528,bc_ BK528,bc_ BK528,bc_ BK528,bc_ BK528,bc_ BK528,bc_ BK528,bc_ BK528,bc_ BK528,bc_ BK528,bc_ BK528,bc_ BK528,bc_ BK528,bc_ BK556,bc_ BK556,bc_ BK556,bc_ BK556,bc_ BK556,bc_ BK556,bc_ BK556,bc_ BK556,bc_ BK556,bc_ BK556,bc_ BK556,bc_ BK556,bc_ BK556⟩ (fun hHeld=>?_)
      clear hK K
      refine norm_ (a':=?_) ?_ ?_
      rotate_left
      ·show Act.put _ (some 35) _=_
       simp only [Act.put,List.setIfInBounds_toArray,List.set_cons_zero,List.set_cons_succ,i64_w,i32_w]
       rfl
      refine one_ (i:=5) (N:=some 37) #[true,true,true,true,true,true,false,false,false,false,false,false,false,false,false,false,false,false,false,false,false,false,false,false,false] rfl rfl (one_of HT_.out (by kernel_rfl)) (by decide) (fun K hK=>?_)
      refine goes_ Tryz.func12 (by kernel_rfl) rfl #[.agg #[.int .i64 t531,.int .i64 t532,.bool t533,.int .i64 t534,.int .i64 t535,.int .i64 t536,.int .i64 t537,.slice Ao32 t538.length co32,.slice Ao33 t541.length co33,.slice Ao34 t544.length co34,.slice Ao35 t547.length co35,.slice Ao36 t550.length co36,.slice Ao37 t553.length co37]] (by rfl) rfl rfl arg_ ?_
      with_reducible refine (pr23_Right.calls k t531 t532 t533 t534 t535 t536 t537 _ _ t538 _ _ t541 _ _ t544 _ _ t547 _ _ t550 _ _ t553 t567 _ ?side1 ?side2 ?side3 ?side4 ?side5 ?side6 ?side7 ?side8 ?side9 ?side10 ?side11 ?side12 A17.out).mono ?_
      (case side1=>exact cop_ (Kd.V_reads' HO540.out).2.2)
      (case side2=>exact (Kd.V_reads' HO540.out).2.1)
      (case side3=>exact cop_ (Kd.V_reads' HO543.out).2.2)
      (case side4=>exact (Kd.V_reads' HO543.out).2.1)
      (case side5=>exact cop_ (Kd.R_reads' HO546.out).2.2)
      (case side6=>exact (Kd.R_reads' HO546.out).2.1)
      (case side7=>exact cop_ (Kd.V_reads' HO549.out).2.2)
      (case side8=>exact (Kd.V_reads' HO549.out).2.1)
      (case side9=>exact cop_ (Kd.V_reads' HO552.out).2.2)
      (case side10=>exact (Kd.V_reads' HO552.out).2.1)
      (case side11=>exact cop_ (Kd.R_reads' HO555.out).2.2)
      (case side12=>exact (Kd.R_reads' HO555.out).2.1)
      rintro e w45 ⟨rfl,hb⟩
      refine ⟨_,rfl,?_⟩
      have n0_:=ad_ (Kd.V_below (vod_ (HO540.out)) hb);have n1_:=ad_ (Kd.V_below (vod_ (HO543.out)) hb);have n2_:=ad_ (Kd.R_below (rod_ HO546) hb);have n3_:=ad_ (Kd.V_below (vod_ (HO549.out)) hb);have n4_:=ad_ (Kd.V_below (vod_ (HO552.out)) hb);have n5_:=ad_ (Kd.R_below (rod_ HO555) hb);have n6_:=ad_ (Kd.R_below (rod_ HO559) hb);have n7_:=ad_ (Kd.R_below (rod_ HO563) hb);have n8_:=bkb_ BK528 hb;have n9_:=bkb_ BK556 hb;have n10_:=hbb_ hb;clear HO540;clear HO543;clear HO546;clear HO549;clear HO552;clear HO555;clear HO559;clear HO563;clear BK528;clear BK556;clear HB;have HO540:=n0_;have HO543:=n1_;have HO546:=n2_;have HO549:=n3_;have HO552:=n4_;have HO555:=n5_;have HO559:=n6_;have HO563:=n7_;have BK528:=n8_;have BK556:=n9_;have HB:=n10_;clear n0_ n1_ n2_ n3_ n4_ n5_ n6_ n7_ n8_ n9_ n10_
      (try clear hb)
      obtain ⟨Ao46,co46,eo46⟩:=Kd.R_slice HO559.out
      (first | subst eo46 | (injection eo46 with f1_ f2_ f3_;have f4_:=f1_.symm;have f5_:=f3_.symm;clear f1_ f2_ f3_;subst f4_;subst f5_))
      obtain ⟨Ao47,co47,eo47⟩:=Kd.R_slice HO563.out
      (first | subst eo47 | (injection eo47 with f1_ f2_ f3_;have f4_:=f1_.symm;have f5_:=f3_.symm;clear f1_ f2_ f3_;subst f4_;subst f5_))
      refine hK.out _ _ ⟨bc_ BK528,bc_ BK528,bc_ BK528,bc_ BK528,bc_ BK528,bc_ BK528,bc_ BK528,bc_ BK528,bc_ BK528,bc_ BK528,bc_ BK528,bc_ BK528,bc_ BK528,bc_ BK556,bc_ BK556,bc_ BK556,bc_ BK556,bc_ BK556,bc_ BK556,bc_ BK556,bc_ BK556,bc_ BK556,bc_ BK556,bc_ BK556,bc_ BK556,bc_ BK556⟩ (fun hHeld=>?_)
      clear hK K
      refine norm_ (a':=?_) ?_ ?_
      rotate_left
      ·show Act.put _ (some 37) _=_
       simp only [Act.put,List.setIfInBounds_toArray,List.set_cons_zero,List.set_cons_succ,i64_w,i32_w]
       rfl
      refine pure_ (i:=6) (N:=some 38) (v:=?_) (a':=?_) #[true,true,true,true,true,true,true,false,false,false,false,false,false,false,false,false,false,false,false,false,false,false,false,false,false] rfl rfl (any_of HT_.out (by kernel_rfl)) (fun _ _ _ h=>h) (Or.inl ⟨by rfl,?_⟩) ?_ ?_
      rotate_left
      ·intro w'
       go_simp
       with_reducible rfl
      rotate_left
      ·simp only [Act.put,List.setIfInBounds_toArray,List.set_cons_zero,List.set_cons_succ,i64_w,i32_w]
       rfl
      refine pure_ (i:=7) (N:=some 39) (v:=?_) (a':=?_) #[true,true,true,true,true,true,true,true,false,false,false,false,false,false,false,false,false,false,false,false,false,false,false,false,false] rfl rfl (any_of HT_.out (by kernel_rfl)) (fun _ _ _ h=>h) (Or.inl ⟨by rfl,?_⟩) ?_ ?_
      rotate_left
      ·intro w'
       go_simp
       with_reducible rfl
      rotate_left
      ·simp only [Act.put,List.setIfInBounds_toArray,List.set_cons_zero,List.set_cons_succ,i64_w,i32_w]
       rfl
      refine pure_ (i:=8) (N:=some 40) (v:=?_) (a':=?_) #[true,true,true,true,true,true,true,true,true,false,false,false,false,false,false,false,false,false,false,false,false,false,false,false,false] rfl rfl (any_of HT_.out (by kernel_rfl)) (fun _ _ _ h=>h) (Or.inl ⟨by rfl,?_⟩) ?_ ?_
      rotate_left
      ·intro w'
       go_simp
       with_reducible rfl
      rotate_left
      ·simp only [Act.put,List.setIfInBounds_toArray,List.set_cons_zero,List.set_cons_succ,i64_w,i32_w]
       rfl
      refine pure_ (i:=9) (N:=some 41) (v:=?_) (a':=?_) #[true,true,true,true,true,true,true,true,true,true,false,false,false,false,false,false,false,false,false,false,false,false,false,false,false] rfl rfl (any_of HT_.out (by kernel_rfl)) (fun _ _ _ h=>h) (Or.inl ⟨by rfl,?_⟩) ?_ ?_
      rotate_left
      ·intro w'
       go_simp
       with_reducible rfl
      rotate_left
      ·simp only [Act.put,List.setIfInBounds_toArray,List.set_cons_zero,List.set_cons_succ,i64_w,i32_w]
       rfl
      refine pure_ (i:=10) (N:=some 42) (v:=?_) (a':=?_) #[true,true,true,true,true,true,true,true,true,true,true,false,false,false,false,false,false,false,false,false,false,false,false,false,false] rfl rfl (any_of HT_.out (by kernel_rfl)) (fun _ _ _ h=>h) (Or.inl ⟨by rfl,?_⟩) ?_ ?_
      rotate_left
      ·intro w'
       go_simp
       with_reducible rfl
      rotate_left
      ·simp only [Act.put,List.setIfInBounds_toArray,List.set_cons_zero,List.set_cons_succ,i64_w,i32_w]
       rfl
      refine one_ (i:=11) (N:=some 43) #[true,true,true,true,true,true,true,true,true,true,true,true,false,false,false,false,false,false,false,false,false,false,false,false,false] rfl rfl (one_of HT_.out (by kernel_rfl)) (by decide) (fun K hK=>?_)
      refine goes_ Tryz.func13 (by kernel_rfl) rfl #[.slice Ao46 t557.length co46,.slice Ao47 t561.length co47] (by rfl) rfl rfl arg_ ?_
      with_reducible refine (pr21_SameTimes.calls k _ _ t557 _ _ t561 true _ ?side1 ?side2 ?side3 ?side4 A19.out).mono ?_
      (case side1=>exact cop_ (Kd.R_reads' HO559.out).2.2)
      (case side2=>exact (Kd.R_reads' HO559.out).2.1)
      (case side3=>exact cop_ (Kd.R_reads' HO563.out).2.2)
      (case side4=>exact (Kd.R_reads' HO563.out).2.1)
      rintro e w' ⟨rfl,⟨nd,rfl⟩⟩
      refine ⟨_,rfl,?_⟩
      refine hK.out _ _ ⟨bc_ BK528,bc_ BK528,bc_ BK528,bc_ BK528,bc_ BK528,bc_ BK528,bc_ BK528,bc_ BK528,bc_ BK528,bc_ BK528,bc_ BK528,bc_ BK528,bc_ BK528,bc_ BK556,bc_ BK556,bc_ BK556,bc_ BK556,bc_ BK556,bc_ BK556,bc_ BK556,bc_ BK556,bc_ BK556,bc_ BK556,bc_ BK556,bc_ BK556,bc_ BK556⟩ (fun hHeld=>?_)
      clear hK K
      refine norm_ (a':=?_) ?_ ?_
      rotate_left
      ·show Act.put _ (some 43) _=_
       simp only [Act.put,List.setIfInBounds_toArray,List.set_cons_zero,List.set_cons_succ,i64_w,i32_w]
       rfl
      refine pure_ (i:=12) (N:=some 44) (v:=?_) (a':=?_) #[true,true,true,true,true,true,true,true,true,true,true,true,true,false,false,false,false,false,false,false,false,false,false,false,false] rfl rfl (any_of HT_.out (by kernel_rfl)) (fun _ _ _ h=>h) (Or.inl ⟨by rfl,?_⟩) ?_ ?_
      rotate_left
      ·intro w'
       go_simp
       with_reducible rfl
      rotate_left
      ·simp only [Act.put,List.setIfInBounds_toArray,List.set_cons_zero,List.set_cons_succ,i64_w,i32_w]
       rfl
      refine pure_ (i:=13) (N:=some 45) (v:=?_) (a':=?_) #[true,true,true,true,true,true,true,true,true,true,true,true,true,true,false,false,false,false,false,false,false,false,false,false,false] rfl rfl (any_of HT_.out (by kernel_rfl)) (fun _ _ _ h=>h) (Or.inl ⟨by rfl,?_⟩) ?_ ?_
      rotate_left
      ·intro w'
       go_simp
       with_reducible rfl
      rotate_left
      ·simp only [Act.put,List.setIfInBounds_toArray,List.set_cons_zero,List.set_cons_succ,i64_w,i32_w]
       rfl
      refine pure_ (i:=14) (N:=some 46) (v:=?_) (a':=?_) #[true,true,true,true,true,true,true,true,true,true,true,true,true,true,true,false,false,false,false,false,false,false,false,false,false] rfl rfl (any_of HT_.out (by kernel_rfl)) (fun _ _ _ h=>h) (Or.inl ⟨by rfl,?_⟩) ?_ ?_
      rotate_left
      ·intro w'
       go_simp
       with_reducible rfl
      rotate_left
      ·simp only [Act.put,List.setIfInBounds_toArray,List.set_cons_zero,List.set_cons_succ,i64_w,i32_w]
       rfl
      refine pure_ (i:=15) (N:=some 47) (v:=?_) (a':=?_) #[true,true,true,true,true,true,true,true,true,true,true,true,true,true,true,true,false,false,false,false,false,false,false,false,false] rfl rfl (any_of HT_.out (by kernel_rfl)) (fun _ _ _ h=>h) (Or.inl ⟨by rfl,?_⟩) ?_ ?_
      rotate_left
      ·intro w'
       go_simp
       with_reducible rfl
      rotate_left
      ·simp only [Act.put,List.setIfInBounds_toArray,List.set_cons_zero,List.set_cons_succ,i64_w,i32_w]
       rfl
      refine pure_ (i:=16) (N:=some 48) (v:=?_) (a':=?_) #[true,true,true,true,true,true,true,true,true,true,true,true,true,true,true,true,true,false,false,false,false,false,false,false,false] rfl rfl (any_of HT_.out (by kernel_rfl)) (fun _ _ _ h=>h) (Or.inl ⟨by rfl,?_⟩) ?_ ?_
      rotate_left
      ·intro w'
       go_simp
       with_reducible rfl
      rotate_left
      ·simp only [Act.put,List.setIfInBounds_toArray,List.set_cons_zero,List.set_cons_succ,i64_w,i32_w]
       rfl
      refine pure_ (i:=17) (N:=some 49) (v:=?_) (a':=?_) #[true,true,true,true,true,true,true,true,true,true,true,true,true,true,true,true,true,true,false,false,false,false,false,false,false] rfl rfl (any_of HT_.out (by kernel_rfl)) (fun _ _ _ h=>h) (Or.inl ⟨by rfl,?_⟩) ?_ ?_
      rotate_left
      ·intro w'
       go_simp
       with_reducible rfl
      rotate_left
      ·simp only [Act.put,List.setIfInBounds_toArray,List.set_cons_zero,List.set_cons_succ,i64_w,i32_w]
       rfl
      refine pure_ (i:=18) (N:=some 50) (v:=?_) (a':=?_) #[true,true,true,true,true,true,true,true,true,true,true,true,true,true,true,true,true,true,true,false,false,false,false,false,false] rfl rfl (any_of HT_.out (by kernel_rfl)) (fun _ _ _ h=>h) (Or.inl ⟨by rfl,?_⟩) ?_ ?_
      rotate_left
      ·intro w'
       go_simp
       with_reducible rfl
      rotate_left
      ·simp only [Act.put,List.setIfInBounds_toArray,List.set_cons_zero,List.set_cons_succ,i64_w,i32_w]
       rfl
      refine take_ (i:=19) (N:=some 51) (v:=?_) (a':=?_) #[true,true,true,true,true,true,true,true,true,true,true,true,true,true,true,true,true,true,true,true,false,false,false,false,false] rfl rfl (take_ofW HT_.out HW_.out (by kernel_rfl)) (fun _ _ _ h=>h) (Or.inl ⟨by rfl,?_⟩) hHeld ?_ ?_
      rotate_left
      ·rintro w' ⟨s0,s1,s2,s3,s4,s5,s6,s7,s8,s9,s10,s11,s12,s13,s14,s15,s16,s17,s18,s19,s20,s21,s22,s23,s24,s25⟩
       go_simp
       with_reducible rfl
      rotate_left
      ·simp only [Act.put,List.setIfInBounds_toArray,List.set_cons_zero,List.set_cons_succ,i64_w,i32_w]
       rfl
      refine take_ (i:=21) (N:=some 53) (v:=?_) (a':=?_) #[true,true,true,true,true,true,true,true,true,true,true,true,true,true,true,true,true,true,true,true,false,true,false,false,false] rfl rfl (take_ofW HT_.out HW_.out (by kernel_rfl)) (fun _ _ _ h=>h) (Or.inl ⟨by rfl,?_⟩) hHeld ?_ ?_
      rotate_left
      ·rintro w' ⟨s0,s1,s2,s3,s4,s5,s6,s7,s8,s9,s10,s11,s12,s13,s14,s15,s16,s17,s18,s19,s20,s21,s22,s23,s24,s25⟩
       go_simp
       with_reducible rfl
      rotate_left
      ·simp only [Act.put,List.setIfInBounds_toArray,List.set_cons_zero,List.set_cons_succ,i64_w,i32_w]
       rfl
      refine one_ (i:=20) (N:=some 52) #[true,true,true,true,true,true,true,true,true,true,true,true,true,true,true,true,true,true,true,true,true,true,false,false,false] rfl rfl (one_of HT_.out (by kernel_rfl)) (by decide) (fun K hK=>?_)
      refine goes_ Tryz.func8 (by kernel_rfl) rfl #[.agg #[.int .i64 a0_0,.int .i64 a0_1,.bool a0_2,.int .i64 a0_3,.int .i64 a0_4,.int .i64 a0_5,.int .i64 a0_6,.slice A0_7 l0_7.length c0_7,.slice A0_8 l0_8.length c0_8,.slice A0_9 l0_9.length c0_9,.slice A0_10 l0_10.length c0_10,.slice A0_11 l0_11.length c0_11,.slice A0_12 l0_12.length c0_12]] (by rfl) rfl rfl arg_ ?_
      with_reducible refine (pl23_As.calls k a0_0 a0_1 a0_2 a0_3 a0_4 a0_5 a0_6 (fun k_=>k_ < w.heap.size) _ _ l0_7 (fun k_=>k_ < w.heap.size) _ _ l0_8 _ _ l0_9 (fun k_=>k_ < w.heap.size) _ _ l0_10 (fun k_=>k_ < w.heap.size) _ _ l0_11 _ _ l0_12 t569 t570 t571 t572 t573 t574 t575 t576 t579 t582 t585 t588 t591 _ ?side1 ?side2 ?side3 ?side4 ?side5 ?side6 ?side7 ?side8 A22.out).mono ?_
      (case side1=>exact Kd.V_mk HC0_7.out (Kd.F_below (Kd.C_F (Kd.heap_int .i64) HR0_7.out) belg_))
      (case side2=>exact Kd.V_mk HC0_8.out (Kd.F_below (Kd.C_F (Kd.heap_int .i64) HR0_8.out) belg_))
      (case side3=>exact cop_ (Kd.C_below HR0_9.out belg_))
      (case side4=>exact HC0_9.out)
      (case side5=>exact Kd.V_mk HC0_10.out (Kd.F_below (Kd.C_F (Kd.heap_int .i64) HR0_10.out) belg_))
      (case side6=>exact Kd.V_mk HC0_11.out (Kd.F_below (Kd.C_F (Kd.heap_int .i64) HR0_11.out) belg_))
      (case side7=>exact cop_ (Kd.C_below HR0_12.out belg_))
      (case side8=>exact HC0_12.out)
      rintro e w48 ⟨v577,v580,v583,v586,v589,v592,rfl,ho0,ho1,ho2,ho3,ho4,ho5,hb⟩
      refine ⟨_,rfl,?_⟩
      have n0_:=ad_ (Kd.V_mono (Kd.V_told (Kd.V_told (Kd.V_old (vod_ (HO540.out)) hb) (Kd.R_base ho2)) (Kd.R_base ho5)) (fun _ h_=>h_.1));have n1_:=ad_ (Kd.V_mono (Kd.V_told (Kd.V_told (Kd.V_old (vod_ (HO543.out)) hb) (Kd.R_base ho2)) (Kd.R_base ho5)) (fun _ h_=>h_.1));have n2_:=ad_ (Kd.R_elder' (rod_ HO546) (Kd.R_base ho2) hb);have n3_:=ad_ (Kd.V_mono (Kd.V_told (Kd.V_told (Kd.V_old (vod_ (HO549.out)) hb) (Kd.R_base ho2)) (Kd.R_base ho5)) (fun _ h_=>h_.1));have n4_:=ad_ (Kd.V_mono (Kd.V_told (Kd.V_told (Kd.V_old (vod_ (HO552.out)) hb) (Kd.R_base ho2)) (Kd.R_base ho5)) (fun _ h_=>h_.1));have n5_:=ad_ (Kd.R_elder' (rod_ HO555) (Kd.R_base ho5) hb);have n6_:=ad_ (Kd.R_below (rod_ HO559) hb);have n7_:=ad_ (Kd.R_below (rod_ HO563) hb);have n8_:=ad_ (Kd.V_lower (Kd.V_mono (ok':=fun k_=>some k_≠(v583:Value).ownBlock∧some k_≠(v592:Value).ownBlock∧some k_≠(.slice Ao34 t544.length co34:Value).ownBlock∧some k_≠(.slice Ao37 t553.length co37:Value).ownBlock∧some k_≠(.slice Ao46 t557.length co46:Value).ownBlock∧some k_≠(.slice Ao47 t561.length co47:Value).ownBlock∧k_≠gb528∧k_≠gb556) ho0 (fun k_ hk_=>⟨hk_.2.1,hk_.2.2,Or.elim hk_.1 (fun hs_=>Or.elim hs_ (fun hs_=>fun e_=>Nat.not_le.2 hs_ (Kd.R_base HO546.out k_ e_.symm)) (fun hs_=>Or.elim hs_ (fun hs_=>fun e_=>Nat.not_le.2 hs_ (Kd.R_base HO546.out k_ e_.symm)) (fun hs_=>Or.elim hs_ (fun hs_=>fun e_=>Nat.not_le.2 hs_ (Kd.R_base HO546.out k_ e_.symm)) (fun hs_=>fun e_=>Nat.not_le.2 hs_ (Kd.R_base HO546.out k_ e_.symm))))) (fun hn_=>(Kd.fresh' (Kd.R_lt (rod_ HO546)) k_ hn_)),Or.elim hk_.1 (fun hs_=>Or.elim hs_ (fun hs_=>fun e_=>Nat.not_le.2 hs_ (Kd.R_base HO555.out k_ e_.symm)) (fun hs_=>Or.elim hs_ (fun hs_=>fun e_=>Nat.not_le.2 hs_ (Kd.R_base HO555.out k_ e_.symm)) (fun hs_=>Or.elim hs_ (fun hs_=>fun e_=>Nat.not_le.2 hs_ (Kd.R_base HO555.out k_ e_.symm)) (fun hs_=>fun e_=>Nat.not_le.2 hs_ (Kd.R_base HO555.out k_ e_.symm))))) (fun hn_=>(Kd.fresh' (Kd.R_lt (rod_ HO555)) k_ hn_)),Or.elim hk_.1 (fun hs_=>Or.elim hs_ (fun hs_=>fun e_=>Nat.not_le.2 hs_ (Kd.R_base HO559.out k_ e_.symm)) (fun hs_=>Or.elim hs_ (fun hs_=>fun e_=>Nat.not_le.2 hs_ (Kd.R_base HO559.out k_ e_.symm)) (fun hs_=>Or.elim hs_ (fun hs_=>fun e_=>Nat.not_le.2 hs_ (Kd.R_base HO559.out k_ e_.symm)) (fun hs_=>fun e_=>Nat.not_le.2 hs_ (Kd.R_base HO559.out k_ e_.symm))))) (fun hn_=>(Kd.fresh' (Kd.R_lt (rod_ HO559)) k_ hn_)),Or.elim hk_.1 (fun hs_=>Or.elim hs_ (fun hs_=>fun e_=>Nat.not_le.2 hs_ (Kd.R_base HO563.out k_ e_.symm)) (fun hs_=>Or.elim hs_ (fun hs_=>fun e_=>Nat.not_le.2 hs_ (Kd.R_base HO563.out k_ e_.symm)) (fun hs_=>Or.elim hs_ (fun hs_=>fun e_=>Nat.not_le.2 hs_ (Kd.R_base HO563.out k_ e_.symm)) (fun hs_=>fun e_=>Nat.not_le.2 hs_ (Kd.R_base HO563.out k_ e_.symm))))) (fun hn_=>(Kd.fresh' (Kd.R_lt (rod_ HO563)) k_ hn_)),Or.elim hk_.1 (fun hs_=>Or.elim hs_ (fun hs_=>fun e_=>Nat.not_le.2 hs_ (by rw [e_];exact GW528.out)) (fun hs_=>Or.elim hs_ (fun hs_=>fun e_=>Nat.not_le.2 hs_ (by rw [e_];exact GW528.out)) (fun hs_=>Or.elim hs_ (fun hs_=>fun e_=>Nat.not_le.2 hs_ (by rw [e_];exact GW528.out)) (fun hs_=>fun e_=>Nat.not_le.2 hs_ (by rw [e_];exact GW528.out))))) (fun hn_=>(Kd.freshB (g:=gb528) (blo_ BK528.out) k_ hn_)),Or.elim hk_.1 (fun hs_=>Or.elim hs_ (fun hs_=>fun e_=>Nat.not_le.2 hs_ (by rw [e_];exact GW556.out)) (fun hs_=>Or.elim hs_ (fun hs_=>fun e_=>Nat.not_le.2 hs_ (by rw [e_];exact GW556.out)) (fun hs_=>Or.elim hs_ (fun hs_=>fun e_=>Nat.not_le.2 hs_ (by rw [e_];exact GW556.out)) (fun hs_=>fun e_=>Nat.not_le.2 hs_ (by rw [e_];exact GW556.out))))) (fun hn_=>(Kd.freshB (g:=gb556) (blo_ BK556.out) k_ hn_))⟩)) (below_size belg_));have n9_:=ad_ (Kd.V_lower (Kd.V_mono (ok':=fun k_=>some k_≠(v583:Value).ownBlock∧some k_≠(v592:Value).ownBlock∧some k_≠(.slice Ao34 t544.length co34:Value).ownBlock∧some k_≠(.slice Ao37 t553.length co37:Value).ownBlock∧some k_≠(.slice Ao46 t557.length co46:Value).ownBlock∧some k_≠(.slice Ao47 t561.length co47:Value).ownBlock∧k_≠gb528∧k_≠gb556) ho1 (fun k_ hk_=>⟨hk_.2.1,hk_.2.2,Or.elim hk_.1 (fun hs_=>Or.elim hs_ (fun hs_=>fun e_=>Nat.not_le.2 hs_ (Kd.R_base HO546.out k_ e_.symm)) (fun hs_=>Or.elim hs_ (fun hs_=>fun e_=>Nat.not_le.2 hs_ (Kd.R_base HO546.out k_ e_.symm)) (fun hs_=>Or.elim hs_ (fun hs_=>fun e_=>Nat.not_le.2 hs_ (Kd.R_base HO546.out k_ e_.symm)) (fun hs_=>fun e_=>Nat.not_le.2 hs_ (Kd.R_base HO546.out k_ e_.symm))))) (fun hn_=>(Kd.fresh' (Kd.R_lt (rod_ HO546)) k_ hn_)),Or.elim hk_.1 (fun hs_=>Or.elim hs_ (fun hs_=>fun e_=>Nat.not_le.2 hs_ (Kd.R_base HO555.out k_ e_.symm)) (fun hs_=>Or.elim hs_ (fun hs_=>fun e_=>Nat.not_le.2 hs_ (Kd.R_base HO555.out k_ e_.symm)) (fun hs_=>Or.elim hs_ (fun hs_=>fun e_=>Nat.not_le.2 hs_ (Kd.R_base HO555.out k_ e_.symm)) (fun hs_=>fun e_=>Nat.not_le.2 hs_ (Kd.R_base HO555.out k_ e_.symm))))) (fun hn_=>(Kd.fresh' (Kd.R_lt (rod_ HO555)) k_ hn_)),Or.elim hk_.1 (fun hs_=>Or.elim hs_ (fun hs_=>fun e_=>Nat.not_le.2 hs_ (Kd.R_base HO559.out k_ e_.symm)) (fun hs_=>Or.elim hs_ (fun hs_=>fun e_=>Nat.not_le.2 hs_ (Kd.R_base HO559.out k_ e_.symm)) (fun hs_=>Or.elim hs_ (fun hs_=>fun e_=>Nat.not_le.2 hs_ (Kd.R_base HO559.out k_ e_.symm)) (fun hs_=>fun e_=>Nat.not_le.2 hs_ (Kd.R_base HO559.out k_ e_.symm))))) (fun hn_=>(Kd.fresh' (Kd.R_lt (rod_ HO559)) k_ hn_)),Or.elim hk_.1 (fun hs_=>Or.elim hs_ (fun hs_=>fun e_=>Nat.not_le.2 hs_ (Kd.R_base HO563.out k_ e_.symm)) (fun hs_=>Or.elim hs_ (fun hs_=>fun e_=>Nat.not_le.2 hs_ (Kd.R_base HO563.out k_ e_.symm)) (fun hs_=>Or.elim hs_ (fun hs_=>fun e_=>Nat.not_le.2 hs_ (Kd.R_base HO563.out k_ e_.symm)) (fun hs_=>fun e_=>Nat.not_le.2 hs_ (Kd.R_base HO563.out k_ e_.symm))))) (fun hn_=>(Kd.fresh' (Kd.R_lt (rod_ HO563)) k_ hn_)),Or.elim hk_.1 (fun hs_=>Or.elim hs_ (fun hs_=>fun e_=>Nat.not_le.2 hs_ (by rw [e_];exact GW528.out)) (fun hs_=>Or.elim hs_ (fun hs_=>fun e_=>Nat.not_le.2 hs_ (by rw [e_];exact GW528.out)) (fun hs_=>Or.elim hs_ (fun hs_=>fun e_=>Nat.not_le.2 hs_ (by rw [e_];exact GW528.out)) (fun hs_=>fun e_=>Nat.not_le.2 hs_ (by rw [e_];exact GW528.out))))) (fun hn_=>(Kd.freshB (g:=gb528) (blo_ BK528.out) k_ hn_)),Or.elim hk_.1 (fun hs_=>Or.elim hs_ (fun hs_=>fun e_=>Nat.not_le.2 hs_ (by rw [e_];exact GW556.out)) (fun hs_=>Or.elim hs_ (fun hs_=>fun e_=>Nat.not_le.2 hs_ (by rw [e_];exact GW556.out)) (fun hs_=>Or.elim hs_ (fun hs_=>fun e_=>Nat.not_le.2 hs_ (by rw [e_];exact GW556.out)) (fun hs_=>fun e_=>Nat.not_le.2 hs_ (by rw [e_];exact GW556.out))))) (fun hn_=>(Kd.freshB (g:=gb556) (blo_ BK556.out) k_ hn_))⟩)) (below_size belg_));have n10_:=ad_ (Kd.R_lower (Kd.R_new' (Kd.R_mono (ok':=fun k_=>True) ho2 (fun _ hk_=>trivial)) (Kd.R_lt (rod_ HO546))) (below_size belg_));have n11_:=ad_ (Kd.V_lower (Kd.V_mono (ok':=fun k_=>some k_≠(v583:Value).ownBlock∧some k_≠(v592:Value).ownBlock∧some k_≠(.slice Ao34 t544.length co34:Value).ownBlock∧some k_≠(.slice Ao37 t553.length co37:Value).ownBlock∧some k_≠(.slice Ao46 t557.length co46:Value).ownBlock∧some k_≠(.slice Ao47 t561.length co47:Value).ownBlock∧k_≠gb528∧k_≠gb556) ho3 (fun k_ hk_=>⟨hk_.2.1,hk_.2.2,Or.elim hk_.1 (fun hs_=>Or.elim hs_ (fun hs_=>fun e_=>Nat.not_le.2 hs_ (Kd.R_base HO546.out k_ e_.symm)) (fun hs_=>Or.elim hs_ (fun hs_=>fun e_=>Nat.not_le.2 hs_ (Kd.R_base HO546.out k_ e_.symm)) (fun hs_=>Or.elim hs_ (fun hs_=>fun e_=>Nat.not_le.2 hs_ (Kd.R_base HO546.out k_ e_.symm)) (fun hs_=>fun e_=>Nat.not_le.2 hs_ (Kd.R_base HO546.out k_ e_.symm))))) (fun hn_=>(Kd.fresh' (Kd.R_lt (rod_ HO546)) k_ hn_)),Or.elim hk_.1 (fun hs_=>Or.elim hs_ (fun hs_=>fun e_=>Nat.not_le.2 hs_ (Kd.R_base HO555.out k_ e_.symm)) (fun hs_=>Or.elim hs_ (fun hs_=>fun e_=>Nat.not_le.2 hs_ (Kd.R_base HO555.out k_ e_.symm)) (fun hs_=>Or.elim hs_ (fun hs_=>fun e_=>Nat.not_le.2 hs_ (Kd.R_base HO555.out k_ e_.symm)) (fun hs_=>fun e_=>Nat.not_le.2 hs_ (Kd.R_base HO555.out k_ e_.symm))))) (fun hn_=>(Kd.fresh' (Kd.R_lt (rod_ HO555)) k_ hn_)),Or.elim hk_.1 (fun hs_=>Or.elim hs_ (fun hs_=>fun e_=>Nat.not_le.2 hs_ (Kd.R_base HO559.out k_ e_.symm)) (fun hs_=>Or.elim hs_ (fun hs_=>fun e_=>Nat.not_le.2 hs_ (Kd.R_base HO559.out k_ e_.symm)) (fun hs_=>Or.elim hs_ (fun hs_=>fun e_=>Nat.not_le.2 hs_ (Kd.R_base HO559.out k_ e_.symm)) (fun hs_=>fun e_=>Nat.not_le.2 hs_ (Kd.R_base HO559.out k_ e_.symm))))) (fun hn_=>(Kd.fresh' (Kd.R_lt (rod_ HO559)) k_ hn_)),Or.elim hk_.1 (fun hs_=>Or.elim hs_ (fun hs_=>fun e_=>Nat.not_le.2 hs_ (Kd.R_base HO563.out k_ e_.symm)) (fun hs_=>Or.elim hs_ (fun hs_=>fun e_=>Nat.not_le.2 hs_ (Kd.R_base HO563.out k_ e_.symm)) (fun hs_=>Or.elim hs_ (fun hs_=>fun e_=>Nat.not_le.2 hs_ (Kd.R_base HO563.out k_ e_.symm)) (fun hs_=>fun e_=>Nat.not_le.2 hs_ (Kd.R_base HO563.out k_ e_.symm))))) (fun hn_=>(Kd.fresh' (Kd.R_lt (rod_ HO563)) k_ hn_)),Or.elim hk_.1 (fun hs_=>Or.elim hs_ (fun hs_=>fun e_=>Nat.not_le.2 hs_ (by rw [e_];exact GW528.out)) (fun hs_=>Or.elim hs_ (fun hs_=>fun e_=>Nat.not_le.2 hs_ (by rw [e_];exact GW528.out)) (fun hs_=>Or.elim hs_ (fun hs_=>fun e_=>Nat.not_le.2 hs_ (by rw [e_];exact GW528.out)) (fun hs_=>fun e_=>Nat.not_le.2 hs_ (by rw [e_];exact GW528.out))))) (fun hn_=>(Kd.freshB (g:=gb528) (blo_ BK528.out) k_ hn_)),Or.elim hk_.1 (fun hs_=>Or.elim hs_ (fun hs_=>fun e_=>Nat.not_le.2 hs_ (by rw [e_];exact GW556.out)) (fun hs_=>Or.elim hs_ (fun hs_=>fun e_=>Nat.not_le.2 hs_ (by rw [e_];exact GW556.out)) (fun hs_=>Or.elim hs_ (fun hs_=>fun e_=>Nat.not_le.2 hs_ (by rw [e_];exact GW556.out)) (fun hs_=>fun e_=>Nat.not_le.2 hs_ (by rw [e_];exact GW556.out))))) (fun hn_=>(Kd.freshB (g:=gb556) (blo_ BK556.out) k_ hn_))⟩)) (below_size belg_));have n12_:=ad_ (Kd.V_lower (Kd.V_mono (ok':=fun k_=>some k_≠(v583:Value).ownBlock∧some k_≠(v592:Value).ownBlock∧some k_≠(.slice Ao34 t544.length co34:Value).ownBlock∧some k_≠(.slice Ao37 t553.length co37:Value).ownBlock∧some k_≠(.slice Ao46 t557.length co46:Value).ownBlock∧some k_≠(.slice Ao47 t561.length co47:Value).ownBlock∧k_≠gb528∧k_≠gb556) ho4 (fun k_ hk_=>⟨hk_.2.1,hk_.2.2,Or.elim hk_.1 (fun hs_=>Or.elim hs_ (fun hs_=>fun e_=>Nat.not_le.2 hs_ (Kd.R_base HO546.out k_ e_.symm)) (fun hs_=>Or.elim hs_ (fun hs_=>fun e_=>Nat.not_le.2 hs_ (Kd.R_base HO546.out k_ e_.symm)) (fun hs_=>Or.elim hs_ (fun hs_=>fun e_=>Nat.not_le.2 hs_ (Kd.R_base HO546.out k_ e_.symm)) (fun hs_=>fun e_=>Nat.not_le.2 hs_ (Kd.R_base HO546.out k_ e_.symm))))) (fun hn_=>(Kd.fresh' (Kd.R_lt (rod_ HO546)) k_ hn_)),Or.elim hk_.1 (fun hs_=>Or.elim hs_ (fun hs_=>fun e_=>Nat.not_le.2 hs_ (Kd.R_base HO555.out k_ e_.symm)) (fun hs_=>Or.elim hs_ (fun hs_=>fun e_=>Nat.not_le.2 hs_ (Kd.R_base HO555.out k_ e_.symm)) (fun hs_=>Or.elim hs_ (fun hs_=>fun e_=>Nat.not_le.2 hs_ (Kd.R_base HO555.out k_ e_.symm)) (fun hs_=>fun e_=>Nat.not_le.2 hs_ (Kd.R_base HO555.out k_ e_.symm))))) (fun hn_=>(Kd.fresh' (Kd.R_lt (rod_ HO555)) k_ hn_)),Or.elim hk_.1 (fun hs_=>Or.elim hs_ (fun hs_=>fun e_=>Nat.not_le.2 hs_ (Kd.R_base HO559.out k_ e_.symm)) (fun hs_=>Or.elim hs_ (fun hs_=>fun e_=>Nat.not_le.2 hs_ (Kd.R_base HO559.out k_ e_.symm)) (fun hs_=>Or.elim hs_ (fun hs_=>fun e_=>Nat.not_le.2 hs_ (Kd.R_base HO559.out k_ e_.symm)) (fun hs_=>fun e_=>Nat.not_le.2 hs_ (Kd.R_base HO559.out k_ e_.symm))))) (fun hn_=>(Kd.fresh' (Kd.R_lt (rod_ HO559)) k_ hn_)),Or.elim hk_.1 (fun hs_=>Or.elim hs_ (fun hs_=>fun e_=>Nat.not_le.2 hs_ (Kd.R_base HO563.out k_ e_.symm)) (fun hs_=>Or.elim hs_ (fun hs_=>fun e_=>Nat.not_le.2 hs_ (Kd.R_base HO563.out k_ e_.symm)) (fun hs_=>Or.elim hs_ (fun hs_=>fun e_=>Nat.not_le.2 hs_ (Kd.R_base HO563.out k_ e_.symm)) (fun hs_=>fun e_=>Nat.not_le.2 hs_ (Kd.R_base HO563.out k_ e_.symm))))) (fun hn_=>(Kd.fresh' (Kd.R_lt (rod_ HO563)) k_ hn_)),Or.elim hk_.1 (fun hs_=>Or.elim hs_ (fun hs_=>fun e_=>Nat.not_le.2 hs_ (by rw [e_];exact GW528.out)) (fun hs_=>Or.elim hs_ (fun hs_=>fun e_=>Nat.not_le.2 hs_ (by rw [e_];exact GW528.out)) (fun hs_=>Or.elim hs_ (fun hs_=>fun e_=>Nat.not_le.2 hs_ (by rw [e_];exact GW528.out)) (fun hs_=>fun e_=>Nat.not_le.2 hs_ (by rw [e_];exact GW528.out))))) (fun hn_=>(Kd.freshB (g:=gb528) (blo_ BK528.out) k_ hn_)),Or.elim hk_.1 (fun hs_=>Or.elim hs_ (fun hs_=>fun e_=>Nat.not_le.2 hs_ (by rw [e_];exact GW556.out)) (fun hs_=>Or.elim hs_ (fun hs_=>fun e_=>Nat.not_le.2 hs_ (by rw [e_];exact GW556.out)) (fun hs_=>Or.elim hs_ (fun hs_=>fun e_=>Nat.not_le.2 hs_ (by rw [e_];exact GW556.out)) (fun hs_=>fun e_=>Nat.not_le.2 hs_ (by rw [e_];exact GW556.out))))) (fun hn_=>(Kd.freshB (g:=gb556) (blo_ BK556.out) k_ hn_))⟩)) (below_size belg_));have n13_:=ad_ (Kd.R_lower (Kd.R_new' (Kd.R_mono (ok':=fun k_=>True) ho5 (fun _ hk_=>trivial)) (Kd.R_lt (rod_ HO555))) (below_size belg_));have n14_:=bkb_ BK528 hb;have n15_:=bkb_ BK556 hb;have n16_:=hbb_ hb;clear HO540;clear HO543;clear HO546;clear HO549;clear HO552;clear HO555;clear HO559;clear HO563;clear BK528;clear BK556;clear HB;have HO540:=n0_;have HO543:=n1_;have HO546:=n2_;have HO549:=n3_;have HO552:=n4_;have HO555:=n5_;have HO559:=n6_;have HO563:=n7_;have HO578:=n8_;have HO581:=n9_;have HO584:=n10_;have HO587:=n11_;have HO590:=n12_;have HO593:=n13_;have BK528:=n14_;have BK556:=n15_;have HB:=n16_;clear n0_ n1_ n2_ n3_ n4_ n5_ n6_ n7_ n8_ n9_ n10_ n11_ n12_ n13_ n14_ n15_ n16_
      (try clear hb)
      (try clear ho0)
      (try clear ho1)
      (try clear ho2)
      (try clear ho3)
      (try clear ho4)
      (try clear ho5)
      obtain ⟨Ao49,co49,eo49⟩:=Kd.V_slice HO578.out
      (first | subst eo49 | (injection eo49 with f1_ f2_ f3_;have f4_:=f1_.symm;have f5_:=f3_.symm;clear f1_ f2_ f3_;subst f4_;subst f5_))
      obtain ⟨Ao50,co50,eo50⟩:=Kd.V_slice HO581.out
      (first | subst eo50 | (injection eo50 with f1_ f2_ f3_;have f4_:=f1_.symm;have f5_:=f3_.symm;clear f1_ f2_ f3_;subst f4_;subst f5_))
      obtain ⟨Ao51,co51,eo51⟩:=Kd.R_slice HO584.out
      (first | subst eo51 | (injection eo51 with f1_ f2_ f3_;have f4_:=f1_.symm;have f5_:=f3_.symm;clear f1_ f2_ f3_;subst f4_;subst f5_))
      obtain ⟨Ao52,co52,eo52⟩:=Kd.V_slice HO587.out
      (first | subst eo52 | (injection eo52 with f1_ f2_ f3_;have f4_:=f1_.symm;have f5_:=f3_.symm;clear f1_ f2_ f3_;subst f4_;subst f5_))
      obtain ⟨Ao53,co53,eo53⟩:=Kd.V_slice HO590.out
      (first | subst eo53 | (injection eo53 with f1_ f2_ f3_;have f4_:=f1_.symm;have f5_:=f3_.symm;clear f1_ f2_ f3_;subst f4_;subst f5_))
      obtain ⟨Ao54,co54,eo54⟩:=Kd.R_slice HO593.out
      (first | subst eo54 | (injection eo54 with f1_ f2_ f3_;have f4_:=f1_.symm;have f5_:=f3_.symm;clear f1_ f2_ f3_;subst f4_;subst f5_))
      refine hK.out _ _ ⟨bc_ BK528,bc_ BK528,bc_ BK528,bc_ BK528,bc_ BK528,bc_ BK528,bc_ BK528,bc_ BK528,bc_ BK528,bc_ BK528,bc_ BK528,bc_ BK528,bc_ BK528,bc_ BK556,bc_ BK556,bc_ BK556,bc_ BK556,bc_ BK556,bc_ BK556,bc_ BK556,bc_ BK556,bc_ BK556,bc_ BK556,bc_ BK556,bc_ BK556,bc_ BK556⟩ (fun hHeld=>?_)
      clear hK K
      refine norm_ (a':=?_) ?_ ?_
      rotate_left
      ·show Act.put _ (some 52) _=_
       simp only [Act.put,List.setIfInBounds_toArray,List.set_cons_zero,List.set_cons_succ,i64_w,i32_w]
       rfl
      refine one_ (i:=22) (N:=some 54) #[true,true,true,true,true,true,true,true,true,true,true,true,true,true,true,true,true,true,true,true,true,true,true,false,false] rfl rfl (one_of HT_.out (by kernel_rfl)) (by decide) (fun K hK=>?_)
      refine goes_ Tryz.func14 (by kernel_rfl) rfl #[.agg #[.int .i64 t569,.int .i64 t570,.bool t571,.int .i64 t572,.int .i64 t573,.int .i64 t574,.int .i64 t575,.slice Ao49 t576.length co49,.slice Ao50 t579.length co50,.slice Ao51 t582.length co51,.slice Ao52 t585.length co52,.slice Ao53 t588.length co53,.slice Ao54 t591.length co54],.agg #[.int .i64 t531,.int .i64 t532,.bool t533,.int .i64 t534,.int .i64 t535,.int .i64 t536,.int .i64 t537,.slice Ao32 t538.length co32,.slice Ao33 t541.length co33,.slice Ao34 t544.length co34,.slice Ao35 t547.length co35,.slice Ao36 t550.length co36,.slice Ao37 t553.length co37]] (by rfl) rfl rfl arg_ ?_
      with_reducible refine (pl23_Same.calls k t569 t570 t571 t572 t573 t574 t575 _ _ t576 _ _ t579 _ _ t582 _ _ t585 _ _ t588 _ _ t591 t531 t532 t533 t534 t535 t536 t537 _ _ t538 _ _ t541 _ _ t544 _ _ t547 _ _ t550 _ _ t553 t594 _ ?side1 ?side2 ?side3 ?side4 ?side5 ?side6 ?side7 ?side8 ?side9 ?side10 ?side11 ?side12 ?side13 ?side14 ?side15 ?side16 ?side17 ?side18 ?side19 ?side20 ?side21 ?side22 ?side23 ?side24 A23.out).mono ?_
      (case side1=>exact cop_ (Kd.V_reads' HO578.out).2.2)
      (case side2=>exact (Kd.V_reads' HO578.out).2.1)
      (case side3=>exact cop_ (Kd.V_reads' HO581.out).2.2)
      (case side4=>exact (Kd.V_reads' HO581.out).2.1)
      (case side5=>exact cop_ (Kd.R_reads' HO584.out).2.2)
      (case side6=>exact (Kd.R_reads' HO584.out).2.1)
      (case side7=>exact cop_ (Kd.V_reads' HO587.out).2.2)
      (case side8=>exact (Kd.V_reads' HO587.out).2.1)
      (case side9=>exact cop_ (Kd.V_reads' HO590.out).2.2)
      (case side10=>exact (Kd.V_reads' HO590.out).2.1)
      (case side11=>exact cop_ (Kd.R_reads' HO593.out).2.2)
      (case side12=>exact (Kd.R_reads' HO593.out).2.1)
      (case side13=>exact cop_ (Kd.V_reads' HO540.out).2.2)
      (case side14=>exact (Kd.V_reads' HO540.out).2.1)
      (case side15=>exact cop_ (Kd.V_reads' HO543.out).2.2)
      (case side16=>exact (Kd.V_reads' HO543.out).2.1)
      (case side17=>exact cop_ (Kd.R_reads' HO546.out).2.2)
      (case side18=>exact (Kd.R_reads' HO546.out).2.1)
      (case side19=>exact cop_ (Kd.V_reads' HO549.out).2.2)
      (case side20=>exact (Kd.V_reads' HO549.out).2.1)
      (case side21=>exact cop_ (Kd.V_reads' HO552.out).2.2)
      (case side22=>exact (Kd.V_reads' HO552.out).2.1)
      (case side23=>exact cop_ (Kd.R_reads' HO555.out).2.2)
      (case side24=>exact (Kd.R_reads' HO555.out).2.1)
      rintro e w55 ⟨rfl,hb⟩
      refine ⟨_,rfl,?_⟩
      have n0_:=ad_ (Kd.V_below (vod_ (HO540.out)) hb);have n1_:=ad_ (Kd.V_below (vod_ (HO543.out)) hb);have n2_:=ad_ (Kd.R_below (rod_ HO546) hb);have n3_:=ad_ (Kd.V_below (vod_ (HO549.out)) hb);have n4_:=ad_ (Kd.V_below (vod_ (HO552.out)) hb);have n5_:=ad_ (Kd.R_below (rod_ HO555) hb);have n6_:=ad_ (Kd.R_below (rod_ HO559) hb);have n7_:=ad_ (Kd.R_below (rod_ HO563) hb);have n8_:=ad_ (Kd.V_below (vod_ (HO578.out)) hb);have n9_:=ad_ (Kd.V_below (vod_ (HO581.out)) hb);have n10_:=ad_ (Kd.R_below (rod_ HO584) hb);have n11_:=ad_ (Kd.V_below (vod_ (HO587.out)) hb);have n12_:=ad_ (Kd.V_below (vod_ (HO590.out)) hb);have n13_:=ad_ (Kd.R_below (rod_ HO593) hb);have n14_:=bkb_ BK528 hb;have n15_:=bkb_ BK556 hb;have n16_:=hbb_ hb;clear HO540;clear HO543;clear HO546;clear HO549;clear HO552;clear HO555;clear HO559;clear HO563;clear HO578;clear HO581;clear HO584;clear HO587;clear HO590;clear HO593;clear BK528;clear BK556;clear HB;have HO540:=n0_;have HO543:=n1_;have HO546:=n2_;have HO549:=n3_;have HO552:=n4_;have HO555:=n5_;have HO559:=n6_;have HO563:=n7_;have HO578:=n8_;have HO581:=n9_;have HO584:=n10_;have HO587:=n11_;have HO590:=n12_;have HO593:=n13_;have BK528:=n14_;have BK556:=n15_;have HB:=n16_;clear n0_ n1_ n2_ n3_ n4_ n5_ n6_ n7_ n8_ n9_ n10_ n11_ n12_ n13_ n14_ n15_ n16_
      (try clear hb)
      refine hK.out _ _ ⟨bc_ BK528,bc_ BK528,bc_ BK528,bc_ BK528,bc_ BK528,bc_ BK528,bc_ BK528,bc_ BK528,bc_ BK528,bc_ BK528,bc_ BK528,bc_ BK528,bc_ BK528,bc_ BK556,bc_ BK556,bc_ BK556,bc_ BK556,bc_ BK556,bc_ BK556,bc_ BK556,bc_ BK556,bc_ BK556,bc_ BK556,bc_ BK556,bc_ BK556,bc_ BK556⟩ (fun hHeld=>?_)
      clear hK K
      refine norm_ (a':=?_) ?_ ?_
      rotate_left
      ·show Act.put _ (some 54) _=_
       simp only [Act.put,List.setIfInBounds_toArray,List.set_cons_zero,List.set_cons_succ,i64_w,i32_w]
       rfl
      refine pure_ (i:=23) (N:=some 55) (v:=?_) (a':=?_) #[true,true,true,true,true,true,true,true,true,true,true,true,true,true,true,true,true,true,true,true,true,true,true,true,false] rfl rfl (any_of HT_.out (by kernel_rfl)) (fun _ _ _ h=>h) (Or.inl ⟨by rfl,?_⟩) ?_ ?_
      rotate_left
      ·intro w'
       go_simp
       with_reducible rfl
      rotate_left
      ·simp only [Act.put,List.setIfInBounds_toArray,List.set_cons_zero,List.set_cons_succ,i64_w,i32_w]
       rfl
      refine pure_ (i:=24) (N:=some 6) (v:=?_) (a':=?_) (.replicate 25 true) rfl rfl (any_of HT_.out (by kernel_rfl)) (fun _ _ _ h=>h) (Or.inl ⟨by rfl,?_⟩) ?_ ?_
      rotate_left
      ·intro w'
       go_simp
       with_reducible rfl
      rotate_left
      ·simp only [Act.put,List.setIfInBounds_toArray,List.set_cons_zero,List.set_cons_succ,i64_w,i32_w]
       rfl
      refine done_ (done_of HT_.out (by kernel_rfl)) ?_
      try go_wp2
      go_ret
      exact ⟨ret_,belg_⟩
     ·exact absurd (Option.some.inj H) (by rw [hr_.out];decide)
    ·exact absurd (Option.some.inj H) (by rw [hr_.out];decide)
   ·rw [if_neg c18] at H
    have c18b0:(t566 == t567)=false:=by simpa using c18
    (try (have c18b1:decide (t566=t567)=false:=by simpa using c18))
    (try (have c18b2:(t566 == t567)=false:=by simpa using c18))
    (try (have c18b3:¬(t566=t567):=by simpa using c18))
    clear c18;exact absurd (Option.some.inj H) (by rw [hr_.out];decide)
  ·exact absurd (Option.some.inj H) (by rw [hr_.out];decide)
end Go.Proofs.YtkgkblmeafhkfaaGreat.PG

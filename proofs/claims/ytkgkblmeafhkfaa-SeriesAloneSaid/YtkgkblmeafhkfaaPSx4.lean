-- Written by a program of the session (wip/tools).
import Derived.Test.YtkgkblmeafhkfaaPSx0
namespace Go.Proofs.Ytkgkblmeafhkfaa.PS
open Go.RowKit Go.Proofs.YtkgkblmeafhkfaaW.PrintWords Go.Proofs.YtkgkblmeafhkfaaW.PrintLast Go.Proofs.YtkgkblmeafhkfaaW.PrintMore
attribute [local go_sem] max2_int min2_int max_two min_two max_three min_three max_four min_four   -- for this text's walks alone
set_option linter.unusedVariables false
set_option linter.unusedSimpArgs false

/-! ### posthornlaw21_Great: function 13 -/
def posthornlaw21_Great.f (a0_0:Int) (a0_1:Int) (a0_2:Int) (a0_3:Int) (l0_4:List Int) (l0_5:List Int) (l0_6:List (S78)):Option (Bool):=if (wrap64 ((l0_4.length:Int) + (l0_5.length:Int))) > 100 then (some true) else (some (decide ((l0_6.length:Int) > 100)))
set_option maxHeartbeats 8000000 in
set_option maxRecDepth 100000 in
theorem posthornlaw21_Great.calls (a0_0:Int) (a0_1:Int) (a0_2:Int) (a0_3:Int) (A0_4:Option Addr) (c0_4:Nat) (l0_4:List Int) (A0_5:Option Addr) (c0_5:Nat) (l0_5:List Int) (A0_6:Option Addr) (c0_6:Nat) (l0_6:List (S78)) (r:Bool) (w:World) (hr0_4:Kd.C (Kd.int .i64) w A0_4 l0_4.length l0_4) (hc0_4:l0_4.length≤c0_4) (hr0_5:Kd.C (Kd.int .i64) w A0_5 l0_5.length l0_5) (hc0_5:l0_5.length≤c0_5) (hr0_6:Kd.C k78 w A0_6 l0_6.length l0_6) (hc0_6:l0_6.length≤c0_6) (h:posthornlaw21_Great.f a0_0 a0_1 a0_2 a0_3 l0_4 l0_5 l0_6=some r) :
  Calls Try.prog 13 #[.agg #[.int .i64 a0_0,.int .i64 a0_1,.int .i64 a0_2,.int .i64 a0_3,.slice A0_4 l0_4.length c0_4,.slice A0_5 l0_5.length c0_5,.slice A0_6 l0_6.length c0_6]] w fun e w'=>e = .returned (.bool r)∧Below w.heap.size w w':=by
 have hu25:=Try.underlying25;have HR0_4:=Aside0.mk hr0_4;have HC0_4:=Aside0.mk hc0_4;clear hr0_4 hc0_4;have HR0_5:=Aside0.mk hr0_5;have HC0_5:=Aside0.mk hc0_5;clear hr0_5 hc0_5;have HR0_6:=Aside0.mk hr0_6;have HC0_6:=Aside0.mk hc0_6;clear hr0_6 hc0_6;have HB:=ad_ (Below.refl w.heap.size w);have H:(if (wrap64 ((l0_4.length:Int) + (l0_5.length:Int))) > 100 then (some true) else (some (decide ((l0_6.length:Int) > 100))))=some r:=h;clear h
 by_cases c2:(wrap64 ((l0_4.length:Int) + (l0_5.length:Int))) > 100
 ·rw [if_pos c2] at H;have c2b0:decide (100 < (wrap64 ((l0_4.length:Int) + (l0_5.length:Int))))=true:=decide_eq_true c2;clear c2;obtain rfl:=Option.some.inj H
  go_enter Try.func13,Try.ntmps13
  go_wp2_with (first | ((with_reducible refine gate_dst (N:=1) rfl ?_);(try (refine gate_guard (by rfl) ?_;dsimp only));refine box_event ?hg (N:=1) ?hd (cs:=#[.int .i64 a0_0,.int .i64 a0_1,.int .i64 a0_2,.int .i64 a0_3,.slice A0_4 l0_4.length c0_4,.slice A0_5 l0_5.length c0_5,.slice A0_6 l0_6.length c0_6]) (t:=25) ?hr ?_;(case hd=>rfl);(case hg=>rfl);(case hr=>first | (go_simp;done) | (go_simp;rfl));intro gb101 hg w3 hbox hb;have BK101:=ad_ (hbox);have GW101:=ad_ ((by rw [hg];exact (below_size bel_):w.heap.size≤gb101));have GE101:=ad_ ((by rw [hg];exact (below_size bel_):w.heap.size≤gb101));replace HB:=hbb_ hb;clear hb hbox hg;have hcz4_:=cells7_ BK101.out))
  go_ret
  exact ⟨ret_,belg_⟩
 ·rw [if_neg c2] at H;have c2b0:decide (100 < (wrap64 ((l0_4.length:Int) + (l0_5.length:Int))))=false:=decide_eq_false c2;clear c2;obtain rfl:=Option.some.inj H
  go_enter Try.func13,Try.ntmps13
  go_wp2_with (first | ((with_reducible refine gate_dst (N:=1) rfl ?_);(try (refine gate_guard (by rfl) ?_;dsimp only));refine box_event ?hg (N:=1) ?hd (cs:=#[.int .i64 a0_0,.int .i64 a0_1,.int .i64 a0_2,.int .i64 a0_3,.slice A0_4 l0_4.length c0_4,.slice A0_5 l0_5.length c0_5,.slice A0_6 l0_6.length c0_6]) (t:=25) ?hr ?_;(case hd=>rfl);(case hg=>rfl);(case hr=>first | (go_simp;done) | (go_simp;rfl));intro gb101 hg w5 hbox hb;have BK101:=ad_ (hbox);have GW101:=ad_ ((by rw [hg];exact (below_size bel_):w.heap.size≤gb101));have GE101:=ad_ ((by rw [hg];exact (below_size bel_):w.heap.size≤gb101));replace HB:=hbb_ hb;clear hb hbox hg;have hcz6_:=cells7_ BK101.out))
  go_ret
  exact ⟨ret_,belg_⟩

/-! ### posthornlaw23_Great: function 7 -/
def posthornlaw23_Great.f (a0_0:Int) (a0_1:Int) (a0_2:Bool) (a0_3:Int) (a0_4:Int) (a0_5:Int) (a0_6:Int) (l0_7:List Int) (l0_8:List Int) (l0_9:List (S78)) (l0_10:List Int) (l0_11:List Int) (l0_12:List (S39)) (a1:Int):Option (Bool):=(posthornlaw21_Great.f a0_3 a0_4 a0_5 a0_6 l0_7 l0_8 l0_9).bind fun t103=>(if t103=true then (some true) else (if (l0_10.length:Int) > 300 then (some true) else (if (l0_11.length:Int) > 300 then (some true) else (if (l0_12.length:Int) > 300 then (some true) else (if a0_0 > 4294967296 then (some true) else (some (decide (a1 > 4294967296))))))))
set_option maxHeartbeats 8000000 in
set_option maxRecDepth 100000 in
theorem posthornlaw23_Great.calls (a0_0:Int) (a0_1:Int) (a0_2:Bool) (a0_3:Int) (a0_4:Int) (a0_5:Int) (a0_6:Int) (A0_7:Option Addr) (c0_7:Nat) (l0_7:List Int) (A0_8:Option Addr) (c0_8:Nat) (l0_8:List Int) (A0_9:Option Addr) (c0_9:Nat) (l0_9:List (S78)) (A0_10:Option Addr) (c0_10:Nat) (l0_10:List Int) (A0_11:Option Addr) (c0_11:Nat) (l0_11:List Int) (A0_12:Option Addr) (c0_12:Nat) (l0_12:List (S39)) (a1:Int) (r:Bool) (w:World) (hr0_7:Kd.C (Kd.int .i64) w A0_7 l0_7.length l0_7) (hc0_7:l0_7.length≤c0_7) (hr0_8:Kd.C (Kd.int .i64) w A0_8 l0_8.length l0_8) (hc0_8:l0_8.length≤c0_8) (hr0_9:Kd.C k78 w A0_9 l0_9.length l0_9) (hc0_9:l0_9.length≤c0_9) (hr0_10:Kd.C (Kd.int .i64) w A0_10 l0_10.length l0_10) (hc0_10:l0_10.length≤c0_10) (hr0_11:Kd.C (Kd.int .i64) w A0_11 l0_11.length l0_11) (hc0_11:l0_11.length≤c0_11) (hr0_12:Kd.C k39 w A0_12 l0_12.length l0_12) (hc0_12:l0_12.length≤c0_12) (h:posthornlaw23_Great.f a0_0 a0_1 a0_2 a0_3 a0_4 a0_5 a0_6 l0_7 l0_8 l0_9 l0_10 l0_11 l0_12 a1=some r) :
  Calls Try.prog 7 #[.agg #[.int .i64 a0_0,.int .i64 a0_1,.bool a0_2,.int .i64 a0_3,.int .i64 a0_4,.int .i64 a0_5,.int .i64 a0_6,.slice A0_7 l0_7.length c0_7,.slice A0_8 l0_8.length c0_8,.slice A0_9 l0_9.length c0_9,.slice A0_10 l0_10.length c0_10,.slice A0_11 l0_11.length c0_11,.slice A0_12 l0_12.length c0_12],.int .i64 a1] w fun e w'=>e = .returned (.bool r)∧Below w.heap.size w w':=by
 have hu29:=Try.underlying29;have hu25:=Try.underlying25;have HR0_7:=Aside0.mk hr0_7;have HC0_7:=Aside0.mk hc0_7;clear hr0_7 hc0_7;have HR0_8:=Aside0.mk hr0_8;have HC0_8:=Aside0.mk hc0_8;clear hr0_8 hc0_8;have HR0_9:=Aside0.mk hr0_9;have HC0_9:=Aside0.mk hc0_9;clear hr0_9 hc0_9;have HR0_10:=Aside0.mk hr0_10;have HC0_10:=Aside0.mk hc0_10;clear hr0_10 hc0_10;have HR0_11:=Aside0.mk hr0_11;have HC0_11:=Aside0.mk hc0_11;clear hr0_11 hc0_11;have HR0_12:=Aside0.mk hr0_12;have HC0_12:=Aside0.mk hc0_12;clear hr0_12 hc0_12;have HB:=ad_ (Below.refl w.heap.size w);have H:((posthornlaw21_Great.f a0_3 a0_4 a0_5 a0_6 l0_7 l0_8 l0_9).bind fun t103=>(if t103=true then (some true) else (if (l0_10.length:Int) > 300 then (some true) else (if (l0_11.length:Int) > 300 then (some true) else (if (l0_12.length:Int) > 300 then (some true) else (if a0_0 > 4294967296 then (some true) else (some (decide (a1 > 4294967296)))))))))=some r:=h;clear h;replace H:=Option.bind_eq_some_iff.mp H;obtain ⟨t103,A30,H⟩:=H
 try dsimp only at H
 have A3:=ad_ A30;clear A30
 by_cases c4:t103=true
 ·subst c4;replace H:=ifp_ H;obtain rfl:=Option.some.inj H
  go_enter Try.func7,Try.ntmps7
  go_wp2_with (first | ((with_reducible refine gate_dst (N:=2) rfl ?_);(try (refine gate_guard (by rfl) ?_;dsimp only));refine box_event ?hg (N:=2) ?hd (cs:=#[.int .i64 a0_0,.int .i64 a0_1,.bool a0_2,.int .i64 a0_3,.int .i64 a0_4,.int .i64 a0_5,.int .i64 a0_6,.slice A0_7 l0_7.length c0_7,.slice A0_8 l0_8.length c0_8,.slice A0_9 l0_9.length c0_9,.slice A0_10 l0_10.length c0_10,.slice A0_11 l0_11.length c0_11,.slice A0_12 l0_12.length c0_12]) (t:=29) ?hr ?_;(case hd=>rfl);(case hg=>rfl);(case hr=>first | (go_simp;done) | (go_simp;rfl));intro gb102 hg w5 hbox hb;have BK102:=ad_ (hbox);have GW102:=ad_ ((by rw [hg];exact (below_size bel_):w.heap.size≤gb102));have GE102:=ad_ ((by rw [hg];exact (below_size bel_):w.heap.size≤gb102));replace HB:=hbb_ hb;clear hb hbox hg;have hcz6_:=cells13_ BK102.out) | ((with_reducible refine gate_callee (f:=13) rfl ?_);refine goesL_ (some 7) rfl rfl Try.func13 (by kernel_rfl) rfl #[.agg #[.int .i64 a0_3,.int .i64 a0_4,.int .i64 a0_5,.int .i64 a0_6,.slice A0_7 l0_7.length c0_7,.slice A0_8 l0_8.length c0_8,.slice A0_9 l0_9.length c0_9]] rfl arg_ ?_;(with_reducible refine (posthornlaw21_Great.calls a0_3 a0_4 a0_5 a0_6 _ _ l0_7 _ _ l0_8 _ _ l0_9 true _ ?_ ?_ ?_ ?_ ?_ ?_ A3.out).mono ?_);exact cop_ (Kd.C_below HR0_7.out HB.out);exact HC0_7.out;exact cop_ (Kd.C_below HR0_8.out HB.out);exact HC0_8.out;exact cop_ (Kd.C_below HR0_9.out HB.out);exact HC0_9.out;rintro e w7 ⟨rfl,hb⟩;refine ⟨_,rfl,?_⟩;replace BK102:=bkb_ BK102 hb;replace HB:=hbb_ hb;(try clear hb);(try clear hb2);(try clear hk);(try clear hi)))
  go_ret
  exact ⟨ret_,belg_⟩
 ·replace c4:=Bool.eq_false_iff.mpr c4;subst c4;replace H:=ifn_ H
  by_cases c8:(l0_10.length:Int) > 300
  ·rw [if_pos c8] at H;have c8b0:decide (300 < (l0_10.length:Int))=true:=decide_eq_true c8;have c8b1:decide (300 < l0_10.length)=true:=decide_eq_true (by omega);clear c8;obtain rfl:=Option.some.inj H
   go_enter Try.func7,Try.ntmps7
   go_wp2_with (first | ((with_reducible refine gate_dst (N:=2) rfl ?_);(try (refine gate_guard (by rfl) ?_;dsimp only));refine box_event ?hg (N:=2) ?hd (cs:=#[.int .i64 a0_0,.int .i64 a0_1,.bool a0_2,.int .i64 a0_3,.int .i64 a0_4,.int .i64 a0_5,.int .i64 a0_6,.slice A0_7 l0_7.length c0_7,.slice A0_8 l0_8.length c0_8,.slice A0_9 l0_9.length c0_9,.slice A0_10 l0_10.length c0_10,.slice A0_11 l0_11.length c0_11,.slice A0_12 l0_12.length c0_12]) (t:=29) ?hr ?_;(case hd=>rfl);(case hg=>rfl);(case hr=>first | (go_simp;done) | (go_simp;rfl));intro gb102 hg w9 hbox hb;have BK102:=ad_ (hbox);have GW102:=ad_ ((by rw [hg];exact (below_size bel_):w.heap.size≤gb102));have GE102:=ad_ ((by rw [hg];exact (below_size bel_):w.heap.size≤gb102));replace HB:=hbb_ hb;clear hb hbox hg;have hcz10_:=cells13_ BK102.out) | ((with_reducible refine gate_callee (f:=13) rfl ?_);refine goesL_ (some 7) rfl rfl Try.func13 (by kernel_rfl) rfl #[.agg #[.int .i64 a0_3,.int .i64 a0_4,.int .i64 a0_5,.int .i64 a0_6,.slice A0_7 l0_7.length c0_7,.slice A0_8 l0_8.length c0_8,.slice A0_9 l0_9.length c0_9]] rfl arg_ ?_;(with_reducible refine (posthornlaw21_Great.calls a0_3 a0_4 a0_5 a0_6 _ _ l0_7 _ _ l0_8 _ _ l0_9 false _ ?_ ?_ ?_ ?_ ?_ ?_ A3.out).mono ?_);exact cop_ (Kd.C_below HR0_7.out HB.out);exact HC0_7.out;exact cop_ (Kd.C_below HR0_8.out HB.out);exact HC0_8.out;exact cop_ (Kd.C_below HR0_9.out HB.out);exact HC0_9.out;rintro e w11 ⟨rfl,hb⟩;refine ⟨_,rfl,?_⟩;replace BK102:=bkb_ BK102 hb;replace HB:=hbb_ hb;(try clear hb);(try clear hb2);(try clear hk);(try clear hi);have hcz12_:=cells13_ BK102.out))
   go_ret
   exact ⟨ret_,belg_⟩
  ·rw [if_neg c8] at H;have c8b0:decide (300 < (l0_10.length:Int))=false:=decide_eq_false c8;have c8b1:decide (300 < l0_10.length)=false:=decide_eq_false (by omega);clear c8
   by_cases c13:(l0_11.length:Int) > 300
   ·rw [if_pos c13] at H;have c13b0:decide (300 < (l0_11.length:Int))=true:=decide_eq_true c13;have c13b1:decide (300 < l0_11.length)=true:=decide_eq_true (by omega);clear c13;obtain rfl:=Option.some.inj H
    go_enter Try.func7,Try.ntmps7
    go_wp2_with (first | ((with_reducible refine gate_dst (N:=2) rfl ?_);(try (refine gate_guard (by rfl) ?_;dsimp only));refine box_event ?hg (N:=2) ?hd (cs:=#[.int .i64 a0_0,.int .i64 a0_1,.bool a0_2,.int .i64 a0_3,.int .i64 a0_4,.int .i64 a0_5,.int .i64 a0_6,.slice A0_7 l0_7.length c0_7,.slice A0_8 l0_8.length c0_8,.slice A0_9 l0_9.length c0_9,.slice A0_10 l0_10.length c0_10,.slice A0_11 l0_11.length c0_11,.slice A0_12 l0_12.length c0_12]) (t:=29) ?hr ?_;(case hd=>rfl);(case hg=>rfl);(case hr=>first | (go_simp;done) | (go_simp;rfl));intro gb102 hg w14 hbox hb;have BK102:=ad_ (hbox);have GW102:=ad_ ((by rw [hg];exact (below_size bel_):w.heap.size≤gb102));have GE102:=ad_ ((by rw [hg];exact (below_size bel_):w.heap.size≤gb102));replace HB:=hbb_ hb;clear hb hbox hg;have hcz15_:=cells13_ BK102.out) | ((with_reducible refine gate_callee (f:=13) rfl ?_);refine goesL_ (some 7) rfl rfl Try.func13 (by kernel_rfl) rfl #[.agg #[.int .i64 a0_3,.int .i64 a0_4,.int .i64 a0_5,.int .i64 a0_6,.slice A0_7 l0_7.length c0_7,.slice A0_8 l0_8.length c0_8,.slice A0_9 l0_9.length c0_9]] rfl arg_ ?_;(with_reducible refine (posthornlaw21_Great.calls a0_3 a0_4 a0_5 a0_6 _ _ l0_7 _ _ l0_8 _ _ l0_9 false _ ?_ ?_ ?_ ?_ ?_ ?_ A3.out).mono ?_);exact cop_ (Kd.C_below HR0_7.out HB.out);exact HC0_7.out;exact cop_ (Kd.C_below HR0_8.out HB.out);exact HC0_8.out;exact cop_ (Kd.C_below HR0_9.out HB.out);exact HC0_9.out;rintro e w16 ⟨rfl,hb⟩;refine ⟨_,rfl,?_⟩;replace BK102:=bkb_ BK102 hb;replace HB:=hbb_ hb;(try clear hb);(try clear hb2);(try clear hk);(try clear hi);have hcz17_:=cells13_ BK102.out))
    go_ret
    exact ⟨ret_,belg_⟩
   ·rw [if_neg c13] at H;have c13b0:decide (300 < (l0_11.length:Int))=false:=decide_eq_false c13;have c13b1:decide (300 < l0_11.length)=false:=decide_eq_false (by omega);clear c13
    by_cases c18:(l0_12.length:Int) > 300
    ·rw [if_pos c18] at H;have c18b0:decide (300 < (l0_12.length:Int))=true:=decide_eq_true c18;have c18b1:decide (300 < l0_12.length)=true:=decide_eq_true (by omega);clear c18;obtain rfl:=Option.some.inj H
     go_enter Try.func7,Try.ntmps7
     go_wp2_with (first | ((with_reducible refine gate_dst (N:=2) rfl ?_);(try (refine gate_guard (by rfl) ?_;dsimp only));refine box_event ?hg (N:=2) ?hd (cs:=#[.int .i64 a0_0,.int .i64 a0_1,.bool a0_2,.int .i64 a0_3,.int .i64 a0_4,.int .i64 a0_5,.int .i64 a0_6,.slice A0_7 l0_7.length c0_7,.slice A0_8 l0_8.length c0_8,.slice A0_9 l0_9.length c0_9,.slice A0_10 l0_10.length c0_10,.slice A0_11 l0_11.length c0_11,.slice A0_12 l0_12.length c0_12]) (t:=29) ?hr ?_;(case hd=>rfl);(case hg=>rfl);(case hr=>first | (go_simp;done) | (go_simp;rfl));intro gb102 hg w19 hbox hb;have BK102:=ad_ (hbox);have GW102:=ad_ ((by rw [hg];exact (below_size bel_):w.heap.size≤gb102));have GE102:=ad_ ((by rw [hg];exact (below_size bel_):w.heap.size≤gb102));replace HB:=hbb_ hb;clear hb hbox hg;have hcz20_:=cells13_ BK102.out) | ((with_reducible refine gate_callee (f:=13) rfl ?_);refine goesL_ (some 7) rfl rfl Try.func13 (by kernel_rfl) rfl #[.agg #[.int .i64 a0_3,.int .i64 a0_4,.int .i64 a0_5,.int .i64 a0_6,.slice A0_7 l0_7.length c0_7,.slice A0_8 l0_8.length c0_8,.slice A0_9 l0_9.length c0_9]] rfl arg_ ?_;(with_reducible refine (posthornlaw21_Great.calls a0_3 a0_4 a0_5 a0_6 _ _ l0_7 _ _ l0_8 _ _ l0_9 false _ ?_ ?_ ?_ ?_ ?_ ?_ A3.out).mono ?_);exact cop_ (Kd.C_below HR0_7.out HB.out);exact HC0_7.out;exact cop_ (Kd.C_below HR0_8.out HB.out);exact HC0_8.out;exact cop_ (Kd.C_below HR0_9.out HB.out);exact HC0_9.out;rintro e w21 ⟨rfl,hb⟩;refine ⟨_,rfl,?_⟩;replace BK102:=bkb_ BK102 hb;replace HB:=hbb_ hb;(try clear hb);(try clear hb2);(try clear hk);(try clear hi);have hcz22_:=cells13_ BK102.out))
     go_ret
     exact ⟨ret_,belg_⟩
    ·rw [if_neg c18] at H;have c18b0:decide (300 < (l0_12.length:Int))=false:=decide_eq_false c18;have c18b1:decide (300 < l0_12.length)=false:=decide_eq_false (by omega);clear c18
     by_cases c23:a0_0 > 4294967296
     ·rw [if_pos c23] at H;have c23b0:decide (4294967296 < a0_0)=true:=decide_eq_true c23;clear c23;obtain rfl:=Option.some.inj H
      go_enter Try.func7,Try.ntmps7
      go_wp2_with (first | ((with_reducible refine gate_dst (N:=2) rfl ?_);(try (refine gate_guard (by rfl) ?_;dsimp only));refine box_event ?hg (N:=2) ?hd (cs:=#[.int .i64 a0_0,.int .i64 a0_1,.bool a0_2,.int .i64 a0_3,.int .i64 a0_4,.int .i64 a0_5,.int .i64 a0_6,.slice A0_7 l0_7.length c0_7,.slice A0_8 l0_8.length c0_8,.slice A0_9 l0_9.length c0_9,.slice A0_10 l0_10.length c0_10,.slice A0_11 l0_11.length c0_11,.slice A0_12 l0_12.length c0_12]) (t:=29) ?hr ?_;(case hd=>rfl);(case hg=>rfl);(case hr=>first | (go_simp;done) | (go_simp;rfl));intro gb102 hg w24 hbox hb;have BK102:=ad_ (hbox);have GW102:=ad_ ((by rw [hg];exact (below_size bel_):w.heap.size≤gb102));have GE102:=ad_ ((by rw [hg];exact (below_size bel_):w.heap.size≤gb102));replace HB:=hbb_ hb;clear hb hbox hg;have hcz25_:=cells13_ BK102.out) | ((with_reducible refine gate_callee (f:=13) rfl ?_);refine goesL_ (some 7) rfl rfl Try.func13 (by kernel_rfl) rfl #[.agg #[.int .i64 a0_3,.int .i64 a0_4,.int .i64 a0_5,.int .i64 a0_6,.slice A0_7 l0_7.length c0_7,.slice A0_8 l0_8.length c0_8,.slice A0_9 l0_9.length c0_9]] rfl arg_ ?_;(with_reducible refine (posthornlaw21_Great.calls a0_3 a0_4 a0_5 a0_6 _ _ l0_7 _ _ l0_8 _ _ l0_9 false _ ?_ ?_ ?_ ?_ ?_ ?_ A3.out).mono ?_);exact cop_ (Kd.C_below HR0_7.out HB.out);exact HC0_7.out;exact cop_ (Kd.C_below HR0_8.out HB.out);exact HC0_8.out;exact cop_ (Kd.C_below HR0_9.out HB.out);exact HC0_9.out;rintro e w26 ⟨rfl,hb⟩;refine ⟨_,rfl,?_⟩;replace BK102:=bkb_ BK102 hb;replace HB:=hbb_ hb;(try clear hb);(try clear hb2);(try clear hk);(try clear hi);have hcz27_:=cells13_ BK102.out))
      go_ret
      exact ⟨ret_,belg_⟩
     ·rw [if_neg c23] at H;have c23b0:decide (4294967296 < a0_0)=false:=decide_eq_false c23;clear c23;obtain rfl:=Option.some.inj H
      go_enter Try.func7,Try.ntmps7
      go_wp2_with (first | ((with_reducible refine gate_dst (N:=2) rfl ?_);(try (refine gate_guard (by rfl) ?_;dsimp only));refine box_event ?hg (N:=2) ?hd (cs:=#[.int .i64 a0_0,.int .i64 a0_1,.bool a0_2,.int .i64 a0_3,.int .i64 a0_4,.int .i64 a0_5,.int .i64 a0_6,.slice A0_7 l0_7.length c0_7,.slice A0_8 l0_8.length c0_8,.slice A0_9 l0_9.length c0_9,.slice A0_10 l0_10.length c0_10,.slice A0_11 l0_11.length c0_11,.slice A0_12 l0_12.length c0_12]) (t:=29) ?hr ?_;(case hd=>rfl);(case hg=>rfl);(case hr=>first | (go_simp;done) | (go_simp;rfl));intro gb102 hg w28 hbox hb;have BK102:=ad_ (hbox);have GW102:=ad_ ((by rw [hg];exact (below_size bel_):w.heap.size≤gb102));have GE102:=ad_ ((by rw [hg];exact (below_size bel_):w.heap.size≤gb102));replace HB:=hbb_ hb;clear hb hbox hg;have hcz29_:=cells13_ BK102.out) | ((with_reducible refine gate_callee (f:=13) rfl ?_);refine goesL_ (some 7) rfl rfl Try.func13 (by kernel_rfl) rfl #[.agg #[.int .i64 a0_3,.int .i64 a0_4,.int .i64 a0_5,.int .i64 a0_6,.slice A0_7 l0_7.length c0_7,.slice A0_8 l0_8.length c0_8,.slice A0_9 l0_9.length c0_9]] rfl arg_ ?_;(with_reducible refine (posthornlaw21_Great.calls a0_3 a0_4 a0_5 a0_6 _ _ l0_7 _ _ l0_8 _ _ l0_9 false _ ?_ ?_ ?_ ?_ ?_ ?_ A3.out).mono ?_);exact cop_ (Kd.C_below HR0_7.out HB.out);exact HC0_7.out;exact cop_ (Kd.C_below HR0_8.out HB.out);exact HC0_8.out;exact cop_ (Kd.C_below HR0_9.out HB.out);exact HC0_9.out;rintro e w30 ⟨rfl,hb⟩;refine ⟨_,rfl,?_⟩;replace BK102:=bkb_ BK102 hb;replace HB:=hbb_ hb;(try clear hb);(try clear hb2);(try clear hk);(try clear hi);have hcz31_:=cells13_ BK102.out))
      go_ret
      exact ⟨ret_,belg_⟩

/-! ### when_Right: function 18 -/
def when_Right.f (a0:Int):Option (Bool):=if a0 ≥ 0 then (some (decide (a0≤253402300799))) else (some false)
set_option maxHeartbeats 8000000 in
set_option maxRecDepth 100000 in
theorem when_Right.calls (a0:Int) (r:Bool) (w:World) (h:when_Right.f a0=some r) :
  Calls Try.prog 18 #[.int .i64 a0] w fun e w'=>e = .returned (.bool r)∧Drawn0 w w':=by
 have H:(if a0 ≥ 0 then (some (decide (a0≤253402300799))) else (some false))=some r:=h;clear h
 by_cases c2:a0 ≥ 0
 ·rw [if_pos c2] at H;have c2b0:decide (0≤a0)=true:=decide_eq_true c2;clear c2;obtain rfl:=Option.some.inj H
  go_enter Try.func18,Try.ntmps18
  go_wp2
  go_ret
  exact ⟨val_,by repeat (first | exact Drawn0.refl _ | apply Drawn0.step)⟩
 ·rw [if_neg c2] at H;have c2b0:decide (0≤a0)=false:=decide_eq_false c2;clear c2;obtain rfl:=Option.some.inj H
  go_enter Try.func18,Try.ntmps18
  go_wp2
  go_ret
  exact ⟨val_,by repeat (first | exact Drawn0.refl _ | apply Drawn0.step)⟩

/-! ### recur_rises: function 37 -/
def recur_rises.l0:Nat→List Int→Int→Int→List Int→Int→Int→Option (Bool)
 | 0,_,_,_,_,_,_=>none
 | k + 1,x0,x1,x2,x9,x10,x11=>if x11 < x10 then (if 0≤x11 then (if x11 < (x9.length:Int) then (if (rd x9 x11) < x1 then (some false) else (if (rd x9 x11) > x2 then (some false) else (if (rd x9 x11)=0 then (some false) else (if x11 > 0 then (if 0≤(wrap64 (x11 - 1)) then (if (wrap64 (x11 - 1)) < (x0.length:Int) then (if (rd x0 (wrap64 (x11 - 1))) ≥ (rd x9 x11) then (some false) else (recur_rises.l0 k x0 x1 x2 x9 x10 (wrap64 (x11 + 1)))) else (none)) else (none)) else (recur_rises.l0 k x0 x1 x2 x9 x10 (wrap64 (x11 + 1))))))) else (none)) else (none)) else (some true)
def recur_rises.f (k:Nat) (l0:List Int) (a1:Int) (a2:Int):Option (Bool):=recur_rises.l0 k l0 a1 a2 l0 (l0.length:Int) 0
theorem recur_rises.mono_l:∀ k,(∀ y0 y1 y2 y3 y4 y5,LeO (recur_rises.l0 k y0 y1 y2 y3 y4 y5) (recur_rises.l0 (k + 1) y0 y1 y2 y3 y4 y5))
 | 0=>fun _ _ _ _ _ _ r h=>by simp [recur_rises.l0] at h
 | k + 1=>by
  have ih0:=recur_rises.mono_l k
  ·intro y0 y1 y2 y3 y4 y5
   unfold recur_rises.l0
   repeat' first
   | (with_reducible exact ih0 ..)
   | (with_reducible exact LeO.refl ..)
   | (with_reducible exact LeO.none ..)
   | (with_reducible refine LeO.ite ?_ ?_)
   | (with_reducible refine LeO.bind ?_ (fun _=>?_))
   | exact ih0 ..
   | exact LeO.none ..
   | refine LeO.ite ?_ ?_
   | refine LeO.bind ?_ (fun _=>?_)
theorem recur_rises.mono:∀ a0 a1 a2 k,LeO (recur_rises.f k a0 a1 a2) (recur_rises.f (k + 1) a0 a1 a2):=by
 intro a0 a1 a2 k;have ih0:=recur_rises.mono_l k
 unfold recur_rises.f
 repeat' first
   | (with_reducible exact ih0 ..)
   | (with_reducible exact LeO.refl ..)
   | (with_reducible exact LeO.none ..)
   | (with_reducible refine LeO.ite ?_ ?_)
   | (with_reducible refine LeO.bind ?_ (fun _=>?_))
   | exact ih0 ..
   | exact LeO.none ..
   | refine LeO.ite ?_ ?_
   | refine LeO.bind ?_ (fun _=>?_)
set_option maxHeartbeats 8000000 in
set_option maxRecDepth 100000 in
theorem recur_rises.calls (k:Nat) (A0:Option Addr) (c0:Nat) (l0:List Int) (a1:Int) (a2:Int) (r:Bool) (w:World) (hr0:Kd.C (Kd.int .i64) w A0 l0.length l0) (hc0:l0.length≤c0) (h:recur_rises.f k l0 a1 a2=some r) :
  Calls Try.prog 37 #[.slice A0 l0.length c0,.int .i64 a1,.int .i64 a2] w fun e w'=>e = .returned (.bool r)∧Drawn0 w w':=by
 have HR0:=Aside0.mk hr0;have HC0:=Aside0.mk hc0;clear hr0 hc0;have H:(recur_rises.l0 k l0 a1 a2 l0 (l0.length:Int) 0)=some r:=h;clear h;have H':=ad_ H;clear H
 go_enter Try.func37,Try.ntmps37
 go_wp2
 go_loopg [11] k (fun kq v11 w'=>∃ (x11_1:Int),v11 = .int .i64 x11_1∧Aside0 (recur_rises.l0 kq l0 a1 a2 l0 (l0.length:Int) x11_1=some r)∧Aside0 (kq≤k)∧Drawn0 w w')
 case atStart=>exact ⟨(0),val_,H',⟨Nat.le_refl _⟩,by repeat (first | exact Drawn0.refl _ | apply Drawn0.step)⟩
 case round =>
  clear H';(try clear p2);(try clear c3);obtain ⟨x11_1,rfl,HA,HK1,⟨m1,rfl⟩⟩:=hrel
  cases gk with
  | zero=>exact absurd HA.out (by simp [recur_rises.l0])
  | succ k1 =>
   have H:=HA.out;clear HA
   simp only [recur_rises.l0] at H
   by_cases c4:x11_1 < (l0.length:Int)
   ·rw [if_pos c4] at H;have c4b0:decide (x11_1 < (l0.length:Int))=true:=decide_eq_true c4;clear c4
    by_cases c5:0≤x11_1
    ·rw [if_pos c5] at H;have c5b0:decide (0≤x11_1)=true:=decide_eq_true c5;clear c5
     by_cases c6:x11_1 < (l0.length:Int)
     ·rw [if_pos c6] at H;have c6b0:decide (x11_1 < (l0.length:Int))=true:=decide_eq_true c6;clear c6
      by_cases c7:(rd l0 x11_1) < a1
      ·rw [if_pos c7] at H;have c7b0:decide ((rd l0 x11_1) < a1)=true:=decide_eq_true c7;clear c7;obtain rfl:=Option.some.inj H;have p104:0≤(x11_1:Int):=dec_;have q104:x11_1 < (l0.length:Int):=dec_;obtain ⟨ad104,e104,hx104_0⟩:=Kd.at_int HR0.out x11_1 p104 q104
       cases e104
       replace p104:=eq_true p104;replace q104:=eq_true q104
       go_wp2
       go_ret
       exact ⟨val_,by repeat (first | exact Drawn0.refl _ | apply Drawn0.step)⟩
      ·rw [if_neg c7] at H;have c7b0:decide ((rd l0 x11_1) < a1)=false:=decide_eq_false c7;clear c7
       by_cases c8:(rd l0 x11_1) > a2
       ·rw [if_pos c8] at H;have c8b0:decide (a2 < (rd l0 x11_1))=true:=decide_eq_true c8;clear c8;obtain rfl:=Option.some.inj H;have p104:0≤(x11_1:Int):=dec_;have q104:x11_1 < (l0.length:Int):=dec_;obtain ⟨ad104,e104,hx104_0⟩:=Kd.at_int HR0.out x11_1 p104 q104
        cases e104
        replace p104:=eq_true p104;replace q104:=eq_true q104
        go_wp2
        go_ret
        exact ⟨val_,by repeat (first | exact Drawn0.refl _ | apply Drawn0.step)⟩
       ·rw [if_neg c8] at H;have c8b0:decide (a2 < (rd l0 x11_1))=false:=decide_eq_false c8;clear c8
        by_cases c9:(rd l0 x11_1)=0
        ·rw [if_pos c9] at H;have c9b0:((rd l0 x11_1) == 0)=true:=beq_iff_eq.mpr c9;have c9b1:((rd l0 x11_1) != 0)=false:=bne_eq_false_iff_eq.mpr c9;clear c9;obtain rfl:=Option.some.inj H;have p104:0≤(x11_1:Int):=dec_;have q104:x11_1 < (l0.length:Int):=dec_;obtain ⟨ad104,e104,hx104_0⟩:=Kd.at_int HR0.out x11_1 p104 q104
         cases e104
         replace p104:=eq_true p104;replace q104:=eq_true q104
         go_wp2
         go_ret
         exact ⟨val_,by repeat (first | exact Drawn0.refl _ | apply Drawn0.step)⟩
        ·rw [if_neg c9] at H;have c9b0:((rd l0 x11_1) == 0)=false:=beq_eq_false_iff_ne.mpr c9;have c9b1:((rd l0 x11_1) != 0)=true:=bne_iff_ne.mpr c9
         by_cases c10:x11_1 > 0
         ·rw [if_pos c10] at H;have c10b0:decide (0 < x11_1)=true:=decide_eq_true c10;clear c10;obtain ⟨ji11,hji11⟩:∃ j_:Int,(wrap64 (x11_1 - 1))=j_:=⟨_,rfl⟩
          replace H:(if 0≤(ji11) then (if (ji11) < (l0.length:Int) then (if (rd l0 (ji11)) ≥ (rd l0 x11_1) then (some false) else (recur_rises.l0 k1 l0 a1 a2 l0 (l0.length:Int) (wrap64 (x11_1 + 1)))) else (none)) else (none))=some r:=by first | (rw [hji11] at H;exact H) | (simp only [hji11] at H ⊢;exact H)
          have hji11w:(IntKind.i64.wrap (x11_1 - 1))=ji11:=(i64_w _).trans hji11
          by_cases c12:0≤(ji11)
          ·rw [if_pos c12] at H;have c12b0:decide (0≤(ji11))=true:=decide_eq_true c12;clear c12
           by_cases c13:(ji11) < (l0.length:Int)
           ·rw [if_pos c13] at H;have c13b0:decide ((ji11) < (l0.length:Int))=true:=decide_eq_true c13;clear c13
            by_cases c14:(rd l0 (ji11)) ≥ (rd l0 x11_1)
            ·rw [if_pos c14] at H;have c14b0:decide ((rd l0 x11_1)≤(rd l0 (ji11)))=true:=decide_eq_true c14;clear c14;obtain rfl:=Option.some.inj H;have p104:0≤(x11_1:Int):=dec_;have q104:x11_1 < (l0.length:Int):=dec_;obtain ⟨ad104,e104,hx104_0⟩:=Kd.at_int HR0.out x11_1 p104 q104
             cases e104
             replace p104:=eq_true p104;replace q104:=eq_true q104;have p105:0≤((ji11):Int):=dec_;have q105:(ji11) < (l0.length:Int):=dec_;obtain ⟨ad105,e105,hx105_0⟩:=Kd.at_int HR0.out (ji11) p105 q105;obtain rfl:ad104=ad105:=(by injection e105);replace p105:=eq_true p105;replace q105:=eq_true q105
             go_wp2
             go_ret
             exact ⟨by first | rfl | (simp;done) | (simp only [← hji11] <;> (first | rfl | simp)) | (simp [*];done),by repeat (first | exact Drawn0.refl _ | apply Drawn0.step)⟩
            ·rw [if_neg c14] at H;have c14b0:decide ((rd l0 x11_1)≤(rd l0 (ji11)))=false:=decide_eq_false c14;clear c14;have H':=ad_ H;clear H;have p104:0≤(x11_1:Int):=dec_;have q104:x11_1 < (l0.length:Int):=dec_;obtain ⟨ad104,e104,hx104_0⟩:=Kd.at_int HR0.out x11_1 p104 q104
             cases e104
             replace p104:=eq_true p104;replace q104:=eq_true q104;have p105:0≤((ji11):Int):=dec_;have q105:(ji11) < (l0.length:Int):=dec_;obtain ⟨ad105,e105,hx105_0⟩:=Kd.at_int HR0.out (ji11) p105 q105;obtain rfl:ad104=ad105:=(by injection e105);replace p105:=eq_true p105;replace q105:=eq_true q105
             go_wp2
             go_roundg k1
             case measure=>have:=HK1.out;omega
             case rel=>exact ⟨(wrap64 (x11_1 + 1)),val_,H',⟨by have:=HK1.out;omega⟩,by repeat (first | exact Drawn0.refl _ | apply Drawn0.step)⟩
           ·rw [if_neg c13] at H;exact absurd H (by simp)
          ·rw [if_neg c12] at H;exact absurd H (by simp)
         ·rw [if_neg c10] at H;have c10b0:decide (0 < x11_1)=false:=decide_eq_false c10;clear c10;have H':=ad_ H;clear H;have p104:0≤(x11_1:Int):=dec_;have q104:x11_1 < (l0.length:Int):=dec_;obtain ⟨ad104,e104,hx104_0⟩:=Kd.at_int HR0.out x11_1 p104 q104
          cases e104
          replace p104:=eq_true p104;replace q104:=eq_true q104
          go_wp2
          go_roundg k1
          case measure=>have:=HK1.out;omega
          case rel=>exact ⟨(wrap64 (x11_1 + 1)),val_,H',⟨by have:=HK1.out;omega⟩,by repeat (first | exact Drawn0.refl _ | apply Drawn0.step)⟩
     ·rw [if_neg c6] at H;exact absurd H (by simp)
    ·rw [if_neg c5] at H;exact absurd H (by simp)
   ·rw [if_neg c4] at H;have c4b0:decide (x11_1 < (l0.length:Int))=false:=decide_eq_false c4;clear c4;obtain rfl:=Option.some.inj H
    go_wp2
    go_ret
    exact ⟨val_,by repeat (first | exact Drawn0.refl _ | apply Drawn0.step)⟩

/-! ### recur_order: function 38 -/
def recur_order.f (a0_0:Int) (a0_1:Int) (a1_0:Int) (a1_1:Int):Option (Int):=if a0_0=a1_0 then (some (wrap64 (a0_1 - a1_1))) else (some (wrap64 (a0_0 - a1_0)))
set_option maxHeartbeats 8000000 in
set_option maxRecDepth 100000 in
theorem recur_order.calls (a0_0:Int) (a0_1:Int) (a1_0:Int) (a1_1:Int) (r:Int) (w:World) (h:recur_order.f a0_0 a0_1 a1_0 a1_1=some r) :
  Calls Try.prog 38 #[.agg #[.int .i64 a0_0,.int .i64 a0_1],.agg #[.int .i64 a1_0,.int .i64 a1_1]] w fun e w'=>e = .returned (.int .i64 r)∧Below w.heap.size w w':=by
 have hu78:=Try.underlying78;have HB:=ad_ (Below.refl w.heap.size w);have H:(if a0_0=a1_0 then (some (wrap64 (a0_1 - a1_1))) else (some (wrap64 (a0_0 - a1_0))))=some r:=h;clear h
 by_cases c3:a0_0=a1_0
 ·rw [if_pos c3] at H;have c3b0:(a0_0 == a1_0)=true:=beq_iff_eq.mpr c3;have c3b1:(a0_0 != a1_0)=false:=bne_eq_false_iff_eq.mpr c3;clear c3;obtain rfl:=Option.some.inj H
  go_enter Try.func38,Try.ntmps38
  go_wp2_with (first | ((with_reducible refine gate_dst (N:=2) rfl ?_);refine box_event ?hg (N:=2) ?hd (cs:=#[.int .i64 a0_0,.int .i64 a0_1]) (t:=78) ?hr ?_;(case hd=>rfl);(case hg=>rfl);(case hr=>first | (go_simp;done) | (go_simp;rfl));intro gb106 hg w4 hbox hb;have BK106:=ad_ (hbox);have GW106:=ad_ ((by rw [hg];exact (below_size bel_):w.heap.size≤gb106));have GE106:=ad_ ((by rw [hg];exact (below_size bel_):w.heap.size≤gb106));replace HB:=hbb_ hb;clear hb hbox hg) | ((with_reducible refine gate_dst (N:=3) rfl ?_);refine box_event ?hg (N:=3) ?hd (cs:=#[.int .i64 a1_0,.int .i64 a1_1]) (t:=78) ?hr ?_;(case hd=>rfl);(case hg=>rfl);(case hr=>first | (go_simp;done) | (go_simp;rfl));intro gb107 hg w5 hbox hb;have BK107:=ad_ (hbox);have GW107:=ad_ ((by rw [hg];exact (below_size belg_):w.heap.size≤gb107));have GE107:=ad_ ((by rw [hg];exact (below_size belg_):w.heap.size≤gb107));replace HB:=hbb_ hb;have NB106_107:=ad_ ((by rw [hg];exact Nat.ne_of_lt (blk_lt (g:=gb106) (blo_ BK106.out)):gb106≠gb107));have NB107_106:=ad_ ((by rw [hg];exact Nat.ne_of_gt (blk_lt (g:=gb106) (blo_ BK106.out)):gb107≠gb106));replace BK106:=bkb_ BK106 hb;clear hb hbox hg;have hnb6:=NB106_107.out;have hnc6:=NB107_106.out;have hcz7_:=cells2_ BK106.out;have hcz8_:=cells2_ BK107.out))
  go_ret
  exact ⟨ret_,belg_⟩
 ·rw [if_neg c3] at H;have c3b0:(a0_0 == a1_0)=false:=beq_eq_false_iff_ne.mpr c3;have c3b1:(a0_0 != a1_0)=true:=bne_iff_ne.mpr c3;obtain rfl:=Option.some.inj H
  go_enter Try.func38,Try.ntmps38
  go_wp2_with (first | ((with_reducible refine gate_dst (N:=2) rfl ?_);refine box_event ?hg (N:=2) ?hd (cs:=#[.int .i64 a0_0,.int .i64 a0_1]) (t:=78) ?hr ?_;(case hd=>rfl);(case hg=>rfl);(case hr=>first | (go_simp;done) | (go_simp;rfl));intro gb106 hg w9 hbox hb;have BK106:=ad_ (hbox);have GW106:=ad_ ((by rw [hg];exact (below_size bel_):w.heap.size≤gb106));have GE106:=ad_ ((by rw [hg];exact (below_size bel_):w.heap.size≤gb106));replace HB:=hbb_ hb;clear hb hbox hg) | ((with_reducible refine gate_dst (N:=3) rfl ?_);refine box_event ?hg (N:=3) ?hd (cs:=#[.int .i64 a1_0,.int .i64 a1_1]) (t:=78) ?hr ?_;(case hd=>rfl);(case hg=>rfl);(case hr=>first | (go_simp;done) | (go_simp;rfl));intro gb107 hg w10 hbox hb;have BK107:=ad_ (hbox);have GW107:=ad_ ((by rw [hg];exact (below_size belg_):w.heap.size≤gb107));have GE107:=ad_ ((by rw [hg];exact (below_size belg_):w.heap.size≤gb107));replace HB:=hbb_ hb;have NB106_107:=ad_ ((by rw [hg];exact Nat.ne_of_lt (blk_lt (g:=gb106) (blo_ BK106.out)):gb106≠gb107));have NB107_106:=ad_ ((by rw [hg];exact Nat.ne_of_gt (blk_lt (g:=gb106) (blo_ BK106.out)):gb107≠gb106));replace BK106:=bkb_ BK106 hb;clear hb hbox hg;have hnb11:=NB106_107.out;have hnc11:=NB107_106.out;have hcz12_:=cells2_ BK106.out;have hcz13_:=cells2_ BK107.out))
  go_ret
  exact ⟨ret_,belg_⟩

end Go.Proofs.Ytkgkblmeafhkfaa.PS

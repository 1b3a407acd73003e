-- Written by a program of the session (wip/tools).
import Derived.Test.YtkgkblmeafhkfaaPSx0
import Derived.Test.YtkgkblmeafhkfaaPSx4
import Derived.Test.YtkgkblmeafhkfaaPSx5
import Derived.Test.YtkgkblmeafhkfaaPSx6
namespace Go.Proofs.Ytkgkblmeafhkfaa.PS
open Go.RowKit Go.Proofs.YtkgkblmeafhkfaaW.PrintWords Go.Proofs.YtkgkblmeafhkfaaW.PrintLast Go.Proofs.YtkgkblmeafhkfaaW.PrintMore
attribute [local go_sem] max2_int min2_int max_two min_two max_three min_three max_four min_four   -- for this text's walks alone
set_option linter.unusedVariables false
set_option linter.unusedSimpArgs false

/-! ### series_Right: function 17 -/
mutual
def series_Right.j0:Nat→Bool→Int→Int→Bool→Int→Int→Int→Int→List Int→List Int→List (S78)→List Int→List Int→List (S39)→Option (Bool)
 | 0,_,_,_,_,_,_,_,_,_,_,_,_,_,_=>none
 | k + 1,x30,x126000,x126001,x126002,x126003,x126004,x126005,x126006,x126007,x126008,x126009,x126010,x126011,x126012=>if x30=true then (some false) else (series_Right.l0 k ([]:List Int) x126012 (x126012.length:Int) 0 x126000 x126001 x126002 x126003 x126004 x126005 x126006 x126007 x126008 x126009 x126010 x126011 x126012)
def series_Right.l0:Nat→List Int→List (S39)→Int→Int→Int→Int→Bool→Int→Int→Int→Int→List Int→List Int→List (S78)→List Int→List Int→List (S39)→Option (Bool)
 | 0,_,_,_,_,_,_,_,_,_,_,_,_,_,_,_,_,_=>none
 | k + 1,x3,x32,x33,x34,x126000,x126001,x126002,x126003,x126004,x126005,x126006,x126007,x126008,x126009,x126010,x126011,x126012=>if x34 < x33 then (if 0≤x34 then (if x34 < (x32.length:Int) then ((series_Change_right.f ((rd_T39 x32 x34).f0) ((rd_T39 x32 x34).f1) ((rd_T39 x32 x34).f2) ((rd_T39 x32 x34).f3)).bind fun t130=>(if t130=true then (if x3.length < 17592186044416 then (series_Right.l0 k (x3 ++ [(rd_T39 x32 x34).f0]) x32 x33 (wrap64 (x34 + 1)) x126000 x126001 x126002 x126003 x126004 x126005 x126006 x126007 x126008 x126009 x126010 x126011 x126012) else (none)) else (some false))) else (none)) else (none)) else ((when_Right.f x126000).bind fun t134=>(if t134=true then ((series_isLong.f x126001).bind fun t135=>(if t135=true then ((series_rises.f k x126010).bind fun t136=>(if t136=true then ((series_rises.f k x126011).bind fun t137=>(if t137=true then ((series_rises.f k x3).bind fun t138=>(some t138)) else (some false))) else (some false))) else (some false))) else (some false)))
end
def series_Right.f (k:Nat) (a0_0:Int) (a0_1:Int) (a0_2:Bool) (a0_3:Int) (a0_4:Int) (a0_5:Int) (a0_6:Int) (l0_7:List Int) (l0_8:List Int) (l0_9:List (S78)) (l0_10:List Int) (l0_11:List Int) (l0_12:List (S39)):Option (Bool):=if (l0_12.length:Int) > 256 then (series_Right.j0 k true a0_0 a0_1 a0_2 a0_3 a0_4 a0_5 a0_6 l0_7 l0_8 l0_9 l0_10 l0_11 l0_12) else (if a0_2=true then ((recur_Right.f k a0_3 a0_4 a0_5 a0_6 l0_7 l0_8 l0_9).bind fun t126=>(if t126=true then (series_Right.j0 k false a0_0 a0_1 a0_2 a0_3 a0_4 a0_5 a0_6 l0_7 l0_8 l0_9 l0_10 l0_11 l0_12) else (series_Right.j0 k true a0_0 a0_1 a0_2 a0_3 a0_4 a0_5 a0_6 l0_7 l0_8 l0_9 l0_10 l0_11 l0_12))) else ((series_zero.f a0_3 a0_4 a0_5 a0_6 l0_7 l0_8 l0_9).bind fun t127=>(series_Right.j0 k (!t127) a0_0 a0_1 a0_2 a0_3 a0_4 a0_5 a0_6 l0_7 l0_8 l0_9 l0_10 l0_11 l0_12)))
theorem series_Right.mono_l:∀ k,(∀ y0 y1 y2 y3 y4 y5 y6 y7 y8 y9 y10 y11 y12 y13,LeO (series_Right.j0 k y0 y1 y2 y3 y4 y5 y6 y7 y8 y9 y10 y11 y12 y13) (series_Right.j0 (k + 1) y0 y1 y2 y3 y4 y5 y6 y7 y8 y9 y10 y11 y12 y13))∧(∀ y0 y1 y2 y3 y4 y5 y6 y7 y8 y9 y10 y11 y12 y13 y14 y15 y16,LeO (series_Right.l0 k y0 y1 y2 y3 y4 y5 y6 y7 y8 y9 y10 y11 y12 y13 y14 y15 y16) (series_Right.l0 (k + 1) y0 y1 y2 y3 y4 y5 y6 y7 y8 y9 y10 y11 y12 y13 y14 y15 y16))
 | 0=>⟨fun _ _ _ _ _ _ _ _ _ _ _ _ _ _ r h=>by simp [series_Right.j0] at h,fun _ _ _ _ _ _ _ _ _ _ _ _ _ _ _ _ _ r h=>by simp [series_Right.l0] at h⟩
 | k + 1=>by
  obtain ⟨ih0,ih1⟩:=series_Right.mono_l k
  refine ⟨?_,?_⟩
  all_goals
   intros
   first | unfold series_Right.j0 | unfold series_Right.l0
   repeat' first
   | (with_reducible exact ih0 ..)
   | (with_reducible exact ih1 ..)
   | (with_reducible exact recur_Right.mono ..)
   | (with_reducible exact series_rises.mono ..)
   | (with_reducible exact LeO.refl ..)
   | (with_reducible exact LeO.none ..)
   | (with_reducible refine LeO.ite ?_ ?_)
   | (with_reducible refine LeO.bind ?_ (fun _=>?_))
   | exact ih0 ..
   | exact ih1 ..
   | exact recur_Right.mono ..
   | exact series_rises.mono ..
   | exact LeO.none ..
   | refine LeO.ite ?_ ?_
   | refine LeO.bind ?_ (fun _=>?_)
theorem series_Right.mono:∀ a0 a1 a2 a3 a4 a5 a6 a7 a8 a9 a10 a11 a12 k,LeO (series_Right.f k a0 a1 a2 a3 a4 a5 a6 a7 a8 a9 a10 a11 a12) (series_Right.f (k + 1) a0 a1 a2 a3 a4 a5 a6 a7 a8 a9 a10 a11 a12):=by
 intro a0 a1 a2 a3 a4 a5 a6 a7 a8 a9 a10 a11 a12 k;obtain ⟨ih0,ih1⟩:=series_Right.mono_l k
 unfold series_Right.f
 repeat' first
   | (with_reducible exact ih0 ..)
   | (with_reducible exact ih1 ..)
   | (with_reducible exact recur_Right.mono ..)
   | (with_reducible exact series_rises.mono ..)
   | (with_reducible exact LeO.refl ..)
   | (with_reducible exact LeO.none ..)
   | (with_reducible refine LeO.ite ?_ ?_)
   | (with_reducible refine LeO.bind ?_ (fun _=>?_))
   | exact ih0 ..
   | exact ih1 ..
   | exact recur_Right.mono ..
   | exact series_rises.mono ..
   | exact LeO.none ..
   | refine LeO.ite ?_ ?_
   | refine LeO.bind ?_ (fun _=>?_)
set_option maxHeartbeats 8000000 in
set_option maxRecDepth 100000 in
theorem series_Right.calls (k:Nat) (a0_0:Int) (a0_1:Int) (a0_2:Bool) (a0_3:Int) (a0_4:Int) (a0_5:Int) (a0_6:Int) (A0_7:Option Addr) (c0_7:Nat) (l0_7:List Int) (A0_8:Option Addr) (c0_8:Nat) (l0_8:List Int) (A0_9:Option Addr) (c0_9:Nat) (l0_9:List (S78)) (A0_10:Option Addr) (c0_10:Nat) (l0_10:List Int) (A0_11:Option Addr) (c0_11:Nat) (l0_11:List Int) (A0_12:Option Addr) (c0_12:Nat) (l0_12:List (S39)) (r:Bool) (w:World) (hr0_7:Kd.C (Kd.int .i64) w A0_7 l0_7.length l0_7) (hc0_7:l0_7.length≤c0_7) (hr0_8:Kd.C (Kd.int .i64) w A0_8 l0_8.length l0_8) (hc0_8:l0_8.length≤c0_8) (hr0_9:Kd.C k78 w A0_9 l0_9.length l0_9) (hc0_9:l0_9.length≤c0_9) (hr0_10:Kd.C (Kd.int .i64) w A0_10 l0_10.length l0_10) (hc0_10:l0_10.length≤c0_10) (hr0_11:Kd.C (Kd.int .i64) w A0_11 l0_11.length l0_11) (hc0_11:l0_11.length≤c0_11) (hr0_12:Kd.C k39 w A0_12 l0_12.length l0_12) (hc0_12:l0_12.length≤c0_12) (h:series_Right.f k a0_0 a0_1 a0_2 a0_3 a0_4 a0_5 a0_6 l0_7 l0_8 l0_9 l0_10 l0_11 l0_12=some r) :
  Calls Try.prog 17 #[.agg #[.int .i64 a0_0,.int .i64 a0_1,.bool a0_2,.int .i64 a0_3,.int .i64 a0_4,.int .i64 a0_5,.int .i64 a0_6,.slice A0_7 l0_7.length c0_7,.slice A0_8 l0_8.length c0_8,.slice A0_9 l0_9.length c0_9,.slice A0_10 l0_10.length c0_10,.slice A0_11 l0_11.length c0_11,.slice A0_12 l0_12.length c0_12]] w fun e w'=>e = .returned (.bool r)∧Below w.heap.size w w':=by
 have hu29:=Try.underlying29;have hu25:=Try.underlying25;have hu39:=Try.underlying39;have HR0_7:=Aside0.mk hr0_7;have HC0_7:=Aside0.mk hc0_7;clear hr0_7 hc0_7;have HR0_8:=Aside0.mk hr0_8;have HC0_8:=Aside0.mk hc0_8;clear hr0_8 hc0_8;have HR0_9:=Aside0.mk hr0_9;have HC0_9:=Aside0.mk hc0_9;clear hr0_9 hc0_9;have HR0_10:=Aside0.mk hr0_10;have HC0_10:=Aside0.mk hc0_10;clear hr0_10 hc0_10;have HR0_11:=Aside0.mk hr0_11;have HC0_11:=Aside0.mk hc0_11;clear hr0_11 hc0_11;have HR0_12:=Aside0.mk hr0_12;have HC0_12:=Aside0.mk hc0_12;clear hr0_12 hc0_12;have HB:=ad_ (Below.refl w.heap.size w);have H:(if (l0_12.length:Int) > 256 then (series_Right.j0 k true a0_0 a0_1 a0_2 a0_3 a0_4 a0_5 a0_6 l0_7 l0_8 l0_9 l0_10 l0_11 l0_12) else (if a0_2=true then ((recur_Right.f k a0_3 a0_4 a0_5 a0_6 l0_7 l0_8 l0_9).bind fun t126=>(if t126=true then (series_Right.j0 k false a0_0 a0_1 a0_2 a0_3 a0_4 a0_5 a0_6 l0_7 l0_8 l0_9 l0_10 l0_11 l0_12) else (series_Right.j0 k true a0_0 a0_1 a0_2 a0_3 a0_4 a0_5 a0_6 l0_7 l0_8 l0_9 l0_10 l0_11 l0_12))) else ((series_zero.f a0_3 a0_4 a0_5 a0_6 l0_7 l0_8 l0_9).bind fun t127=>(series_Right.j0 k (!t127) a0_0 a0_1 a0_2 a0_3 a0_4 a0_5 a0_6 l0_7 l0_8 l0_9 l0_10 l0_11 l0_12))))=some r:=h;clear h;have HC2:=Aside0.mk H;clear H
 go_enter Try.func17,Try.ntmps17
 go_upto_region 1 with (first | ((with_reducible refine gate_dst (N:=1) rfl ?_);refine box_event ?hg (N:=1) ?hd (cs:=#[.int .i64 a0_0,.int .i64 a0_1,.bool a0_2,.int .i64 a0_3,.int .i64 a0_4,.int .i64 a0_5,.int .i64 a0_6,.slice A0_7 l0_7.length c0_7,.slice A0_8 l0_8.length c0_8,.slice A0_9 l0_9.length c0_9,.slice A0_10 l0_10.length c0_10,.slice A0_11 l0_11.length c0_11,.slice A0_12 l0_12.length c0_12]) (t:=29) ?hr ?_;(case hd=>rfl);(case hg=>rfl);(case hr=>first | (go_simp;done) | (go_simp;rfl));intro gb125 hg w3 hbox hb;have BK125:=ad_ (hbox);have GW125:=ad_ ((by rw [hg];exact (below_size bel_):w.heap.size≤gb125));have GE125:=ad_ ((by rw [hg];exact (below_size bel_):w.heap.size≤gb125));replace HB:=hbb_ hb;clear hb hbox hg))
 (try simp only [Act.put,List.setIfInBounds_toArray,List.set_cons_zero,List.set_cons_succ])
 go_cut [30] (fun v30 wc=>∃ (kq:Nat) (x30_1:Bool),v30 = .bool x30_1∧Aside0 (series_Right.j0 kq x30_1 a0_0 a0_1 a0_2 a0_3 a0_4 a0_5 a0_6 l0_7 l0_8 l0_9 l0_10 l0_11 l0_12=some r)∧Aside0 (kq≤k)∧Aside0 (wc.heap[gb125]? = some (.cells #[.int .i64 a0_0,.int .i64 a0_1,.bool a0_2,.int .i64 a0_3,.int .i64 a0_4,.int .i64 a0_5,.int .i64 a0_6,(.slice A0_7 l0_7.length c0_7),(.slice A0_8 l0_8.length c0_8),(.slice A0_9 l0_9.length c0_9),(.slice A0_10 l0_10.length c0_10),(.slice A0_11 l0_11.length c0_11),(.slice A0_12 l0_12.length c0_12)] 29 (0,0)))∧Aside0 (Below w.heap.size w wc))
 case first =>
  have H:=HC2.out;clear HC2
  by_cases c4:(l0_12.length:Int) > 256
  ·rw [if_pos c4] at H;have c4b0:decide (256 < (l0_12.length:Int))=true:=decide_eq_true c4;have c4b1:decide (256 < l0_12.length)=true:=decide_eq_true (by omega);clear c4
   (first | rw [c4b0] | (simp only [i64_w,i32_w];rw [c4b0]) | skip)
   have H':=ad_ H;clear H;have hcz5_:=cells13_ BK125.out
   go_wp2
   go_meet
   case rel=>exact ⟨_,(true),val_,H',⟨by first | omega | exact Nat.le_refl _⟩,⟨blo_ BK125.out⟩,⟨belg_⟩⟩
  ·rw [if_neg c4] at H;have c4b0:decide (256 < (l0_12.length:Int))=false:=decide_eq_false c4;have c4b1:decide (256 < l0_12.length)=false:=decide_eq_false (by omega);clear c4
   (first | rw [c4b0] | (simp only [i64_w,i32_w];rw [c4b0]) | skip)
   by_cases c6:a0_2=true
   ·subst c6;replace H:=ifp_ H;replace H:=Option.bind_eq_some_iff.mp H;obtain ⟨t126,A70,H⟩:=H
    try dsimp only at H
    have A7:=ad_ A70;clear A70
    by_cases c8:t126=true
    ·subst c8;replace H:=ifp_ H;have H':=ad_ H;clear H;have hcz9_:=cells13_ BK125.out
     go_wp2_with (first | (go_at_call 23;(with_reducible refine (recur_Right.calls k a0_3 a0_4 a0_5 a0_6 _ _ l0_7 _ _ l0_8 _ _ l0_9 true _ ?_ ?_ ?_ ?_ ?_ ?_ A7.out).mono ?_);exact cop_ (Kd.C_below HR0_7.out HB.out);exact HC0_7.out;exact cop_ (Kd.C_below HR0_8.out HB.out);exact HC0_8.out;exact cop_ (Kd.C_below HR0_9.out HB.out);exact HC0_9.out;rintro e w10 ⟨rfl,hb⟩;replace BK125:=bkb_ BK125 hb;replace HB:=hbb_ hb;(try clear hb);(try clear hb2);(try clear hk);(try clear hi);have hcz11_:=cells13_ BK125.out))
     go_meet
     case rel=>exact ⟨_,(false),val_,H',⟨by first | omega | exact Nat.le_refl _⟩,⟨blo_ BK125.out⟩,⟨belg_⟩⟩
    ·replace c8:=Bool.eq_false_iff.mpr c8;subst c8;replace H:=ifn_ H;have H':=ad_ H;clear H;have hcz12_:=cells13_ BK125.out
     go_wp2_with (first | (go_at_call 23;(with_reducible refine (recur_Right.calls k a0_3 a0_4 a0_5 a0_6 _ _ l0_7 _ _ l0_8 _ _ l0_9 false _ ?_ ?_ ?_ ?_ ?_ ?_ A7.out).mono ?_);exact cop_ (Kd.C_below HR0_7.out HB.out);exact HC0_7.out;exact cop_ (Kd.C_below HR0_8.out HB.out);exact HC0_8.out;exact cop_ (Kd.C_below HR0_9.out HB.out);exact HC0_9.out;rintro e w13 ⟨rfl,hb⟩;replace BK125:=bkb_ BK125 hb;replace HB:=hbb_ hb;(try clear hb);(try clear hb2);(try clear hk);(try clear hi)))
     go_meet
     case rel=>exact ⟨_,(true),val_,H',⟨by first | omega | exact Nat.le_refl _⟩,⟨blo_ BK125.out⟩,⟨belg_⟩⟩
   ·replace c6:=Bool.eq_false_iff.mpr c6;subst c6;replace H:=ifn_ H;replace H:=Option.bind_eq_some_iff.mp H;obtain ⟨t127,A140,H⟩:=H
    try dsimp only at H
    have A14:=ad_ A140;clear A140;have H':=ad_ H;clear H;have hcz15_:=cells13_ BK125.out
    go_wp2_with (first | (go_at_call 24;(with_reducible refine (series_zero.calls a0_3 a0_4 a0_5 a0_6 _ _ l0_7 _ _ l0_8 _ _ l0_9 t127 _ ?_ ?_ ?_ ?_ ?_ ?_ A14.out).mono ?_);exact cop_ (Kd.C_below HR0_7.out HB.out);exact HC0_7.out;exact cop_ (Kd.C_below HR0_8.out HB.out);exact HC0_8.out;exact cop_ (Kd.C_below HR0_9.out HB.out);exact HC0_9.out;rintro e w16 ⟨rfl,hb⟩;replace BK125:=bkb_ BK125 hb;replace HB:=hbb_ hb;(try clear hb);(try clear hb2);(try clear hk);(try clear hi)))
    go_meet
    case rel=>exact ⟨_,(!t127),val_,H',⟨by first | omega | exact Nat.le_refl _⟩,⟨blo_ BK125.out⟩,⟨belg_⟩⟩
 case rest =>
  clear HC2;(try clear c1);(try clear p2);(try clear c4);(try clear c4b0);(try clear c4b1);(try clear c6);(try clear c8);(try clear hcz11_);(try clear hcz12_);(try clear hcz15_);(try clear hcz5_);(try clear hcz9_);obtain ⟨kq,x30_1,rfl,HA,HJ1,BK125,HB⟩:=hcut
  cases kq with
  | zero=>exact absurd HA.out (by simp [series_Right.j0])
  | succ kj1 =>
   have H:=HA.out;clear HA
   simp only [series_Right.j0] at H
   by_cases c17:x30_1=true
   ·subst c17;replace H:=ifp_ H;obtain rfl:=Option.some.inj H
    go_wp2
    go_ret
    exact ⟨ret_,belg_⟩
   ·replace c17:=Bool.eq_false_iff.mpr c17;subst c17;replace H:=ifn_ H;have H':=ad_ H;clear H;have hcz18_:=cells13_ BK125.out
    go_wp2
    go_loopg [3,34] kj1 (fun kq v3 v34 w'=>∃ (x3_2:List Int) (x34_2:Int),v34 = .int .i64 x34_2∧Aside0 (series_Right.l0 kq x3_2 l0_12 (l0_12.length:Int) x34_2 a0_0 a0_1 a0_2 a0_3 a0_4 a0_5 a0_6 l0_7 l0_8 l0_9 l0_10 l0_11 l0_12=some r)∧Aside0 (kq≤kj1)∧Aside0 (Kd.R (Kd.int .i64) 2 w' w.heap.size (fun _=>True) v3 x3_2)∧Aside0 (w'.heap[gb125]? = some (.cells #[.int .i64 a0_0,.int .i64 a0_1,.bool a0_2,.int .i64 a0_3,.int .i64 a0_4,.int .i64 a0_5,.int .i64 a0_6,(.slice A0_7 l0_7.length c0_7),(.slice A0_8 l0_8.length c0_8),(.slice A0_9 l0_9.length c0_9),(.slice A0_10 l0_10.length c0_10),(.slice A0_11 l0_11.length c0_11),(.slice A0_12 l0_12.length c0_12)] 29 (0,0)))∧Aside0 (Below w.heap.size w w'))
    case atStart=>exact ⟨(([]:List Int)),(0),val_,H',⟨Nat.le_refl _⟩,⟨by first | exact Kd.R_nil _ _ _ _ _ | exact Kd.N_nil _ _ _ _ _ | exact Kd.V_nil _ _ _ _ _ | exact Kd.Q_nil _ _ _ _ _ | exact Kd.S_nil _ _ _ _ _⟩,⟨blo_ BK125.out⟩,⟨belg_⟩⟩
    case round =>
     clear H';(try clear c1);(try clear p2);(try clear c4);(try clear c4b0);(try clear c4b1);(try clear c6);(try clear c8);(try clear c17);(try clear hcz11_);(try clear hcz12_);(try clear hcz15_);(try clear hcz18_);(try clear hcz5_);(try clear hcz9_);(try clear p2);obtain ⟨x3_2,x34_2,rfl,HA,HK2,HO_3,BK125,HB⟩:=hrel
     cases gk with
     | zero=>exact absurd HA.out (by simp [series_Right.l0])
     | succ k2 =>
      have H:=HA.out;clear HA
      simp only [series_Right.l0] at H
      by_cases c19:x34_2 < (l0_12.length:Int)
      ·rw [if_pos c19] at H;have c19b0:decide (x34_2 < (l0_12.length:Int))=true:=decide_eq_true c19;clear c19
       by_cases c20:0≤x34_2
       ·rw [if_pos c20] at H;have c20b0:decide (0≤x34_2)=true:=decide_eq_true c20;clear c20
        by_cases c21:x34_2 < (l0_12.length:Int)
        ·rw [if_pos c21] at H;have c21b0:decide (x34_2 < (l0_12.length:Int))=true:=decide_eq_true c21;clear c21;replace H:=Option.bind_eq_some_iff.mp H;obtain ⟨t130,A220,H⟩:=H
         try dsimp only at H
         have A22:=ad_ A220;clear A220
         by_cases c23:t130=true
         ·subst c23;replace H:=ifp_ H
          by_cases c24:x3_2.length < 17592186044416
          ·rw [if_pos c24] at H;have LMc24:=Aside0.mk c24;clear c24;obtain ⟨y131,hy131⟩:∃ y_:List Int,y_=(x3_2 ++ [(rd_T39 l0_12 x34_2).f0]):=⟨_,rfl⟩
           replace H:(series_Right.l0 k2 y131 l0_12 (l0_12.length:Int) (wrap64 (x34_2 + 1)) a0_0 a0_1 a0_2 a0_3 a0_4 a0_5 a0_6 l0_7 l0_8 l0_9 l0_10 l0_11 l0_12)=some r:=by first | (rw [hy131];with_reducible exact H) | (have H2_:=(Option.bind_some _ _).symm.trans H;rw [hy131];with_reducible exact H2_) | (have H2_:=(Option.bind_some _ _).symm.trans H;with_reducible exact H2_) | with_reducible exact H | (rw [hy131];exact H) | exact H
           have Ny131:=Aside0.mk hy131;clear hy131;have H':=ad_ H;clear H;have p128:0≤(x34_2:Int):=dec_;have q128:x34_2 < (l0_12.length:Int):=dec_;obtain ⟨ad128,e128,hx128_0,hx128_1,hx128_2,hx128_3⟩:=at_T39 HR0_12.out x34_2 p128 q128
           cases e128
           replace hx128_0:=(HB.out.cell (World.block_lt_of_cell? w _ hx128_0)).trans hx128_0;replace hx128_1:=(HB.out.cell (World.block_lt_of_cell? w _ hx128_1)).trans hx128_1;replace hx128_2:=(HB.out.cell (World.block_lt_of_cell? w _ hx128_2)).trans hx128_2;replace hx128_3:=(HB.out.cell (World.block_lt_of_cell? w _ hx128_3)).trans hx128_3;replace p128:=eq_true p128;replace q128:=eq_true q128
           go_wp2_with (first | ((with_reducible refine gate_dst (N:=5) rfl ?_);refine box_event ?hg (N:=5) ?hd (cs:=#[.int .i64 0,.int .i64 0,.int .i64 0,.bool false]) (t:=39) ?hr ?_;(case hd=>rfl);(case hg=>rfl);(case hr=>first | (go_simp;done) | (go_simp;rfl));intro gb129 hg w25 hbox hb;replace HO_3:=ad_ (Kd.R_below (rod_ HO_3) hb);have BK129:=ad_ (hbox);have GW129:=ad_ ((by rw [hg];exact (below_size belg_):w.heap.size≤gb129));have GE129:=ad_ ((by rw [hg];exact (below_size belg_):w.heap.size≤gb129));replace HB:=hbb_ hb;have NB125_129:=ad_ ((by rw [hg];exact Nat.ne_of_lt (blk_lt (g:=gb125) (blo_ BK125.out)):gb125≠gb129));have NB129_125:=ad_ ((by rw [hg];exact Nat.ne_of_gt (blk_lt (g:=gb125) (blo_ BK125.out)):gb129≠gb125));replace BK125:=bkb_ BK125 hb;clear hb hbox hg;have hnb26:=NB129_125.out;have hnc26:=NB125_129.out;have hcz27_:=cells4_ BK129.out) | ((with_reducible refine gate_callee (f:=25) rfl ?_);refine goesL_ (some 39) rfl rfl Try.func25 (by kernel_rfl) rfl #[.agg #[.int .i64 ((rd_T39 l0_12 x34_2).f0),.int .i64 ((rd_T39 l0_12 x34_2).f1),.int .i64 ((rd_T39 l0_12 x34_2).f2),.bool ((rd_T39 l0_12 x34_2).f3)]] rfl arg_ ?_;(with_reducible refine (series_Change_right.calls ((rd_T39 l0_12 x34_2).f0) ((rd_T39 l0_12 x34_2).f1) ((rd_T39 l0_12 x34_2).f2) ((rd_T39 l0_12 x34_2).f3) true _ A22.out).mono ?_);rintro e w28 ⟨rfl,hb⟩;refine ⟨_,rfl,?_⟩;replace HO_3:=ad_ (Kd.R_below (by (with_reducible repeat (first | apply Kd.R_alloc | apply Kd.R_drewN | apply Kd.R_drew));exact (Kd.R_mono (rfar_ (Kd.R_types HO_3.out BK129.out (by decide))) (fun _ h_=>h_.1))) hb);replace BK125:=ad_ (blk_below (g:=gb125) (o:=.cells #[.int .i64 a0_0,.int .i64 a0_1,.bool a0_2,.int .i64 a0_3,.int .i64 a0_4,.int .i64 a0_5,.int .i64 a0_6,.slice A0_7 l0_7.length c0_7,.slice A0_8 l0_8.length c0_8,.slice A0_9 l0_9.length c0_9,.slice A0_10 l0_10.length c0_10,.slice A0_11 l0_11.length c0_11,.slice (some ad128) l0_12.length c0_12] 29 (0,0)) (blf_ BK125.out) hb);replace BK129:=ad_ (blk_below (g:=gb129) (o:=.cells #[.int .i64 ((rd_T39 l0_12 x34_2).f0),.int .i64 ((rd_T39 l0_12 x34_2).f1),.int .i64 ((rd_T39 l0_12 x34_2).f2),.bool ((rd_T39 l0_12 x34_2).f3)] 39 (0,0)) (by refine blo_ ?_;refine blk_put (cs:=#[.int .i64 ((rd_T39 l0_12 x34_2).f0),.int .i64 ((rd_T39 l0_12 x34_2).f1),.int .i64 ((rd_T39 l0_12 x34_2).f2),.bool false]) ?_ 3 _ rfl;refine blo_ ?_;refine blk_put (cs:=#[.int .i64 ((rd_T39 l0_12 x34_2).f0),.int .i64 ((rd_T39 l0_12 x34_2).f1),.int .i64 0,.bool false]) ?_ 2 _ rfl;refine blo_ ?_;refine blk_put (cs:=#[.int .i64 ((rd_T39 l0_12 x34_2).f0),.int .i64 0,.int .i64 0,.bool false]) ?_ 1 _ rfl;refine blo_ ?_;refine blk_put (cs:=#[.int .i64 0,.int .i64 0,.int .i64 0,.bool false]) ?_ 0 _ rfl;exact blo_ BK129.out) hb);replace HB:=hbb_ hb;(try clear hb);(try clear hb2);(try clear hk);(try clear hi);have hcz29_:=cells4_ BK129.out) | ((with_reducible refine gate_builtin (b:=.append) (xs:=#[.tmp 41,.tmp 44]) rfl ?_);at_builtin;refine Kd.R_append (Kd.int .i64) (w0:=w) w.heap.size rfl (.tmp 41) (.tmp 44) 26 2 (.int .i64 0) 8 rfl Try.underlying26 info2 rfl (by decide) (by omega) u3 x3_2 ((rd_T39 l0_12 x34_2).f0) [.int .i64 ((rd_T39 l0_12 x34_2).f0)] (fun _=>True) (fun _=>False) rfl rfl ?aP (fun _ hk=>hk.elim) ?aF ?aO ?aB ?aS ?aL ?_;(case aP=>exact rfl);(case aB=>exact belg_);(case aF=>exact (fun _ _=>trivial));(case aO=>exact (rod_ HO_3));(case aS=>exact (below_size belg_));(case aL=>have:=LMc24.out;omega);intro v132 w30 ho hb hg hat;rw [← Ny131.out] at ho;replace BK125:=ad_ (blk_grown (g:=gb125) (blo_ BK125.out) hg (Kd.R_ne HO_3.out BK125.out (by decide)));replace BK129:=ad_ (blk_grown (g:=gb129) (blo_ BK129.out) hg (Kd.R_ne HO_3.out BK129.out (by decide)));replace HB:=ad_ (hb);have HO133:=ad_ (ho);clear HO_3;clear ho hb hg hat))
           go_roundg k2
           case measure=>have:=HJ1.out;have:=HK2.out;omega
           case rel=>exact ⟨(y131),(wrap64 (x34_2 + 1)),val_,H',⟨by have:=HJ1.out;have:=HK2.out;omega⟩,⟨rod_ HO133⟩,⟨blo_ BK125.out⟩,⟨belg_⟩⟩
          ·rw [if_neg c24] at H;exact absurd H (by simp)
         ·replace c23:=Bool.eq_false_iff.mpr c23;subst c23;replace H:=ifn_ H;obtain rfl:=Option.some.inj H;have p128:0≤(x34_2:Int):=dec_;have q128:x34_2 < (l0_12.length:Int):=dec_;obtain ⟨ad128,e128,hx128_0,hx128_1,hx128_2,hx128_3⟩:=at_T39 HR0_12.out x34_2 p128 q128
          cases e128
          replace hx128_0:=(HB.out.cell (World.block_lt_of_cell? w _ hx128_0)).trans hx128_0;replace hx128_1:=(HB.out.cell (World.block_lt_of_cell? w _ hx128_1)).trans hx128_1;replace hx128_2:=(HB.out.cell (World.block_lt_of_cell? w _ hx128_2)).trans hx128_2;replace hx128_3:=(HB.out.cell (World.block_lt_of_cell? w _ hx128_3)).trans hx128_3;replace p128:=eq_true p128;replace q128:=eq_true q128
          go_wp2_with (first | ((with_reducible refine gate_dst (N:=5) rfl ?_);refine box_event ?hg (N:=5) ?hd (cs:=#[.int .i64 0,.int .i64 0,.int .i64 0,.bool false]) (t:=39) ?hr ?_;(case hd=>rfl);(case hg=>rfl);(case hr=>first | (go_simp;done) | (go_simp;rfl));intro gb129 hg w31 hbox hb;replace HO_3:=ad_ (Kd.R_below (rod_ HO_3) hb);have BK129:=ad_ (hbox);have GW129:=ad_ ((by rw [hg];exact (below_size belg_):w.heap.size≤gb129));have GE129:=ad_ ((by rw [hg];exact (below_size belg_):w.heap.size≤gb129));replace HB:=hbb_ hb;have NB125_129:=ad_ ((by rw [hg];exact Nat.ne_of_lt (blk_lt (g:=gb125) (blo_ BK125.out)):gb125≠gb129));have NB129_125:=ad_ ((by rw [hg];exact Nat.ne_of_gt (blk_lt (g:=gb125) (blo_ BK125.out)):gb129≠gb125));replace BK125:=bkb_ BK125 hb;clear hb hbox hg;have hnb32:=NB129_125.out;have hnc32:=NB125_129.out;have hcz33_:=cells4_ BK129.out) | ((with_reducible refine gate_callee (f:=25) rfl ?_);refine goesL_ (some 39) rfl rfl Try.func25 (by kernel_rfl) rfl #[.agg #[.int .i64 ((rd_T39 l0_12 x34_2).f0),.int .i64 ((rd_T39 l0_12 x34_2).f1),.int .i64 ((rd_T39 l0_12 x34_2).f2),.bool ((rd_T39 l0_12 x34_2).f3)]] rfl arg_ ?_;(with_reducible refine (series_Change_right.calls ((rd_T39 l0_12 x34_2).f0) ((rd_T39 l0_12 x34_2).f1) ((rd_T39 l0_12 x34_2).f2) ((rd_T39 l0_12 x34_2).f3) false _ A22.out).mono ?_);rintro e w34 ⟨rfl,hb⟩;refine ⟨_,rfl,?_⟩;replace HO_3:=ad_ (Kd.R_below (by (with_reducible repeat (first | apply Kd.R_alloc | apply Kd.R_drewN | apply Kd.R_drew));exact (Kd.R_mono (rfar_ (Kd.R_types HO_3.out BK129.out (by decide))) (fun _ h_=>h_.1))) hb);replace BK125:=ad_ (blk_below (g:=gb125) (o:=.cells #[.int .i64 a0_0,.int .i64 a0_1,.bool a0_2,.int .i64 a0_3,.int .i64 a0_4,.int .i64 a0_5,.int .i64 a0_6,.slice A0_7 l0_7.length c0_7,.slice A0_8 l0_8.length c0_8,.slice A0_9 l0_9.length c0_9,.slice A0_10 l0_10.length c0_10,.slice A0_11 l0_11.length c0_11,.slice (some ad128) l0_12.length c0_12] 29 (0,0)) (blf_ BK125.out) hb);replace BK129:=ad_ (blk_below (g:=gb129) (o:=.cells #[.int .i64 ((rd_T39 l0_12 x34_2).f0),.int .i64 ((rd_T39 l0_12 x34_2).f1),.int .i64 ((rd_T39 l0_12 x34_2).f2),.bool ((rd_T39 l0_12 x34_2).f3)] 39 (0,0)) (by refine blo_ ?_;refine blk_put (cs:=#[.int .i64 ((rd_T39 l0_12 x34_2).f0),.int .i64 ((rd_T39 l0_12 x34_2).f1),.int .i64 ((rd_T39 l0_12 x34_2).f2),.bool false]) ?_ 3 _ rfl;refine blo_ ?_;refine blk_put (cs:=#[.int .i64 ((rd_T39 l0_12 x34_2).f0),.int .i64 ((rd_T39 l0_12 x34_2).f1),.int .i64 0,.bool false]) ?_ 2 _ rfl;refine blo_ ?_;refine blk_put (cs:=#[.int .i64 ((rd_T39 l0_12 x34_2).f0),.int .i64 0,.int .i64 0,.bool false]) ?_ 1 _ rfl;refine blo_ ?_;refine blk_put (cs:=#[.int .i64 0,.int .i64 0,.int .i64 0,.bool false]) ?_ 0 _ rfl;exact blo_ BK129.out) hb);replace HB:=hbb_ hb;(try clear hb);(try clear hb2);(try clear hk);(try clear hi)))
          go_ret
          exact ⟨ret_,belg_⟩
        ·rw [if_neg c21] at H;exact absurd H (by simp)
       ·rw [if_neg c20] at H;exact absurd H (by simp)
      ·rw [if_neg c19] at H;have c19b0:decide (x34_2 < (l0_12.length:Int))=false:=decide_eq_false c19;clear c19;replace H:=Option.bind_eq_some_iff.mp H;obtain ⟨t134,A350,H⟩:=H
       try dsimp only at H
       have A35:=ad_ A350;clear A350
       by_cases c36:t134=true
       ·subst c36;replace H:=ifp_ H;replace H:=Option.bind_eq_some_iff.mp H;obtain ⟨t135,A370,H⟩:=H
        try dsimp only at H
        have A37:=ad_ A370;clear A370
        by_cases c38:t135=true
        ·subst c38;replace H:=ifp_ H;replace H:=Option.bind_eq_some_iff.mp H;obtain ⟨t136,A390,H⟩:=H
         try dsimp only at H
         have A39:=ad_ A390;clear A390
         by_cases c40:t136=true
         ·subst c40;replace H:=ifp_ H;replace H:=Option.bind_eq_some_iff.mp H;obtain ⟨t137,A410,H⟩:=H
          try dsimp only at H
          have A41:=ad_ A410;clear A410
          by_cases c42:t137=true
          ·subst c42;replace H:=ifp_ H;replace H:=Option.bind_eq_some_iff.mp H;obtain ⟨t138,A430,H⟩:=H
           try dsimp only at H
           have A43:=ad_ A430;clear A430;obtain rfl:=Option.some.inj H;have hcz44_:=cells13_ BK125.out
           go_wp2_with (first | ((with_reducible refine gate_callee (f:=18) rfl ?_);refine goesL_ (some 49) rfl rfl Try.func18 (by kernel_rfl) rfl #[.int .i64 a0_0] rfl arg_ ?_;(with_reducible refine (when_Right.calls a0_0 true _ A35.out).mono ?_);rintro e w' ⟨rfl,⟨nd,rfl⟩⟩;refine ⟨_,rfl,?_⟩) | (go_at_call 26;(with_reducible refine (series_isLong.calls a0_1 true _ A37.out).mono ?_);rintro e w' ⟨rfl,⟨nd,rfl⟩⟩) | (go_at_call 27;(with_reducible refine (series_rises.calls k2 _ _ l0_10 true _ ?_ ?_ A39.out).mono ?_);exact cop_ (Kd.C_below HR0_10.out belg_);exact HC0_10.out;rintro e w' ⟨rfl,⟨nd,rfl⟩⟩) | (go_at_call 27;(with_reducible refine (series_rises.calls k2 _ _ l0_11 true _ ?_ ?_ A41.out).mono ?_);exact cop_ (Kd.C_below HR0_11.out belg_);exact HC0_11.out;rintro e w' ⟨rfl,⟨nd,rfl⟩⟩;obtain ⟨Ao45,co45,eo45⟩:=Kd.R_slice HO_3.out;subst eo45) | (go_at_call 27;(with_reducible refine (series_rises.calls k2 _ _ x3_2 t138 _ ?_ ?_ A43.out).mono ?_);exact cop_ (Kd.R_reads' HO_3.out).2.2;exact (Kd.R_reads' HO_3.out).2.1;rintro e w' ⟨rfl,⟨nd,rfl⟩⟩))
           go_ret
           exact ⟨ret_,belg_⟩
          ·replace c42:=Bool.eq_false_iff.mpr c42;subst c42;replace H:=ifn_ H;obtain rfl:=Option.some.inj H;have hcz46_:=cells13_ BK125.out
           go_wp2_with (first | ((with_reducible refine gate_callee (f:=18) rfl ?_);refine goesL_ (some 49) rfl rfl Try.func18 (by kernel_rfl) rfl #[.int .i64 a0_0] rfl arg_ ?_;(with_reducible refine (when_Right.calls a0_0 true _ A35.out).mono ?_);rintro e w' ⟨rfl,⟨nd,rfl⟩⟩;refine ⟨_,rfl,?_⟩) | (go_at_call 26;(with_reducible refine (series_isLong.calls a0_1 true _ A37.out).mono ?_);rintro e w' ⟨rfl,⟨nd,rfl⟩⟩) | (go_at_call 27;(with_reducible refine (series_rises.calls k2 _ _ l0_10 true _ ?_ ?_ A39.out).mono ?_);exact cop_ (Kd.C_below HR0_10.out belg_);exact HC0_10.out;rintro e w' ⟨rfl,⟨nd,rfl⟩⟩) | (go_at_call 27;(with_reducible refine (series_rises.calls k2 _ _ l0_11 false _ ?_ ?_ A41.out).mono ?_);exact cop_ (Kd.C_below HR0_11.out belg_);exact HC0_11.out;rintro e w' ⟨rfl,⟨nd,rfl⟩⟩))
           go_ret
           exact ⟨ret_,belg_⟩
         ·replace c40:=Bool.eq_false_iff.mpr c40;subst c40;replace H:=ifn_ H;obtain rfl:=Option.some.inj H;have hcz47_:=cells13_ BK125.out
          go_wp2_with (first | ((with_reducible refine gate_callee (f:=18) rfl ?_);refine goesL_ (some 49) rfl rfl Try.func18 (by kernel_rfl) rfl #[.int .i64 a0_0] rfl arg_ ?_;(with_reducible refine (when_Right.calls a0_0 true _ A35.out).mono ?_);rintro e w' ⟨rfl,⟨nd,rfl⟩⟩;refine ⟨_,rfl,?_⟩) | (go_at_call 26;(with_reducible refine (series_isLong.calls a0_1 true _ A37.out).mono ?_);rintro e w' ⟨rfl,⟨nd,rfl⟩⟩) | (go_at_call 27;(with_reducible refine (series_rises.calls k2 _ _ l0_10 false _ ?_ ?_ A39.out).mono ?_);exact cop_ (Kd.C_below HR0_10.out belg_);exact HC0_10.out;rintro e w' ⟨rfl,⟨nd,rfl⟩⟩))
          go_ret
          exact ⟨ret_,belg_⟩
        ·replace c38:=Bool.eq_false_iff.mpr c38;subst c38;replace H:=ifn_ H;obtain rfl:=Option.some.inj H;have hcz48_:=cells13_ BK125.out
         go_wp2_with (first | ((with_reducible refine gate_callee (f:=18) rfl ?_);refine goesL_ (some 49) rfl rfl Try.func18 (by kernel_rfl) rfl #[.int .i64 a0_0] rfl arg_ ?_;(with_reducible refine (when_Right.calls a0_0 true _ A35.out).mono ?_);rintro e w' ⟨rfl,⟨nd,rfl⟩⟩;refine ⟨_,rfl,?_⟩) | (go_at_call 26;(with_reducible refine (series_isLong.calls a0_1 false _ A37.out).mono ?_);rintro e w' ⟨rfl,⟨nd,rfl⟩⟩))
         go_ret
         exact ⟨ret_,belg_⟩
       ·replace c36:=Bool.eq_false_iff.mpr c36;subst c36;replace H:=ifn_ H;obtain rfl:=Option.some.inj H;have hcz49_:=cells13_ BK125.out
        go_wp2_with (first | ((with_reducible refine gate_callee (f:=18) rfl ?_);refine goesL_ (some 49) rfl rfl Try.func18 (by kernel_rfl) rfl #[.int .i64 a0_0] rfl arg_ ?_;(with_reducible refine (when_Right.calls a0_0 false _ A35.out).mono ?_);rintro e w' ⟨rfl,⟨nd,rfl⟩⟩;refine ⟨_,rfl,?_⟩))
        go_ret
        exact ⟨ret_,belg_⟩

end Go.Proofs.Ytkgkblmeafhkfaa.PS

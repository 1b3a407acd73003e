-- Written by a program of the session (wip/tools).
import Derived.Test.YtkgkblmeafhkfaaGreatPGx0
import Derived.Test.YtkgkblmeafhkfaaGreatPGx19
import Derived.Test.YtkgkblmeafhkfaaGreatPGx28
namespace Go.Proofs.YtkgkblmeafhkfaaGreat.PG
open Go.RowKit Go.Proofs.YtkgkblmeafhkfaaGreatW.PrintWords Go.Proofs.YtkgkblmeafhkfaaGreatW.PrintLast Go.Proofs.YtkgkblmeafhkfaaGreatW.PrintMore
attribute [local go_sem] max2_int min2_int max_two min_two max_three min_three max_four min_four   -- for this text's walks alone
set_option linter.unusedVariables false
set_option linter.unusedSimpArgs false

mutual
def pr21_Write.j0:Nat→ByteArray→Int→Int→Int→Int→List Int→List Int→List (S92)→Option (ByteArray×Int)
 | 0,_,_,_,_,_,_,_,_=>none
 | k + 1,x4,x499000,x499001,x499002,x499003,x499004,x499005,x499006=>if x499002 > 0 then (if x4.size + 7≤9223372036854775807 then ((pr21_Digits.f k x499002).bind fun t502=>(if (x4 ++ (⟨#[59,67,79,85,78,84,61]⟩:ByteArray)).size + t502.size≤9223372036854775807 then (pr21_Write.j1 k ((x4 ++ (⟨#[59,67,79,85,78,84,61]⟩:ByteArray)) ++ t502) x499000 x499001 x499002 x499003 x499004 x499005 x499006) else (none))) else (none)) else (pr21_Write.j1 k x4 x499000 x499001 x499002 x499003 x499004 x499005 x499006)
def pr21_Write.j1:Nat→ByteArray→Int→Int→Int→Int→List Int→List Int→List (S92)→Option (ByteArray×Int)
 | 0,_,_,_,_,_,_,_,_=>none
 | k + 1,x4,x499000,x499001,x499002,x499003,x499004,x499005,x499006=>if x499003 ≥ 0 then ((pr12_Print.f k x499003).bind fun bt503=>(if x4.size + 7≤9223372036854775807 then (if (x4 ++ (⟨#[59,85,78,84,73,76,61]⟩:ByteArray)).size + bt503.1.size≤9223372036854775807 then (pr21_Write.j2 k ((x4 ++ (⟨#[59,85,78,84,73,76,61]⟩:ByteArray)) ++ bt503.1) x499000 x499001 x499002 x499003 x499004 x499005 x499006) else (none)) else (none))) else (pr21_Write.j2 k x4 x499000 x499001 x499002 x499003 x499004 x499005 x499006)
def pr21_Write.j2:Nat→ByteArray→Int→Int→Int→Int→List Int→List Int→List (S92)→Option (ByteArray×Int)
 | 0,_,_,_,_,_,_,_,_=>none
 | k + 1,x4,x499000,x499001,x499002,x499003,x499004,x499005,x499006=>if (x499004.length:Int) > 0 then (if x4.size + 9≤9223372036854775807 then ((pr21_join.f k x499004).bind fun t505=>(if (x4 ++ (⟨#[59,66,89,77,79,78,84,72,61]⟩:ByteArray)).size + t505.size≤9223372036854775807 then (pr21_Write.j3 k ((x4 ++ (⟨#[59,66,89,77,79,78,84,72,61]⟩:ByteArray)) ++ t505) x499000 x499001 x499002 x499003 x499004 x499005 x499006) else (none))) else (none)) else (pr21_Write.j3 k x4 x499000 x499001 x499002 x499003 x499004 x499005 x499006)
def pr21_Write.j3:Nat→ByteArray→Int→Int→Int→Int→List Int→List Int→List (S92)→Option (ByteArray×Int)
 | 0,_,_,_,_,_,_,_,_=>none
 | k + 1,x4,x499000,x499001,x499002,x499003,x499004,x499005,x499006=>if (x499005.length:Int) > 0 then (if x4.size + 12≤9223372036854775807 then ((pr21_join.f k x499005).bind fun t506=>(if (x4 ++ (⟨#[59,66,89,77,79,78,84,72,68,65,89,61]⟩:ByteArray)).size + t506.size≤9223372036854775807 then (pr21_Write.j4 k ((x4 ++ (⟨#[59,66,89,77,79,78,84,72,68,65,89,61]⟩:ByteArray)) ++ t506) x499000 x499001 x499002 x499003 x499004 x499005 x499006) else (none))) else (none)) else (pr21_Write.j4 k x4 x499000 x499001 x499002 x499003 x499004 x499005 x499006)
def pr21_Write.j4:Nat→ByteArray→Int→Int→Int→Int→List Int→List Int→List (S92)→Option (ByteArray×Int)
 | 0,_,_,_,_,_,_,_,_=>none
 | k + 1,x4,x499000,x499001,x499002,x499003,x499004,x499005,x499006=>pr21_Write.l0 k x4 0 x499000 x499001 x499002 x499003 x499004 x499005 x499006
def pr21_Write.l0:Nat→ByteArray→Int→Int→Int→Int→Int→List Int→List Int→List (S92)→Option (ByteArray×Int)
 | 0,_,_,_,_,_,_,_,_,_=>none
 | k + 1,x4,x7,x499000,x499001,x499002,x499003,x499004,x499005,x499006=>if x7 < (x499006.length:Int) then (if x7=0 then (if x4.size + 7≤9223372036854775807 then (pr21_Write.j6 k (x4 ++ (⟨#[59,66,89,68,65,89,61]⟩:ByteArray)) x7 x499000 x499001 x499002 x499003 x499004 x499005 x499006) else (none)) else (if x4.size + 1≤9223372036854775807 then (pr21_Write.j6 k (x4 ++ (⟨#[44]⟩:ByteArray)) x7 x499000 x499001 x499002 x499003 x499004 x499005 x499006) else (none))) else (some (x4,0))
def pr21_Write.j6:Nat→ByteArray→Int→Int→Int→Int→Int→List Int→List Int→List (S92)→Option (ByteArray×Int)
 | 0,_,_,_,_,_,_,_,_,_=>none
 | k + 1,x4,x7,x499000,x499001,x499002,x499003,x499004,x499005,x499006=>if 0≤x7 then (if x7 < (x499006.length:Int) then (if ((rd_T92 x499006 x7).f1)=0 then ((pr21_Sign.f ((rd_T92 x499006 x7).f0)).bind fun t509=>(if x4.size + t509.size≤9223372036854775807 then (pr21_Write.l0 k (x4 ++ t509) (wrap64 (x7 + 1)) x499000 x499001 x499002 x499003 x499004 x499005 x499006) else (none))) else ((pr21_Digits.f k ((rd_T92 x499006 x7).f1)).bind fun t511=>(if x4.size + t511.size≤9223372036854775807 then ((pr21_Sign.f ((rd_T92 x499006 x7).f0)).bind fun t513=>(if (x4 ++ t511).size + t513.size≤9223372036854775807 then (pr21_Write.l0 k ((x4 ++ t511) ++ t513) (wrap64 (x7 + 1)) x499000 x499001 x499002 x499003 x499004 x499005 x499006) else (none))) else (none)))) else (none)) else (none)
end
def pr21_Write.f (k:Nat) (a0_0 a0_1:Int) (a0_2 a0_3:Int) (l0_4 l0_5:List Int) (l0_6:List (S92)):Option (ByteArray×Int):=(pr21_Right.f k a0_0 a0_1 a0_2 a0_3 l0_4 l0_5 l0_6).bind fun t499=>(if t499=true then ((pr21_Freq.f a0_0).bind fun t500=>(if 5 + t500.size≤9223372036854775807 then (if a0_1 > 1 then (if ((⟨#[70,82,69,81,61]⟩:ByteArray) ++ t500).size + 10≤9223372036854775807 then ((pr21_Digits.f k a0_1).bind fun t501=>(if (((⟨#[70,82,69,81,61]⟩:ByteArray) ++ t500) ++ (⟨#[59,73,78,84,69,82,86,65,76,61]⟩:ByteArray)).size + t501.size≤9223372036854775807 then (pr21_Write.j0 k ((((⟨#[70,82,69,81,61]⟩:ByteArray) ++ t500) ++ (⟨#[59,73,78,84,69,82,86,65,76,61]⟩:ByteArray)) ++ t501) a0_0 a0_1 a0_2 a0_3 l0_4 l0_5 l0_6) else (none))) else (none)) else (pr21_Write.j0 k ((⟨#[70,82,69,81,61]⟩:ByteArray) ++ t500) a0_0 a0_1 a0_2 a0_3 l0_4 l0_5 l0_6)) else (none))) else (some ((⟨#[]⟩:ByteArray),3)))
set_option maxHeartbeats 8000000 in
set_option maxRecDepth 100000 in
theorem pr21_Write.calls (k:Nat) (a0_0 a0_1:Int) (a0_2 a0_3:Int) (A0_4:Option Addr) (c0_4:Nat) (l0_4:List Int) (A0_5:Option Addr) (c0_5:Nat) (l0_5:List Int) (A0_6:Option Addr) (c0_6:Nat) (l0_6:List (S92)) (r1:ByteArray) (r2:Int) (w:World) (hr0_4:Kd.C (Kd.int .i64) w A0_4 l0_4.length l0_4) (hc0_4:l0_4.length≤c0_4) (hr0_5:Kd.C (Kd.int .i64) w A0_5 l0_5.length l0_5) (hc0_5:l0_5.length≤c0_5) (hr0_6:Kd.C k92 w A0_6 l0_6.length l0_6) (hc0_6:l0_6.length≤c0_6) (h:pr21_Write.f k a0_0 a0_1 a0_2 a0_3 l0_4 l0_5 l0_6=some (r1,r2)) :
  Calls Tryz.prog 56 #[.agg #[.int .i64 a0_0,.int .i64 a0_1,.int .i64 a0_2,.int .i64 a0_3,.slice A0_4 l0_4.length c0_4,.slice A0_5 l0_5.length c0_5,.slice A0_6 l0_6.length c0_6]] w fun e w'=>e = .returned (.tuple #[.string r1,.int .i64 r2])∧Below w.heap.size w w':=by
 have hu34:=Tryz.underlying34;have HR0_4:=Aside0.mk hr0_4;have HC0_4:=Aside0.mk hc0_4;clear hr0_4 hc0_4;have HR0_5:=Aside0.mk hr0_5;have HC0_5:=Aside0.mk hc0_5;clear hr0_5 hc0_5;have HR0_6:=Aside0.mk hr0_6;have HC0_6:=Aside0.mk hc0_6;clear hr0_6 hc0_6;have HB:=ad_ (Below.refl w.heap.size w);have H:((pr21_Right.f k a0_0 a0_1 a0_2 a0_3 l0_4 l0_5 l0_6).bind fun t499=>(if t499=true then ((pr21_Freq.f a0_0).bind fun t500=>(if 5 + t500.size≤9223372036854775807 then (if a0_1 > 1 then (if ((⟨#[70,82,69,81,61]⟩:ByteArray) ++ t500).size + 10≤9223372036854775807 then ((pr21_Digits.f k a0_1).bind fun t501=>(if (((⟨#[70,82,69,81,61]⟩:ByteArray) ++ t500) ++ (⟨#[59,73,78,84,69,82,86,65,76,61]⟩:ByteArray)).size + t501.size≤9223372036854775807 then (pr21_Write.j0 k ((((⟨#[70,82,69,81,61]⟩:ByteArray) ++ t500) ++ (⟨#[59,73,78,84,69,82,86,65,76,61]⟩:ByteArray)) ++ t501) a0_0 a0_1 a0_2 a0_3 l0_4 l0_5 l0_6) else (none))) else (none)) else (pr21_Write.j0 k ((⟨#[70,82,69,81,61]⟩:ByteArray) ++ t500) a0_0 a0_1 a0_2 a0_3 l0_4 l0_5 l0_6)) else (none))) else (some ((⟨#[]⟩:ByteArray),3))))=some (r1,r2):=h;clear h;obtain ⟨t499,A20,H⟩:=bnd_ H
 try dsimp only at H
 have A2:=ad_ A20;clear A20
 replace H:=db_ H;rcases H with ⟨rfl,H⟩|⟨rfl,H⟩
 ·obtain ⟨t500,A40,H⟩:=bnd_ H
  try dsimp only at H
  have A4:=ad_ A40;clear A40
  replace H:=in_ H;obtain ⟨c5,H⟩:=H;have c5b0:=eq_true c5;have c5b1:decide (5 + t500.size≤9223372036854775807)=true:=decide_eq_true c5
  try have c5b2:(9223372036854775807 < 5 + t500.size)=False:=eq_false (Nat.not_lt.2 c5)
  have HC6:=Aside0.mk H;clear H
  go_enter Tryz.func56,Tryz.ntmps56
  go_upto_if 17 with (first | ((with_reducible refine gate_dst (N:=1) rfl ?_);refine box_event ?hg (N:=1) ?hd (cs:=#[.int .i64 a0_0,.int .i64 a0_1,.int .i64 a0_2,.int .i64 a0_3,.slice A0_4 l0_4.length c0_4,.slice A0_5 l0_5.length c0_5,.slice A0_6 l0_6.length c0_6]) (t:=34) ?hr ?_;(case hd=>rfl);(case hg=>rfl);(case hr=>first | (go_simp;done) | (go_simp;rfl));intro gb498 hg w7 hbox hb;have BK498:=ad_ (hbox);have GW498:=gw_ w hg;have GE498:=GW498;replace HB:=hbb_ hb;clear hb hbox hg;have hcz8_:=cells7_ BK498.out) | ((with_reducible refine gate_callee (f:=37) rfl ?_);refine goesL_ (some 9) rfl rfl Tryz.func37 (by kernel_rfl) rfl #[.agg #[.int .i64 a0_0,.int .i64 a0_1,.int .i64 a0_2,.int .i64 a0_3,.slice A0_4 l0_4.length c0_4,.slice A0_5 l0_5.length c0_5,.slice A0_6 l0_6.length c0_6]] rfl arg_ ?_;(with_reducible refine (pr21_Right.calls k a0_0 a0_1 a0_2 a0_3 _ _ l0_4 _ _ l0_5 _ _ l0_6 true _ ?_ ?_ ?_ ?_ ?_ ?_ A2.out).mono ?_);(iterate 6 exact sc_);rintro e w9 ⟨rfl,hb⟩;refine ⟨_,rfl,?_⟩;replace BK498:=bkb_ BK498 hb;replace HB:=hbb_ hb;clear hb;have hcz10_:=cells7_ BK498.out) | ((with_reducible refine gate_callee (f:=69) rfl ?_);refine goesL_ (some 13) rfl rfl Tryz.func69 (by kernel_rfl) rfl #[.int .i64 a0_0] rfl arg_ ?_;(with_reducible refine (pr21_Freq.calls a0_0 t500 _ A4.out).mono ?_);rintro e w' ⟨rfl,⟨nd,rfl⟩⟩;refine ⟨_,rfl,?_⟩))
  (try simp only [Act.put,List.setIfInBounds_toArray,List.set_cons_zero,List.set_cons_succ])
  go_cut [4] (fun v4 wc=>∃ (kq:Nat) (x4_5:ByteArray),v4 = .string x4_5∧Aside0 (pr21_Write.j0 kq x4_5 a0_0 a0_1 a0_2 a0_3 l0_4 l0_5 l0_6=some (r1,r2))∧Aside0 (kq≤k)∧Aside0 (wc.heap[gb498]? = some (.cells #[.int .i64 a0_0,.int .i64 a0_1,.int .i64 a0_2,.int .i64 a0_3,(.slice A0_4 l0_4.length c0_4),(.slice A0_5 l0_5.length c0_5),(.slice A0_6 l0_6.length c0_6)] 34 (0,0)))∧Aside0 (Below w.heap.size w wc))
  case first =>
   have H:=HC6.out;clear HC6
   replace H:=dg_ H;rcases H with ⟨H,c11b0⟩|⟨H,c11b0⟩
   ·(first | rw [c11b0] | (simp only [i64_w,i32_w];rw [c11b0]) | skip)
    replace H:=in_ H;obtain ⟨c12,H⟩:=H;have c12b0:=eq_true c12;have c12b1:decide (((⟨#[70,82,69,81,61]⟩:ByteArray) ++ t500).size + 10≤9223372036854775807)=true:=decide_eq_true c12
    try have c12b2:(9223372036854775807 < ((⟨#[70,82,69,81,61]⟩:ByteArray) ++ t500).size + 10)=False:=eq_false (Nat.not_lt.2 c12)
    try have c12b3:(9223372036854775807 < 5 + t500.size + 10)=False:=eq_false (Nat.not_lt.2 (by have h_:=c12;simp only [ByteArray.size_append] at h_;exact h_))
    obtain ⟨t501,A130,H⟩:=bnd_ H
    try dsimp only at H
    have A13:=ad_ A130;clear A130
    replace H:=in_ H;obtain ⟨c14,H⟩:=H;have c14b0:=eq_true c14;have c14b1:decide ((((⟨#[70,82,69,81,61]⟩:ByteArray) ++ t500) ++ (⟨#[59,73,78,84,69,82,86,65,76,61]⟩:ByteArray)).size + t501.size≤9223372036854775807)=true:=decide_eq_true c14
    try have c14b2:(9223372036854775807 < (((⟨#[70,82,69,81,61]⟩:ByteArray) ++ t500) ++ (⟨#[59,73,78,84,69,82,86,65,76,61]⟩:ByteArray)).size + t501.size)=False:=eq_false (Nat.not_lt.2 c14)
    try have c14b3:(9223372036854775807 < 5 + t500.size + 10 + t501.size)=False:=eq_false (Nat.not_lt.2 (by have h_:=c14;simp only [ByteArray.size_append] at h_;exact h_))
    have H':=ad_ H;clear H;have hcz15_:=cells7_ BK498.out
    go_wp2_with (first | ((with_reducible refine gate_callee (f:=70) rfl ?_);refine goesL_ (some 22) rfl rfl Tryz.func70 (by kernel_rfl) rfl #[.int .i64 a0_1] rfl arg_ ?_;(with_reducible refine (pr21_Digits.calls k a0_1 t501 _ A13.out).mono ?_);rintro e w16 ⟨rfl,hb⟩;refine ⟨_,rfl,?_⟩;replace BK498:=bkb_ BK498 hb;replace HB:=hbb_ hb;clear hb))
    go_meet
    case rel=>exact ⟨_,((((⟨#[70,82,69,81,61]⟩:ByteArray) ++ t500) ++ (⟨#[59,73,78,84,69,82,86,65,76,61]⟩:ByteArray)) ++ t501),val_,H',⟨by first | omega | exact Nat.le_refl _⟩,⟨blo_ BK498.out⟩,⟨belg_⟩⟩
   ·(first | rw [c11b0] | (simp only [i64_w,i32_w];rw [c11b0]) | skip)
    have H':=ad_ H;clear H
    go_wp2
    go_meet
    case rel=>exact ⟨_,((⟨#[70,82,69,81,61]⟩:ByteArray) ++ t500),val_,H',⟨by first | omega | exact Nat.le_refl _⟩,⟨blo_ BK498.out⟩,⟨belg_⟩⟩
  case rest =>
   clear HC6;clear c5b0 c5b1 hcz10_ hcz8_;(try clear c5);(try clear c5b2);obtain ⟨kq,x4_5,rfl,HA,HJ5,BK498,HB⟩:=hcut
   cases kq with
   | zero=>exact absurd HA.out (by simp [pr21_Write.j0])
   | succ kj5 =>
    have H:=HA.out;clear HA
    simp only [pr21_Write.j0] at H
    have HC17:=Aside0.mk H;clear H;have hcz18_:=cells7_ BK498.out
    go_upto_if 26 with (fail)
    go_cut [4] (fun v4 wc=>∃ (kq:Nat) (x4_16:ByteArray),v4 = .string x4_16∧Aside0 (pr21_Write.j1 kq x4_16 a0_0 a0_1 a0_2 a0_3 l0_4 l0_5 l0_6=some (r1,r2))∧Aside0 (kq≤kj5)∧Aside0 (wc.heap[gb498]? = some (.cells #[.int .i64 a0_0,.int .i64 a0_1,.int .i64 a0_2,.int .i64 a0_3,(.slice A0_4 l0_4.length c0_4),(.slice A0_5 l0_5.length c0_5),(.slice A0_6 l0_6.length c0_6)] 34 (0,0)))∧Aside0 (Below w.heap.size w wc))
    case first =>
     have H:=HC17.out;clear HC17
     replace H:=dg_ H;rcases H with ⟨H,c19b0⟩|⟨H,c19b0⟩
     ·(first | rw [c19b0] | (simp only [i64_w,i32_w];rw [c19b0]) | skip)
      replace H:=in_ H;obtain ⟨c20,H⟩:=H;have c20b0:=eq_true c20;have c20b1:decide (x4_5.size + 7≤9223372036854775807)=true:=decide_eq_true c20
      try have c20b2:(9223372036854775807 < x4_5.size + 7)=False:=eq_false (Nat.not_lt.2 c20)
      obtain ⟨t502,A210,H⟩:=bnd_ H
      try dsimp only at H
      have A21:=ad_ A210;clear A210
      replace H:=in_ H;obtain ⟨c22,H⟩:=H;have c22b0:=eq_true c22;have c22b1:decide ((x4_5 ++ (⟨#[59,67,79,85,78,84,61]⟩:ByteArray)).size + t502.size≤9223372036854775807)=true:=decide_eq_true c22
      try have c22b2:(9223372036854775807 < (x4_5 ++ (⟨#[59,67,79,85,78,84,61]⟩:ByteArray)).size + t502.size)=False:=eq_false (Nat.not_lt.2 c22)
      try have c22b3:(9223372036854775807 < x4_5.size + 7 + t502.size)=False:=eq_false (Nat.not_lt.2 (by have h_:=c22;simp only [ByteArray.size_append] at h_;exact h_))
      have H':=ad_ H;clear H;have hcz23_:=cells7_ BK498.out
      go_wp2_with (first | ((with_reducible refine gate_callee (f:=70) rfl ?_);refine goesL_ (some 31) rfl rfl Tryz.func70 (by kernel_rfl) rfl #[.int .i64 a0_2] rfl arg_ ?_;(with_reducible refine (pr21_Digits.calls kj5 a0_2 t502 _ A21.out).mono ?_);rintro e w24 ⟨rfl,hb⟩;refine ⟨_,rfl,?_⟩;replace BK498:=bkb_ BK498 hb;replace HB:=hbb_ hb;clear hb))
      go_meet
      case rel=>exact ⟨_,((x4_5 ++ (⟨#[59,67,79,85,78,84,61]⟩:ByteArray)) ++ t502),val_,H',⟨by have:=HJ5.out;first | omega | exact Nat.le_refl _⟩,⟨blo_ BK498.out⟩,⟨belg_⟩⟩
     ·(first | rw [c19b0] | (simp only [i64_w,i32_w];rw [c19b0]) | skip)
      have H':=ad_ H;clear H
      go_wp2
      go_meet
      case rel=>exact ⟨_,(x4_5),val_,H',⟨by have:=HJ5.out;first | omega | exact Nat.le_refl _⟩,⟨blo_ BK498.out⟩,⟨belg_⟩⟩
    case rest =>
     clear HC17;clear hcz18_;obtain ⟨kq,x4_16,rfl,HA,HJ16,BK498,HB⟩:=hcut
     cases kq with
     | zero=>exact absurd HA.out (by simp [pr21_Write.j1])
     | succ kj16 =>
      have H:=HA.out;clear HA
      simp only [pr21_Write.j1] at H
      have HC25:=Aside0.mk H;clear H;have hcz26_:=cells7_ BK498.out
      go_upto_if 35 with (fail)
      go_cut [4] (fun v4 wc=>∃ (kq:Nat) (x4_24:ByteArray),v4 = .string x4_24∧Aside0 (pr21_Write.j2 kq x4_24 a0_0 a0_1 a0_2 a0_3 l0_4 l0_5 l0_6=some (r1,r2))∧Aside0 (kq≤kj16)∧Aside0 (wc.heap[gb498]? = some (.cells #[.int .i64 a0_0,.int .i64 a0_1,.int .i64 a0_2,.int .i64 a0_3,(.slice A0_4 l0_4.length c0_4),(.slice A0_5 l0_5.length c0_5),(.slice A0_6 l0_6.length c0_6)] 34 (0,0)))∧Aside0 (Below w.heap.size w wc))
      case first =>
       have H:=HC25.out;clear HC25
       replace H:=dh_ H;rcases H with ⟨H,c27b0⟩|⟨H,c27b0⟩
       ·(first | rw [c27b0] | (simp only [i64_w,i32_w];rw [c27b0]) | skip)
        replace H:=Option.bind_eq_some_iff.mp H;obtain ⟨⟨t503,t504⟩,A280,H⟩:=H
        try dsimp only at H
        have A28:=ad_ A280;clear A280
        replace H:=in_ H;obtain ⟨c29,H⟩:=H;have c29b0:=eq_true c29;have c29b1:decide (x4_16.size + 7≤9223372036854775807)=true:=decide_eq_true c29
        try have c29b2:(9223372036854775807 < x4_16.size + 7)=False:=eq_false (Nat.not_lt.2 c29)
        replace H:=in_ H;obtain ⟨c30,H⟩:=H;have c30b0:=eq_true c30;have c30b1:decide ((x4_16 ++ (⟨#[59,85,78,84,73,76,61]⟩:ByteArray)).size + t503.size≤9223372036854775807)=true:=decide_eq_true c30
        try have c30b2:(9223372036854775807 < (x4_16 ++ (⟨#[59,85,78,84,73,76,61]⟩:ByteArray)).size + t503.size)=False:=eq_false (Nat.not_lt.2 c30)
        try have c30b3:(9223372036854775807 < x4_16.size + 7 + t503.size)=False:=eq_false (Nat.not_lt.2 (by have h_:=c30;simp only [ByteArray.size_append] at h_;exact h_))
        have H':=ad_ H;clear H;have hcz31_:=cells7_ BK498.out
        go_wp2_with (first | ((with_reducible refine gate_callee (f:=71) rfl ?_);refine goesL_ (some 39) rfl rfl Tryz.func71 (by kernel_rfl) rfl #[.int .i64 a0_3] rfl arg_ ?_;(with_reducible refine (pr12_Print.calls kj16 a0_3 t503 t504 _ A28.out).mono ?_);rintro e w32 ⟨rfl,hb⟩;refine ⟨_,rfl,?_⟩;replace BK498:=bkb_ BK498 hb;replace HB:=hbb_ hb;clear hb))
        go_meet
        case rel=>exact ⟨_,((x4_16 ++ (⟨#[59,85,78,84,73,76,61]⟩:ByteArray)) ++ t503),val_,H',⟨by have:=HJ5.out;have:=HJ16.out;first | omega | exact Nat.le_refl _⟩,⟨blo_ BK498.out⟩,⟨belg_⟩⟩
       ·(first | rw [c27b0] | (simp only [i64_w,i32_w];rw [c27b0]) | skip)
        have H':=ad_ H;clear H
        go_wp2
        go_meet
        case rel=>exact ⟨_,(x4_16),val_,H',⟨by have:=HJ5.out;have:=HJ16.out;first | omega | exact Nat.le_refl _⟩,⟨blo_ BK498.out⟩,⟨belg_⟩⟩
      case rest =>
       clear HC25;clear hcz26_;obtain ⟨kq,x4_24,rfl,HA,HJ24,BK498,HB⟩:=hcut
       cases kq with
       | zero=>exact absurd HA.out (by simp [pr21_Write.j2])
       | succ kj24 =>
        have H:=HA.out;clear HA
        simp only [pr21_Write.j2] at H
        have HC33:=Aside0.mk H;clear H;have hcz34_:=cells7_ BK498.out
        go_upto_if 49 with (fail)
        go_cut [4] (fun v4 wc=>∃ (kq:Nat) (x4_32:ByteArray),v4 = .string x4_32∧Aside0 (pr21_Write.j3 kq x4_32 a0_0 a0_1 a0_2 a0_3 l0_4 l0_5 l0_6=some (r1,r2))∧Aside0 (kq≤kj24)∧Aside0 (wc.heap[gb498]? = some (.cells #[.int .i64 a0_0,.int .i64 a0_1,.int .i64 a0_2,.int .i64 a0_3,(.slice A0_4 l0_4.length c0_4),(.slice A0_5 l0_5.length c0_5),(.slice A0_6 l0_6.length c0_6)] 34 (0,0)))∧Aside0 (Below w.heap.size w wc))
        case first =>
         have H:=HC33.out;clear HC33
         by_cases c35:(l0_4.length:Int) > 0
         ·rw [if_pos c35] at H;have c35b0:decide (0 < (l0_4.length:Int))=true:=decide_eq_true c35;have c35b1:decide (0 < l0_4.length)=true:=decide_eq_true (by omega);have c35b4:(0 < l0_4.length)=True:=eq_true (by omega);clear c35
          (first | rw [c35b0] | rw [c35b1] | (simp only [i64_w,i32_w];rw [c35b0]) | skip)
          replace H:=in_ H;obtain ⟨c36,H⟩:=H;have c36b0:=eq_true c36;have c36b1:decide (x4_24.size + 9≤9223372036854775807)=true:=decide_eq_true c36
          try have c36b2:(9223372036854775807 < x4_24.size + 9)=False:=eq_false (Nat.not_lt.2 c36)
          obtain ⟨t505,A370,H⟩:=bnd_ H
          try dsimp only at H
          have A37:=ad_ A370;clear A370
          replace H:=in_ H;obtain ⟨c38,H⟩:=H;have c38b0:=eq_true c38;have c38b1:decide ((x4_24 ++ (⟨#[59,66,89,77,79,78,84,72,61]⟩:ByteArray)).size + t505.size≤9223372036854775807)=true:=decide_eq_true c38
          try have c38b2:(9223372036854775807 < (x4_24 ++ (⟨#[59,66,89,77,79,78,84,72,61]⟩:ByteArray)).size + t505.size)=False:=eq_false (Nat.not_lt.2 c38)
          try have c38b3:(9223372036854775807 < x4_24.size + 9 + t505.size)=False:=eq_false (Nat.not_lt.2 (by have h_:=c38;simp only [ByteArray.size_append] at h_;exact h_))
          have H':=ad_ H;clear H;have hcz39_:=cells7_ BK498.out
          go_wp2_with (first | ((with_reducible refine gate_callee (f:=72) rfl ?_);refine goesL_ (some 54) rfl rfl Tryz.func72 (by kernel_rfl) rfl #[.slice A0_4 l0_4.length c0_4] rfl arg_ ?_;(with_reducible refine (pr21_join.calls kj24 _ _ l0_4 t505 _ ?_ ?_ A37.out).mono ?_);(iterate 2 exact sc_);rintro e w40 ⟨rfl,hb⟩;refine ⟨_,rfl,?_⟩;replace BK498:=bkb_ BK498 hb;replace HB:=hbb_ hb;clear hb))
          go_meet
          case rel=>exact ⟨_,((x4_24 ++ (⟨#[59,66,89,77,79,78,84,72,61]⟩:ByteArray)) ++ t505),val_,H',⟨by have:=HJ5.out;have:=HJ16.out;have:=HJ24.out;first | omega | exact Nat.le_refl _⟩,⟨blo_ BK498.out⟩,⟨belg_⟩⟩
         ·rw [if_neg c35] at H;have c35b0:decide (0 < (l0_4.length:Int))=false:=decide_eq_false c35;have c35b1:decide (0 < l0_4.length)=false:=decide_eq_false (by omega);have c35b4:(0 < l0_4.length)=False:=eq_false (by omega);clear c35
          (first | rw [c35b0] | rw [c35b1] | (simp only [i64_w,i32_w];rw [c35b0]) | skip)
          have H':=ad_ H;clear H
          go_wp2
          go_meet
          case rel=>exact ⟨_,(x4_24),val_,H',⟨by have:=HJ5.out;have:=HJ16.out;have:=HJ24.out;first | omega | exact Nat.le_refl _⟩,⟨blo_ BK498.out⟩,⟨belg_⟩⟩
        case rest =>
         clear HC33;clear hcz34_;obtain ⟨kq,x4_32,rfl,HA,HJ32,BK498,HB⟩:=hcut
         cases kq with
         | zero=>exact absurd HA.out (by simp [pr21_Write.j3])
         | succ kj32 =>
          have H:=HA.out;clear HA
          simp only [pr21_Write.j3] at H
          have HC41:=Aside0.mk H;clear H;have hcz42_:=cells7_ BK498.out
          go_upto_if 59 with (fail)
          go_cut [4] (fun v4 wc=>∃ (kq:Nat) (x4_40:ByteArray),v4 = .string x4_40∧Aside0 (pr21_Write.j4 kq x4_40 a0_0 a0_1 a0_2 a0_3 l0_4 l0_5 l0_6=some (r1,r2))∧Aside0 (kq≤kj32)∧Aside0 (wc.heap[gb498]? = some (.cells #[.int .i64 a0_0,.int .i64 a0_1,.int .i64 a0_2,.int .i64 a0_3,(.slice A0_4 l0_4.length c0_4),(.slice A0_5 l0_5.length c0_5),(.slice A0_6 l0_6.length c0_6)] 34 (0,0)))∧Aside0 (Below w.heap.size w wc))
          case first =>
           have H:=HC41.out;clear HC41
           by_cases c43:(l0_5.length:Int) > 0
           ·rw [if_pos c43] at H;have c43b0:decide (0 < (l0_5.length:Int))=true:=decide_eq_true c43;have c43b1:decide (0 < l0_5.length)=true:=decide_eq_true (by omega);have c43b4:(0 < l0_5.length)=True:=eq_true (by omega);clear c43
            (first | rw [c43b0] | rw [c43b1] | (simp only [i64_w,i32_w];rw [c43b0]) | skip)
            replace H:=in_ H;obtain ⟨c44,H⟩:=H;have c44b0:=eq_true c44;have c44b1:decide (x4_32.size + 12≤9223372036854775807)=true:=decide_eq_true c44
            try have c44b2:(9223372036854775807 < x4_32.size + 12)=False:=eq_false (Nat.not_lt.2 c44)
            obtain ⟨t506,A450,H⟩:=bnd_ H
            try dsimp only at H
            have A45:=ad_ A450;clear A450
            replace H:=in_ H;obtain ⟨c46,H⟩:=H;have c46b0:=eq_true c46;have c46b1:decide ((x4_32 ++ (⟨#[59,66,89,77,79,78,84,72,68,65,89,61]⟩:ByteArray)).size + t506.size≤9223372036854775807)=true:=decide_eq_true c46
            try have c46b2:(9223372036854775807 < (x4_32 ++ (⟨#[59,66,89,77,79,78,84,72,68,65,89,61]⟩:ByteArray)).size + t506.size)=False:=eq_false (Nat.not_lt.2 c46)
            try have c46b3:(9223372036854775807 < x4_32.size + 12 + t506.size)=False:=eq_false (Nat.not_lt.2 (by have h_:=c46;simp only [ByteArray.size_append] at h_;exact h_))
            have H':=ad_ H;clear H;have hcz47_:=cells7_ BK498.out
            go_wp2_with (first | ((with_reducible refine gate_callee (f:=72) rfl ?_);refine goesL_ (some 64) rfl rfl Tryz.func72 (by kernel_rfl) rfl #[.slice A0_5 l0_5.length c0_5] rfl arg_ ?_;(with_reducible refine (pr21_join.calls kj32 _ _ l0_5 t506 _ ?_ ?_ A45.out).mono ?_);(iterate 2 exact sc_);rintro e w48 ⟨rfl,hb⟩;refine ⟨_,rfl,?_⟩;replace BK498:=bkb_ BK498 hb;replace HB:=hbb_ hb;clear hb))
            go_meet
            case rel=>exact ⟨_,((x4_32 ++ (⟨#[59,66,89,77,79,78,84,72,68,65,89,61]⟩:ByteArray)) ++ t506),val_,H',⟨by have:=HJ5.out;have:=HJ16.out;have:=HJ24.out;have:=HJ32.out;first | omega | exact Nat.le_refl _⟩,⟨blo_ BK498.out⟩,⟨belg_⟩⟩
           ·rw [if_neg c43] at H;have c43b0:decide (0 < (l0_5.length:Int))=false:=decide_eq_false c43;have c43b1:decide (0 < l0_5.length)=false:=decide_eq_false (by omega);have c43b4:(0 < l0_5.length)=False:=eq_false (by omega);clear c43
            (first | rw [c43b0] | rw [c43b1] | (simp only [i64_w,i32_w];rw [c43b0]) | skip)
            have H':=ad_ H;clear H
            go_wp2
            go_meet
            case rel=>exact ⟨_,(x4_32),val_,H',⟨by have:=HJ5.out;have:=HJ16.out;have:=HJ24.out;have:=HJ32.out;first | omega | exact Nat.le_refl _⟩,⟨blo_ BK498.out⟩,⟨belg_⟩⟩
          case rest =>
           clear HC41;clear hcz42_;obtain ⟨kq,x4_40,rfl,HA,HJ40,BK498,HB⟩:=hcut
           cases kq with
           | zero=>exact absurd HA.out (by simp [pr21_Write.j4])
           | succ kj40 =>
            have H:=HA.out;clear HA
            simp only [pr21_Write.j4] at H
            have H':=ad_ H;clear H
            go_wp2
            go_loopg [4,7] kj40 (fun kq v4 v7 w'=>∃ (x4_6:ByteArray) (x7_6:Int),v4 = .string x4_6∧v7 = .int .i64 x7_6∧Aside0 (pr21_Write.l0 kq x4_6 x7_6 a0_0 a0_1 a0_2 a0_3 l0_4 l0_5 l0_6=some (r1,r2))∧Aside0 (kq≤kj40)∧Aside0 (w'.heap[gb498]? = some (.cells #[.int .i64 a0_0,.int .i64 a0_1,.int .i64 a0_2,.int .i64 a0_3,(.slice A0_4 l0_4.length c0_4),(.slice A0_5 l0_5.length c0_5),(.slice A0_6 l0_6.length c0_6)] 34 (0,0)))∧Aside0 (Below w.heap.size w w'))
            case atStart=>exact ⟨(x4_40),(0),val_,val_,H',⟨Nat.le_refl _⟩,⟨blo_ BK498.out⟩,⟨belg_⟩⟩
            case round =>
             clear H';obtain ⟨x4_6,x7_6,rfl,rfl,HA,HK6,BK498,HB⟩:=hrel
             cases gk with
             | zero=>exact absurd HA.out (by simp [pr21_Write.l0])
             | succ k6 =>
              have H:=HA.out;clear HA
              simp only [pr21_Write.l0] at H
              replace H:=dc_ H;rcases H with ⟨H,c49b0⟩|⟨H,c49b0⟩
              ·have HC50:=Aside0.mk H;clear H;have hcz51_:=cells7_ BK498.out
               go_upto_if 74 with (fail)
               go_cut [4] (fun v4 wc=>∃ (kq:Nat) (x4_49:ByteArray),v4 = .string x4_49∧Aside0 (pr21_Write.j6 kq x4_49 x7_6 a0_0 a0_1 a0_2 a0_3 l0_4 l0_5 l0_6=some (r1,r2))∧Aside0 (kq≤k6)∧Aside0 (wc.heap[gb498]? = some (.cells #[.int .i64 a0_0,.int .i64 a0_1,.int .i64 a0_2,.int .i64 a0_3,(.slice A0_4 l0_4.length c0_4),(.slice A0_5 l0_5.length c0_5),(.slice A0_6 l0_6.length c0_6)] 34 (0,0)))∧Aside0 (Below w.heap.size w wc))
               case first =>
                have H:=HC50.out;clear HC50
                replace H:=de_ H;rcases H with ⟨H,-,c52b0,c52b1⟩|⟨H,c52,c52b0,c52b1⟩
                ·(first | rw [c52b0] | (simp only [i64_w,i32_w];rw [c52b0]) | skip)
                 replace H:=in_ H;obtain ⟨c53,H⟩:=H;have c53b0:=eq_true c53;have c53b1:decide (x4_6.size + 7≤9223372036854775807)=true:=decide_eq_true c53
                 try have c53b2:(9223372036854775807 < x4_6.size + 7)=False:=eq_false (Nat.not_lt.2 c53)
                 have H':=ad_ H;clear H
                 go_wp2
                 go_meet
                 case rel=>exact ⟨_,(x4_6 ++ (⟨#[59,66,89,68,65,89,61]⟩:ByteArray)),val_,H',⟨by have:=HJ5.out;have:=HJ16.out;have:=HJ24.out;have:=HJ32.out;have:=HJ40.out;have:=HK6.out;first | omega | exact Nat.le_refl _⟩,⟨blo_ BK498.out⟩,⟨belg_⟩⟩
                ·(first | rw [c52b0] | (simp only [i64_w,i32_w];rw [c52b0]) | skip)
                 replace H:=in_ H;obtain ⟨c54,H⟩:=H;have c54b0:=eq_true c54;have c54b1:decide (x4_6.size + 1≤9223372036854775807)=true:=decide_eq_true c54
                 try have c54b2:(9223372036854775807 < x4_6.size + 1)=False:=eq_false (Nat.not_lt.2 c54)
                 have H':=ad_ H;clear H
                 go_wp2
                 go_meet
                 case rel=>exact ⟨_,(x4_6 ++ (⟨#[44]⟩:ByteArray)),val_,H',⟨by have:=HJ5.out;have:=HJ16.out;have:=HJ24.out;have:=HJ32.out;have:=HJ40.out;have:=HK6.out;first | omega | exact Nat.le_refl _⟩,⟨blo_ BK498.out⟩,⟨belg_⟩⟩
               case rest =>
                clear HC50;clear c49b0 hcz51_;obtain ⟨kq,x4_49,rfl,HA,HJ49,BK498,HB⟩:=hcut
                cases kq with
                | zero=>exact absurd HA.out (by simp [pr21_Write.j6])
                | succ kj49 =>
                 have H:=HA.out;clear HA
                 simp only [pr21_Write.j6] at H
                 replace H:=ind_ H;obtain ⟨c55b0,H⟩:=H
                 replace H:=ind_ H;obtain ⟨c56b0,H⟩:=H
                 replace H:=de_ H;rcases H with ⟨H,-,c57b0,c57b1⟩|⟨H,c57,c57b0,c57b1⟩
                 ·obtain ⟨t509,A580,H⟩:=bnd_ H
                  try dsimp only at H
                  have A58:=ad_ A580;clear A580
                  replace H:=in_ H;obtain ⟨c59,H⟩:=H;have c59b0:=eq_true c59;have c59b1:decide (x4_49.size + t509.size≤9223372036854775807)=true:=decide_eq_true c59
                  try have c59b2:(9223372036854775807 < x4_49.size + t509.size)=False:=eq_false (Nat.not_lt.2 c59)
                  have H':=ad_ H;clear H;have hcz60_:=cells7_ BK498.out;have p507:0≤(x7_6:Int):=dec_;have q507:x7_6 < (l0_6.length:Int):=dec_;obtain ⟨ad507,e507,hx507_0,hx507_1⟩:=at_T92 HR0_6.out x7_6 p507 q507
                  cases e507
                  replace hx507_0:=(HB.out.cell (World.block_lt_of_cell? w _ hx507_0)).trans hx507_0;replace hx507_1:=(HB.out.cell (World.block_lt_of_cell? w _ hx507_1)).trans hx507_1;replace p507:=eq_true p507;replace q507:=eq_true q507;have p508:0≤(x7_6:Int):=dec_;have q508:x7_6 < (l0_6.length:Int):=dec_;obtain ⟨ad508,e508,hx508_0,hx508_1⟩:=at_T92 HR0_6.out x7_6 p508 q508;obtain rfl:ad507=ad508:=(by injection e508);replace hx508_0:=(HB.out.cell (World.block_lt_of_cell? w _ hx508_0)).trans hx508_0;replace hx508_1:=(HB.out.cell (World.block_lt_of_cell? w _ hx508_1)).trans hx508_1;replace p508:=eq_true p508;replace q508:=eq_true q508
                  go_wp2_with (first | ((with_reducible refine gate_callee (f:=73) rfl ?_);refine goesL_ (some 102) rfl rfl Tryz.func73 (by kernel_rfl) rfl #[.int .i64 ((rd_T92 l0_6 x7_6).f0)] rfl arg_ ?_;(with_reducible refine (pr21_Sign.calls ((rd_T92 l0_6 x7_6).f0) t509 _ A58.out).mono ?_);rintro e w' ⟨rfl,⟨nd,rfl⟩⟩;refine ⟨_,rfl,?_⟩))
                  go_roundg kj49
                  case measure=>have:=HJ5.out;have:=HJ16.out;have:=HJ24.out;have:=HJ32.out;have:=HJ40.out;have:=HK6.out;have:=HJ49.out;omega
                  case rel=>exact ⟨(x4_49 ++ t509),(wrap64 (x7_6 + 1)),val_,val_,H',⟨by have:=HJ5.out;have:=HJ16.out;have:=HJ24.out;have:=HJ32.out;have:=HJ40.out;have:=HK6.out;have:=HJ49.out;omega⟩,⟨blo_ BK498.out⟩,⟨belg_⟩⟩
                 ·obtain ⟨t511,A610,H⟩:=bnd_ H
                  try dsimp only at H
                  have A61:=ad_ A610;clear A610
                  replace H:=in_ H;obtain ⟨c62,H⟩:=H;have c62b0:=eq_true c62;have c62b1:decide (x4_49.size + t511.size≤9223372036854775807)=true:=decide_eq_true c62
                  try have c62b2:(9223372036854775807 < x4_49.size + t511.size)=False:=eq_false (Nat.not_lt.2 c62)
                  obtain ⟨t513,A630,H⟩:=bnd_ H
                  try dsimp only at H
                  have A63:=ad_ A630;clear A630
                  replace H:=in_ H;obtain ⟨c64,H⟩:=H;have c64b0:=eq_true c64;have c64b1:decide ((x4_49 ++ t511).size + t513.size≤9223372036854775807)=true:=decide_eq_true c64
                  try have c64b2:(9223372036854775807 < (x4_49 ++ t511).size + t513.size)=False:=eq_false (Nat.not_lt.2 c64)
                  try have c64b3:(9223372036854775807 < x4_49.size + t511.size + t513.size)=False:=eq_false (Nat.not_lt.2 (by have h_:=c64;simp only [ByteArray.size_append] at h_;exact h_))
                  have H':=ad_ H;clear H;have hcz65_:=cells7_ BK498.out;have p507:0≤(x7_6:Int):=dec_;have q507:x7_6 < (l0_6.length:Int):=dec_;obtain ⟨ad507,e507,hx507_0,hx507_1⟩:=at_T92 HR0_6.out x7_6 p507 q507
                  cases e507
                  replace hx507_0:=(HB.out.cell (World.block_lt_of_cell? w _ hx507_0)).trans hx507_0;replace hx507_1:=(HB.out.cell (World.block_lt_of_cell? w _ hx507_1)).trans hx507_1;replace p507:=eq_true p507;replace q507:=eq_true q507;have p510:0≤(x7_6:Int):=dec_;have q510:x7_6 < (l0_6.length:Int):=dec_;obtain ⟨ad510,e510,hx510_0,hx510_1⟩:=at_T92 HR0_6.out x7_6 p510 q510;obtain rfl:ad507=ad510:=(by injection e510);replace hx510_0:=(HB.out.cell (World.block_lt_of_cell? w _ hx510_0)).trans hx510_0;replace hx510_1:=(HB.out.cell (World.block_lt_of_cell? w _ hx510_1)).trans hx510_1;replace p510:=eq_true p510;replace q510:=eq_true q510
                  go_wp2_with (first | ((with_reducible refine gate_callee (f:=70) rfl ?_);refine goesL_ (some 93) rfl rfl Tryz.func70 (by kernel_rfl) rfl #[.int .i64 ((rd_T92 l0_6 x7_6).f1)] rfl arg_ ?_;(with_reducible refine (pr21_Digits.calls kj49 ((rd_T92 l0_6 x7_6).f1) t511 _ A61.out).mono ?_);rintro e w66 ⟨rfl,hb⟩;refine ⟨_,rfl,?_⟩;replace BK498:=bkb_ BK498 hb;replace HB:=hbb_ hb;clear hb;have hcz67_:=cells7_ BK498.out;have p512:0≤(x7_6:Int):=dec_;have q512:x7_6 < (l0_6.length:Int):=dec_;obtain ⟨ad512,e512,hx512_0,hx512_1⟩:=at_T92 HR0_6.out x7_6 p512 q512;obtain rfl:ad507=ad512:=(by injection e512);replace hx512_0:=(HB.out.cell (World.block_lt_of_cell? w _ hx512_0)).trans hx512_0;replace hx512_1:=(HB.out.cell (World.block_lt_of_cell? w _ hx512_1)).trans hx512_1;replace p512:=eq_true p512;replace q512:=eq_true q512) | ((with_reducible refine gate_callee (f:=73) rfl ?_);refine goesL_ (some 102) rfl rfl Tryz.func73 (by kernel_rfl) rfl #[.int .i64 ((rd_T92 l0_6 x7_6).f0)] rfl arg_ ?_;(with_reducible refine (pr21_Sign.calls ((rd_T92 l0_6 x7_6).f0) t513 _ A63.out).mono ?_);rintro e w' ⟨rfl,⟨nd,rfl⟩⟩;refine ⟨_,rfl,?_⟩))
                  go_roundg kj49
                  case measure=>have:=HJ5.out;have:=HJ16.out;have:=HJ24.out;have:=HJ32.out;have:=HJ40.out;have:=HK6.out;have:=HJ49.out;omega
                  case rel=>exact ⟨((x4_49 ++ t511) ++ t513),(wrap64 (x7_6 + 1)),val_,val_,H',⟨by have:=HJ5.out;have:=HJ16.out;have:=HJ24.out;have:=HJ32.out;have:=HJ40.out;have:=HK6.out;have:=HJ49.out;omega⟩,⟨blo_ BK498.out⟩,⟨belg_⟩⟩
              ·simp only [Option.some.injEq,Prod.mk.injEq] at H
               obtain ⟨rfl,rfl⟩:=H;have hcz68_:=cells7_ BK498.out
               go_wp2
               go_ret2
               exact ⟨ret_,belg_⟩
 ·simp only [Option.some.injEq,Prod.mk.injEq] at H
  obtain ⟨rfl,rfl⟩:=H
  go_enter Tryz.func56,Tryz.ntmps56
  go_wp2_with (first | ((with_reducible refine gate_dst (N:=1) rfl ?_);refine box_event ?hg (N:=1) ?hd (cs:=#[.int .i64 a0_0,.int .i64 a0_1,.int .i64 a0_2,.int .i64 a0_3,.slice A0_4 l0_4.length c0_4,.slice A0_5 l0_5.length c0_5,.slice A0_6 l0_6.length c0_6]) (t:=34) ?hr ?_;(case hd=>rfl);(case hg=>rfl);(case hr=>first | (go_simp;done) | (go_simp;rfl));intro gb498 hg w69 hbox hb;have BK498:=ad_ (hbox);have GW498:=gw_ w hg;have GE498:=GW498;replace HB:=hbb_ hb;clear hb hbox hg;have hcz70_:=cells7_ BK498.out) | ((with_reducible refine gate_callee (f:=37) rfl ?_);refine goesL_ (some 9) rfl rfl Tryz.func37 (by kernel_rfl) rfl #[.agg #[.int .i64 a0_0,.int .i64 a0_1,.int .i64 a0_2,.int .i64 a0_3,.slice A0_4 l0_4.length c0_4,.slice A0_5 l0_5.length c0_5,.slice A0_6 l0_6.length c0_6]] rfl arg_ ?_;(with_reducible refine (pr21_Right.calls k a0_0 a0_1 a0_2 a0_3 _ _ l0_4 _ _ l0_5 _ _ l0_6 false _ ?_ ?_ ?_ ?_ ?_ ?_ A2.out).mono ?_);(iterate 6 exact sc_);rintro e w71 ⟨rfl,hb⟩;refine ⟨_,rfl,?_⟩;replace BK498:=bkb_ BK498 hb;replace HB:=hbb_ hb;clear hb))
  go_ret2
  exact ⟨ret_,belg_⟩
end Go.Proofs.YtkgkblmeafhkfaaGreat.PG

-- Written by a program of the session (wip/tools).
import Derived.Test.YtbeihceeliifeaaGreatDoorPRx0
import Derived.Test.YtbeihceeliifeaaGreatDoorPRx3
namespace Go.Proofs.YtbeihceeliifeaaGreatDoor.PR
open Go.RowKit Go.Proofs.YtbeihceeliifeaaGreatDoorW.PrintWords Go.Proofs.YtbeihceeliifeaaGreatDoorW.PrintLast Go.Proofs.YtbeihceeliifeaaGreatDoorW.PrintMore
attribute [local go_sem] max2_int min2_int max_two min_two max_three min_three max_four min_four   -- for this text's walks alone
set_option linter.unusedVariables false
set_option linter.unusedSimpArgs false

/-! ### recur_Right: function 19 -/
mutual
def recur_Right.j0:Nat→Bool→Int→Int→Int→Int→List Int→List Int→List (S53)→Option (Bool)
 | 0,_,_,_,_,_,_,_,_=>none
 | k + 1,x3,x107000,x107001,x107002,x107003,x107004,x107005,x107006=>if x107000 < 1 then (recur_Right.j1 k x3 true x107000 x107001 x107002 x107003 x107004 x107005 x107006) else (if x107000 > 4 then (recur_Right.j1 k x3 true x107000 x107001 x107002 x107003 x107004 x107005 x107006) else (if x107001 < 1 then (recur_Right.j1 k x3 true x107000 x107001 x107002 x107003 x107004 x107005 x107006) else (if x107001 > 1000 then (recur_Right.j1 k x3 true x107000 x107001 x107002 x107003 x107004 x107005 x107006) else (if x107002 < 0 then (recur_Right.j1 k x3 true x107000 x107001 x107002 x107003 x107004 x107005 x107006) else (recur_Right.j1 k x3 (decide (x107002 > 10000)) x107000 x107001 x107002 x107003 x107004 x107005 x107006)))))
def recur_Right.j1:Nat→Bool→Bool→Int→Int→Int→Int→List Int→List Int→List (S53)→Option (Bool)
 | 0,_,_,_,_,_,_,_,_,_=>none
 | k + 1,x3,x41,x107000,x107001,x107002,x107003,x107004,x107005,x107006=>if x41=true then (some false) else (if x107003=(-1) then ((recur_rises.f k x107004 1 12).bind fun t107=>(if t107=true then ((recur_rises.f k x107005 (-31) 31).bind fun t108=>(if t108=true then (if x3=true then (recur_Right.j2 k x3 false x107000 x107001 x107002 x107003 x107004 x107005 x107006) else (recur_Right.j2 k x3 (decide ((x107005.length:Int) > 0)) x107000 x107001 x107002 x107003 x107004 x107005 x107006)) else (recur_Right.j2 k x3 true x107000 x107001 x107002 x107003 x107004 x107005 x107006))) else (recur_Right.j2 k x3 true x107000 x107001 x107002 x107003 x107004 x107005 x107006))) else ((when_Right.f x107003).bind fun t109=>(if t109=true then (if x107002=0 then ((recur_rises.f k x107004 1 12).bind fun t110=>(if t110=true then ((recur_rises.f k x107005 (-31) 31).bind fun t111=>(if t111=true then (if x3=true then (recur_Right.j2 k x3 false x107000 x107001 x107002 x107003 x107004 x107005 x107006) else (recur_Right.j2 k x3 (decide ((x107005.length:Int) > 0)) x107000 x107001 x107002 x107003 x107004 x107005 x107006)) else (recur_Right.j2 k x3 true x107000 x107001 x107002 x107003 x107004 x107005 x107006))) else (recur_Right.j2 k x3 true x107000 x107001 x107002 x107003 x107004 x107005 x107006))) else (recur_Right.j2 k x3 true x107000 x107001 x107002 x107003 x107004 x107005 x107006)) else (recur_Right.j2 k x3 true x107000 x107001 x107002 x107003 x107004 x107005 x107006))))
def recur_Right.j2:Nat→Bool→Bool→Int→Int→Int→Int→List Int→List Int→List (S53)→Option (Bool)
 | 0,_,_,_,_,_,_,_,_,_=>none
 | k + 1,x3,x77,x107000,x107001,x107002,x107003,x107004,x107005,x107006=>if x77=true then (some false) else (recur_Right.l0 k x3 x107006 (x107006.length:Int) 0 x107000 x107001 x107002 x107003 x107004 x107005 x107006)
def recur_Right.l0:Nat→Bool→List (S53)→Int→Int→Int→Int→Int→Int→List Int→List Int→List (S53)→Option (Bool)
 | 0,_,_,_,_,_,_,_,_,_,_,_=>none
 | k + 1,x3,x79,x80,x81,x107000,x107001,x107002,x107003,x107004,x107005,x107006=>if x81 < x80 then (if 0≤x81 then (if x81 < (x79.length:Int) then (if ((rd_T53 x79 x81).f0) < 0 then (recur_Right.j4 k x3 x81 x79 x80 x81 true x107000 x107001 x107002 x107003 x107004 x107005 x107006 ((rd_T53 x79 x81).f0) ((rd_T53 x79 x81).f1)) else (if ((rd_T53 x79 x81).f0) > 6 then (recur_Right.j4 k x3 x81 x79 x80 x81 true x107000 x107001 x107002 x107003 x107004 x107005 x107006 ((rd_T53 x79 x81).f0) ((rd_T53 x79 x81).f1)) else (if ((rd_T53 x79 x81).f1) < (-5) then (recur_Right.j4 k x3 x81 x79 x80 x81 true x107000 x107001 x107002 x107003 x107004 x107005 x107006 ((rd_T53 x79 x81).f0) ((rd_T53 x79 x81).f1)) else (if ((rd_T53 x79 x81).f1) > 5 then (recur_Right.j4 k x3 x81 x79 x80 x81 true x107000 x107001 x107002 x107003 x107004 x107005 x107006 ((rd_T53 x79 x81).f0) ((rd_T53 x79 x81).f1)) else (if x3=true then (recur_Right.j4 k x3 x81 x79 x80 x81 false x107000 x107001 x107002 x107003 x107004 x107005 x107006 ((rd_T53 x79 x81).f0) ((rd_T53 x79 x81).f1)) else (recur_Right.j4 k x3 x81 x79 x80 x81 (((rd_T53 x79 x81).f1) != 0) x107000 x107001 x107002 x107003 x107004 x107005 x107006 ((rd_T53 x79 x81).f0) ((rd_T53 x79 x81).f1))))))) else (none)) else (none)) else (some true)
def recur_Right.j4:Nat→Bool→Int→List (S53)→Int→Int→Bool→Int→Int→Int→Int→List Int→List Int→List (S53)→Int→Int→Option (Bool)
 | 0,_,_,_,_,_,_,_,_,_,_,_,_,_,_,_=>none
 | k + 1,x3,x4,x79,x80,x81,x112,x107000,x107001,x107002,x107003,x107004,x107005,x107006,x114000,x114001=>if x112=true then (some false) else (if x4 > 0 then (if 0≤(wrap64 (x4 - 1)) then (if (wrap64 (x4 - 1)) < (x107006.length:Int) then ((recur_order.f ((rd_T53 x107006 (wrap64 (x4 - 1))).f0) ((rd_T53 x107006 (wrap64 (x4 - 1))).f1) x114000 x114001).bind fun t115=>(if t115 ≥ 0 then (some false) else (recur_Right.l0 k x3 x79 x80 (wrap64 (x81 + 1)) x107000 x107001 x107002 x107003 x107004 x107005 x107006))) else (none)) else (none)) else (recur_Right.l0 k x3 x79 x80 (wrap64 (x81 + 1)) x107000 x107001 x107002 x107003 x107004 x107005 x107006))
end
def recur_Right.f (k:Nat) (a0_0:Int) (a0_1:Int) (a0_2:Int) (a0_3:Int) (l0_4:List Int) (l0_5:List Int) (l0_6:List (S53)):Option (Bool):=if a0_0=3 then (recur_Right.j0 k true a0_0 a0_1 a0_2 a0_3 l0_4 l0_5 l0_6) else (recur_Right.j0 k (a0_0 == 4) a0_0 a0_1 a0_2 a0_3 l0_4 l0_5 l0_6)
def recur_Right.T11:Bool×List (List Nat×List Nat):=(true,[([],[]),([0],[0]),([1],[1]),([2],[2]),([3,2],[2,3]),([2],[2]),([5,2],[2,5]),([4,6,2],[2,4,6]),([7,2],[2,7]),([2],[2]),([8,9,2,2],[2,8,9]),([10,2],[2,10]),([2,11],[2,11])])
def recur_Right.B11:List Nat:=[0,1,3,7,15,7,39,127,255,7,1023,2047,4095]
theorem recur_Right.tab11:rtab .any (opsOf Tryz.f19 11)=recur_Right.T11:=by kernel_rfl
theorem recur_Right.bits11:waitsOk recur_Right.T11.2 recur_Right.B11=true:=by kernel_rfl
set_option maxHeartbeats 8000000 in
set_option maxRecDepth 100000 in
theorem recur_Right.calls (k:Nat) (a0_0:Int) (a0_1:Int) (a0_2:Int) (a0_3:Int) (A0_4:Option Addr) (c0_4:Nat) (l0_4:List Int) (A0_5:Option Addr) (c0_5:Nat) (l0_5:List Int) (A0_6:Option Addr) (c0_6:Nat) (l0_6:List (S53)) (r:Bool) (w:World) (hr0_4:Kd.C (Kd.int .i64) w A0_4 l0_4.length l0_4) (hc0_4:l0_4.length≤c0_4) (hr0_5:Kd.C (Kd.int .i64) w A0_5 l0_5.length l0_5) (hc0_5:l0_5.length≤c0_5) (hr0_6:Kd.C k53 w A0_6 l0_6.length l0_6) (hc0_6:l0_6.length≤c0_6) (h:recur_Right.f k a0_0 a0_1 a0_2 a0_3 l0_4 l0_5 l0_6=some r) :
  Calls Tryz.prog 19 #[.agg #[.int .i64 a0_0,.int .i64 a0_1,.int .i64 a0_2,.int .i64 a0_3,.slice A0_4 l0_4.length c0_4,.slice A0_5 l0_5.length c0_5,.slice A0_6 l0_6.length c0_6]] w fun e w'=>e = .returned (.bool r)∧Below w.heap.size w w':=by
 have hu25:=Tryz.underlying25;have hu53:=Tryz.underlying53;have HR0_4:=Aside0.mk hr0_4;have HC0_4:=Aside0.mk hc0_4;clear hr0_4 hc0_4;have HR0_5:=Aside0.mk hr0_5;have HC0_5:=Aside0.mk hc0_5;clear hr0_5 hc0_5;have HR0_6:=Aside0.mk hr0_6;have HC0_6:=Aside0.mk hc0_6;clear hr0_6 hc0_6;have HB:=ad_ (Below.refl w.heap.size w);have H:(if a0_0=3 then (recur_Right.j0 k true a0_0 a0_1 a0_2 a0_3 l0_4 l0_5 l0_6) else (recur_Right.j0 k (a0_0 == 4) a0_0 a0_1 a0_2 a0_3 l0_4 l0_5 l0_6))=some r:=h;clear h;have HC2:=Aside0.mk H;clear H
 go_enter Tryz.func19,Tryz.ntmps19
 go_upto_region 1 with (first | ((with_reducible refine gate_dst (N:=1) rfl ?_);(try (refine gate_guard (by rfl) ?_;dsimp only));refine box_event ?hg (N:=1) ?hd (cs:=#[.int .i64 a0_0,.int .i64 a0_1,.int .i64 a0_2,.int .i64 a0_3,.slice A0_4 l0_4.length c0_4,.slice A0_5 l0_5.length c0_5,.slice A0_6 l0_6.length c0_6]) (t:=25) ?hr ?_;(case hd=>rfl);(case hg=>rfl);(case hr=>first | (go_simp;done) | (go_simp;rfl));intro gb106 hg w3 hbox hb;have BK106:=ad_ (hbox);have GW106:=ad_ ((by rw [hg];exact (below_size bel_):w.heap.size≤gb106));have GE106:=ad_ ((by rw [hg];exact (below_size bel_):w.heap.size≤gb106));replace HB:=hbb_ hb;clear hb hbox hg))
 (try simp only [Act.put,List.setIfInBounds_toArray,List.set_cons_zero,List.set_cons_succ])
 go_cut [3] (fun v3 wc=>∃ (kq:Nat) (x3_1:Bool),v3 = .bool x3_1∧Aside0 (recur_Right.j0 kq x3_1 a0_0 a0_1 a0_2 a0_3 l0_4 l0_5 l0_6=some r)∧Aside0 (kq≤k)∧Aside0 (wc.heap[gb106]? = some (.cells #[.int .i64 a0_0,.int .i64 a0_1,.int .i64 a0_2,.int .i64 a0_3,(.slice A0_4 l0_4.length c0_4),(.slice A0_5 l0_5.length c0_5),(.slice A0_6 l0_6.length c0_6)] 25 (0,0)))∧Aside0 (Below w.heap.size w wc))
 case first =>
  have H:=HC2.out;clear HC2
  by_cases c4:a0_0=3
  ·rw [if_pos c4] at H;have c4b0:(a0_0 == 3)=true:=beq_iff_eq.mpr c4;have c4b1:(a0_0 != 3)=false:=bne_eq_false_iff_eq.mpr c4;clear c4
   (first | rw [c4b0] | (simp only [i64_w,i32_w];rw [c4b0]) | skip)
   have H':=ad_ H;clear H;have hcz5_:=cells7_ BK106.out
   go_wp2
   go_meet
   case rel=>exact ⟨_,(true),val_,H',⟨by first | omega | exact Nat.le_refl _⟩,⟨blo_ BK106.out⟩,⟨belg_⟩⟩
  ·rw [if_neg c4] at H;have c4b0:(a0_0 == 3)=false:=beq_eq_false_iff_ne.mpr c4;have c4b1:(a0_0 != 3)=true:=bne_iff_ne.mpr c4
   (first | rw [c4b0] | (simp only [i64_w,i32_w];rw [c4b0]) | skip)
   have H':=ad_ H;clear H;have hcz6_:=cells7_ BK106.out
   go_wp2
   go_meet
   case rel=>exact ⟨_,((a0_0 == 4)),val_,H',⟨by first | omega | exact Nat.le_refl _⟩,⟨blo_ BK106.out⟩,⟨belg_⟩⟩
 case rest =>
  clear HC2;(try clear c1);(try clear p2);(try clear c4);(try clear c4b0);(try clear c4b1);(try clear hcz5_);(try clear hcz6_);obtain ⟨kq,x3_1,rfl,HA,HJ1,BK106,HB⟩:=hcut
  cases kq with
  | zero=>exact absurd HA.out (by simp [recur_Right.j0])
  | succ kj1 =>
   have H:=HA.out;clear HA
   simp only [recur_Right.j0] at H
   have HC7:=Aside0.mk H;clear H
   go_upto_region 2 with (fail)
   go_cut [41] (fun v41 wc=>∃ (kq:Nat) (x41_6:Bool),v41 = .bool x41_6∧Aside0 (recur_Right.j1 kq x3_1 x41_6 a0_0 a0_1 a0_2 a0_3 l0_4 l0_5 l0_6=some r)∧Aside0 (kq≤kj1)∧Aside0 (wc.heap[gb106]? = some (.cells #[.int .i64 a0_0,.int .i64 a0_1,.int .i64 a0_2,.int .i64 a0_3,(.slice A0_4 l0_4.length c0_4),(.slice A0_5 l0_5.length c0_5),(.slice A0_6 l0_6.length c0_6)] 25 (0,0)))∧Aside0 (Below w.heap.size w wc))
   case first =>
    have H:=HC7.out;clear HC7
    by_cases c8:a0_0 < 1
    ·rw [if_pos c8] at H;have c8b0:decide (a0_0 < 1)=true:=decide_eq_true c8;clear c8
     (first | rw [c8b0] | (simp only [i64_w,i32_w];rw [c8b0]) | skip)
     have H':=ad_ H;clear H;have hcz9_:=cells7_ BK106.out
     go_wp2
     go_meet
     case rel=>exact ⟨_,(true),val_,H',⟨by have:=HJ1.out;first | omega | exact Nat.le_refl _⟩,⟨blo_ BK106.out⟩,⟨belg_⟩⟩
    ·rw [if_neg c8] at H;have c8b0:decide (a0_0 < 1)=false:=decide_eq_false c8;clear c8
     (first | rw [c8b0] | (simp only [i64_w,i32_w];rw [c8b0]) | skip)
     by_cases c10:a0_0 > 4
     ·rw [if_pos c10] at H;have c10b0:decide (4 < a0_0)=true:=decide_eq_true c10;clear c10;have H':=ad_ H;clear H;have hcz11_:=cells7_ BK106.out
      go_wp2
      go_meet
      case rel=>exact ⟨_,(true),val_,H',⟨by have:=HJ1.out;first | omega | exact Nat.le_refl _⟩,⟨blo_ BK106.out⟩,⟨belg_⟩⟩
     ·rw [if_neg c10] at H;have c10b0:decide (4 < a0_0)=false:=decide_eq_false c10;clear c10
      by_cases c12:a0_1 < 1
      ·rw [if_pos c12] at H;have c12b0:decide (a0_1 < 1)=true:=decide_eq_true c12;clear c12;have H':=ad_ H;clear H;have hcz13_:=cells7_ BK106.out
       go_wp2
       go_meet
       case rel=>exact ⟨_,(true),val_,H',⟨by have:=HJ1.out;first | omega | exact Nat.le_refl _⟩,⟨blo_ BK106.out⟩,⟨belg_⟩⟩
      ·rw [if_neg c12] at H;have c12b0:decide (a0_1 < 1)=false:=decide_eq_false c12;clear c12
       by_cases c14:a0_1 > 1000
       ·rw [if_pos c14] at H;have c14b0:decide (1000 < a0_1)=true:=decide_eq_true c14;clear c14;have H':=ad_ H;clear H;have hcz15_:=cells7_ BK106.out
        go_wp2
        go_meet
        case rel=>exact ⟨_,(true),val_,H',⟨by have:=HJ1.out;first | omega | exact Nat.le_refl _⟩,⟨blo_ BK106.out⟩,⟨belg_⟩⟩
       ·rw [if_neg c14] at H;have c14b0:decide (1000 < a0_1)=false:=decide_eq_false c14;clear c14
        by_cases c16:a0_2 < 0
        ·rw [if_pos c16] at H;have c16b0:decide (a0_2 < 0)=true:=decide_eq_true c16;clear c16;have H':=ad_ H;clear H;have hcz17_:=cells7_ BK106.out
         go_wp2
         go_meet
         case rel=>exact ⟨_,(true),val_,H',⟨by have:=HJ1.out;first | omega | exact Nat.le_refl _⟩,⟨blo_ BK106.out⟩,⟨belg_⟩⟩
        ·rw [if_neg c16] at H;have c16b0:decide (a0_2 < 0)=false:=decide_eq_false c16;clear c16;have H':=ad_ H;clear H;have hcz18_:=cells7_ BK106.out
         go_wp2
         go_meet
         case rel=>exact ⟨_,(decide (a0_2 > 10000)),val_,H',⟨by have:=HJ1.out;first | omega | exact Nat.le_refl _⟩,⟨blo_ BK106.out⟩,⟨belg_⟩⟩
   case rest =>
    clear HC7;(try clear c1);(try clear p2);(try clear c4);(try clear c4b0);(try clear c4b1);(try clear c8);(try clear c8b0);(try clear c10);(try clear c10b0);(try clear c12);(try clear c12b0);(try clear c14);(try clear c14b0);(try clear c16);(try clear c16b0);(try clear hcz11_);(try clear hcz13_);(try clear hcz15_);(try clear hcz17_);(try clear hcz18_);(try clear hcz5_);(try clear hcz6_);(try clear hcz9_);(try clear p2);obtain ⟨kq,x41_6,rfl,HA,HJ6,BK106,HB⟩:=hcut
    cases kq with
    | zero=>exact absurd HA.out (by simp [recur_Right.j1])
    | succ kj6 =>
     have H:=HA.out;clear HA
     simp only [recur_Right.j1] at H
     by_cases c19:x41_6=true
     ·subst c19;replace H:=ifp_ H;obtain rfl:=Option.some.inj H
      go_wp2
      go_ret
      exact ⟨ret_,belg_⟩
     ·replace c19:=Bool.eq_false_iff.mpr c19;subst c19;replace H:=ifn_ H;have HC20:=Aside0.mk H;clear H
      go_upto_region 4 with (fail)
      go_cut [77] (fun v77 wc=>∃ (kq:Nat) (x77_19:Bool),v77 = .bool x77_19∧Aside0 (recur_Right.j2 kq x3_1 x77_19 a0_0 a0_1 a0_2 a0_3 l0_4 l0_5 l0_6=some r)∧Aside0 (kq≤kj6)∧Aside0 (wc.heap[gb106]? = some (.cells #[.int .i64 a0_0,.int .i64 a0_1,.int .i64 a0_2,.int .i64 a0_3,(.slice A0_4 l0_4.length c0_4),(.slice A0_5 l0_5.length c0_5),(.slice A0_6 l0_6.length c0_6)] 25 (0,0)))∧Aside0 (Below w.heap.size w wc))
      case first =>
       have H:=HC20.out;clear HC20
       by_cases c21:a0_3=(-1)
       ·rw [if_pos c21] at H;have c21b0:(a0_3 == (-1))=true:=beq_iff_eq.mpr c21;have c21b1:(a0_3 != (-1))=false:=bne_eq_false_iff_eq.mpr c21;clear c21
        (first | rw [c21b0] | (simp only [i64_w,i32_w];rw [c21b0]) | skip)
        obtain ⟨t107,A220,H⟩:=bnd_ H
        try dsimp only at H
        have A22:=ad_ A220;clear A220
        by_cases c23:t107=true
        ·subst c23;replace H:=ifp_ H;obtain ⟨t108,A240,H⟩:=bnd_ H
         try dsimp only at H
         have A24:=ad_ A240;clear A240
         by_cases c25:t108=true
         ·subst c25;replace H:=ifp_ H
          by_cases c26:x3_1=true
          ·subst c26;replace H:=ifp_ H;have H':=ad_ H;clear H;have hcz27_:=cells7_ BK106.out
           go_wp2_with (first | (go_at_call 32;(with_reducible refine (recur_rises.calls kj6 _ _ l0_4 1 12 true _ ?_ ?_ A22.out).mono ?_);(iterate 2 exact sc_);rintro e w' ⟨rfl,⟨nd,rfl⟩⟩) | (go_at_call 32;(with_reducible refine (recur_rises.calls kj6 _ _ l0_5 (-31) 31 true _ ?_ ?_ A24.out).mono ?_);exact cop_ (Kd.C_below HR0_5.out belg_);exact HC0_5.out;rintro e w' ⟨rfl,⟨nd,rfl⟩⟩))
           go_meet
           case rel=>exact ⟨_,(false),val_,H',⟨by have:=HJ1.out;have:=HJ6.out;first | omega | exact Nat.le_refl _⟩,⟨blo_ BK106.out⟩,⟨belg_⟩⟩
          ·replace c26:=Bool.eq_false_iff.mpr c26;subst c26;replace H:=ifn_ H;have H':=ad_ H;clear H;have hcz28_:=cells7_ BK106.out
           go_wp2_with (first | (go_at_call 32;(with_reducible refine (recur_rises.calls kj6 _ _ l0_4 1 12 true _ ?_ ?_ A22.out).mono ?_);(iterate 2 exact sc_);rintro e w' ⟨rfl,⟨nd,rfl⟩⟩) | (go_at_call 32;(with_reducible refine (recur_rises.calls kj6 _ _ l0_5 (-31) 31 true _ ?_ ?_ A24.out).mono ?_);exact cop_ (Kd.C_below HR0_5.out belg_);exact HC0_5.out;rintro e w' ⟨rfl,⟨nd,rfl⟩⟩))
           go_meet
           case rel=>exact ⟨_,(decide ((l0_5.length:Int) > 0)),val_,H',⟨by have:=HJ1.out;have:=HJ6.out;first | omega | exact Nat.le_refl _⟩,⟨blo_ BK106.out⟩,⟨belg_⟩⟩
         ·replace c25:=Bool.eq_false_iff.mpr c25;subst c25;replace H:=ifn_ H;have H':=ad_ H;clear H;have hcz29_:=cells7_ BK106.out
          go_wp2_with (first | (go_at_call 32;(with_reducible refine (recur_rises.calls kj6 _ _ l0_4 1 12 true _ ?_ ?_ A22.out).mono ?_);(iterate 2 exact sc_);rintro e w' ⟨rfl,⟨nd,rfl⟩⟩) | (go_at_call 32;(with_reducible refine (recur_rises.calls kj6 _ _ l0_5 (-31) 31 false _ ?_ ?_ A24.out).mono ?_);exact cop_ (Kd.C_below HR0_5.out belg_);exact HC0_5.out;rintro e w' ⟨rfl,⟨nd,rfl⟩⟩))
          go_meet
          case rel=>exact ⟨_,(true),val_,H',⟨by have:=HJ1.out;have:=HJ6.out;first | omega | exact Nat.le_refl _⟩,⟨blo_ BK106.out⟩,⟨belg_⟩⟩
        ·replace c23:=Bool.eq_false_iff.mpr c23;subst c23;replace H:=ifn_ H;have H':=ad_ H;clear H;have hcz30_:=cells7_ BK106.out
         go_wp2_with (first | (go_at_call 32;(with_reducible refine (recur_rises.calls kj6 _ _ l0_4 1 12 false _ ?_ ?_ A22.out).mono ?_);(iterate 2 exact sc_);rintro e w' ⟨rfl,⟨nd,rfl⟩⟩))
         go_meet
         case rel=>exact ⟨_,(true),val_,H',⟨by have:=HJ1.out;have:=HJ6.out;first | omega | exact Nat.le_refl _⟩,⟨blo_ BK106.out⟩,⟨belg_⟩⟩
       ·rw [if_neg c21] at H;have c21b0:(a0_3 == (-1))=false:=beq_eq_false_iff_ne.mpr c21;have c21b1:(a0_3 != (-1))=true:=bne_iff_ne.mpr c21
        (first | rw [c21b0] | (simp only [i64_w,i32_w];rw [c21b0]) | skip)
        obtain ⟨t109,A310,H⟩:=bnd_ H
        try dsimp only at H
        have A31:=ad_ A310;clear A310
        by_cases c32:t109=true
        ·subst c32;replace H:=ifp_ H
         by_cases c33:a0_2=0
         ·rw [if_pos c33] at H;have c33b0:(a0_2 == 0)=true:=beq_iff_eq.mpr c33;have c33b1:(a0_2 != 0)=false:=bne_eq_false_iff_eq.mpr c33;clear c33;obtain ⟨t110,A340,H⟩:=bnd_ H
          try dsimp only at H
          have A34:=ad_ A340;clear A340
          by_cases c35:t110=true
          ·subst c35;replace H:=ifp_ H;obtain ⟨t111,A360,H⟩:=bnd_ H
           try dsimp only at H
           have A36:=ad_ A360;clear A360
           by_cases c37:t111=true
           ·subst c37;replace H:=ifp_ H
            by_cases c38:x3_1=true
            ·subst c38;replace H:=ifp_ H;have H':=ad_ H;clear H;have hcz39_:=cells7_ BK106.out
             go_wp2_with (first | (go_at_call 24;(with_reducible refine (when_Right.calls a0_3 true _ A31.out).mono ?_);rintro e w' ⟨rfl,⟨nd,rfl⟩⟩) | (go_at_call 32;(with_reducible refine (recur_rises.calls kj6 _ _ l0_4 1 12 true _ ?_ ?_ A34.out).mono ?_);exact cop_ (Kd.C_below HR0_4.out belg_);exact HC0_4.out;rintro e w' ⟨rfl,⟨nd,rfl⟩⟩) | (go_at_call 32;(with_reducible refine (recur_rises.calls kj6 _ _ l0_5 (-31) 31 true _ ?_ ?_ A36.out).mono ?_);exact cop_ (Kd.C_below HR0_5.out belg_);exact HC0_5.out;rintro e w' ⟨rfl,⟨nd,rfl⟩⟩))
             go_meet
             case rel=>exact ⟨_,(false),val_,H',⟨by have:=HJ1.out;have:=HJ6.out;first | omega | exact Nat.le_refl _⟩,⟨blo_ BK106.out⟩,⟨belg_⟩⟩
            ·replace c38:=Bool.eq_false_iff.mpr c38;subst c38;replace H:=ifn_ H;have H':=ad_ H;clear H;have hcz40_:=cells7_ BK106.out
             go_wp2_with (first | (go_at_call 24;(with_reducible refine (when_Right.calls a0_3 true _ A31.out).mono ?_);rintro e w' ⟨rfl,⟨nd,rfl⟩⟩) | (go_at_call 32;(with_reducible refine (recur_rises.calls kj6 _ _ l0_4 1 12 true _ ?_ ?_ A34.out).mono ?_);exact cop_ (Kd.C_below HR0_4.out belg_);exact HC0_4.out;rintro e w' ⟨rfl,⟨nd,rfl⟩⟩) | (go_at_call 32;(with_reducible refine (recur_rises.calls kj6 _ _ l0_5 (-31) 31 true _ ?_ ?_ A36.out).mono ?_);exact cop_ (Kd.C_below HR0_5.out belg_);exact HC0_5.out;rintro e w' ⟨rfl,⟨nd,rfl⟩⟩))
             go_meet
             case rel=>exact ⟨_,(decide ((l0_5.length:Int) > 0)),val_,H',⟨by have:=HJ1.out;have:=HJ6.out;first | omega | exact Nat.le_refl _⟩,⟨blo_ BK106.out⟩,⟨belg_⟩⟩
           ·replace c37:=Bool.eq_false_iff.mpr c37;subst c37;replace H:=ifn_ H;have H':=ad_ H;clear H;have hcz41_:=cells7_ BK106.out
            go_wp2_with (first | (go_at_call 24;(with_reducible refine (when_Right.calls a0_3 true _ A31.out).mono ?_);rintro e w' ⟨rfl,⟨nd,rfl⟩⟩) | (go_at_call 32;(with_reducible refine (recur_rises.calls kj6 _ _ l0_4 1 12 true _ ?_ ?_ A34.out).mono ?_);exact cop_ (Kd.C_below HR0_4.out belg_);exact HC0_4.out;rintro e w' ⟨rfl,⟨nd,rfl⟩⟩) | (go_at_call 32;(with_reducible refine (recur_rises.calls kj6 _ _ l0_5 (-31) 31 false _ ?_ ?_ A36.out).mono ?_);exact cop_ (Kd.C_below HR0_5.out belg_);exact HC0_5.out;rintro e w' ⟨rfl,⟨nd,rfl⟩⟩))
            go_meet
            case rel=>exact ⟨_,(true),val_,H',⟨by have:=HJ1.out;have:=HJ6.out;first | omega | exact Nat.le_refl _⟩,⟨blo_ BK106.out⟩,⟨belg_⟩⟩
          ·replace c35:=Bool.eq_false_iff.mpr c35;subst c35;replace H:=ifn_ H;have H':=ad_ H;clear H;have hcz42_:=cells7_ BK106.out
           go_wp2_with (first | (go_at_call 24;(with_reducible refine (when_Right.calls a0_3 true _ A31.out).mono ?_);rintro e w' ⟨rfl,⟨nd,rfl⟩⟩) | (go_at_call 32;(with_reducible refine (recur_rises.calls kj6 _ _ l0_4 1 12 false _ ?_ ?_ A34.out).mono ?_);exact cop_ (Kd.C_below HR0_4.out belg_);exact HC0_4.out;rintro e w' ⟨rfl,⟨nd,rfl⟩⟩))
           go_meet
           case rel=>exact ⟨_,(true),val_,H',⟨by have:=HJ1.out;have:=HJ6.out;first | omega | exact Nat.le_refl _⟩,⟨blo_ BK106.out⟩,⟨belg_⟩⟩
         ·rw [if_neg c33] at H;have c33b0:(a0_2 == 0)=false:=beq_eq_false_iff_ne.mpr c33;have c33b1:(a0_2 != 0)=true:=bne_iff_ne.mpr c33;have H':=ad_ H;clear H;have hcz43_:=cells7_ BK106.out
          go_wp2_with (first | (go_at_call 24;(with_reducible refine (when_Right.calls a0_3 true _ A31.out).mono ?_);rintro e w' ⟨rfl,⟨nd,rfl⟩⟩))
          go_meet
          case rel=>exact ⟨_,(true),val_,H',⟨by have:=HJ1.out;have:=HJ6.out;first | omega | exact Nat.le_refl _⟩,⟨blo_ BK106.out⟩,⟨belg_⟩⟩
        ·replace c32:=Bool.eq_false_iff.mpr c32;subst c32;replace H:=ifn_ H;have H':=ad_ H;clear H;have hcz44_:=cells7_ BK106.out
         go_wp2_with (first | (go_at_call 24;(with_reducible refine (when_Right.calls a0_3 false _ A31.out).mono ?_);rintro e w' ⟨rfl,⟨nd,rfl⟩⟩))
         go_meet
         case rel=>exact ⟨_,(true),val_,H',⟨by have:=HJ1.out;have:=HJ6.out;first | omega | exact Nat.le_refl _⟩,⟨blo_ BK106.out⟩,⟨belg_⟩⟩
      case rest =>
       clear HC20;(try clear c1);(try clear c2);(try clear p2);(try clear c3);(try clear c4);(try clear c4b0);(try clear c4b1);(try clear c8);(try clear c8b0);(try clear c10);(try clear c10b0);(try clear c12);(try clear c12b0);(try clear c14);(try clear c14b0);(try clear c16);(try clear c16b0);(try clear c19);(try clear c21);(try clear c21b0);(try clear c21b1);(try clear c23);(try clear c25);(try clear c26);(try clear c32);(try clear c33);(try clear c33b0);(try clear c33b1);(try clear c35);(try clear c37);(try clear c38);(try clear hcz11_);(try clear hcz13_);(try clear hcz15_);(try clear hcz17_);(try clear hcz18_);(try clear hcz27_);(try clear hcz28_);(try clear hcz29_);(try clear hcz30_);(try clear hcz39_);(try clear hcz40_);(try clear hcz41_);(try clear hcz42_);(try clear hcz43_);(try clear hcz44_);(try clear hcz5_);(try clear hcz6_);(try clear hcz9_);(try clear p2);obtain ⟨kq,x77_19,rfl,HA,HJ19,BK106,HB⟩:=hcut
       cases kq with
       | zero=>exact absurd HA.out (by simp [recur_Right.j2])
       | succ kj19 =>
        have H:=HA.out;clear HA
        simp only [recur_Right.j2] at H
        by_cases c45:x77_19=true
        ·subst c45;replace H:=ifp_ H;obtain rfl:=Option.some.inj H
         go_wp2
         go_ret
         exact ⟨ret_,belg_⟩
        ·replace c45:=Bool.eq_false_iff.mpr c45;subst c45;replace H:=ifn_ H;have H':=ad_ H;clear H;have hcz46_:=cells7_ BK106.out
         go_wp2
         go_loopg [81] kj19 (fun kq v81 w'=>∃ (x81_4:Int),v81 = .int .i64 x81_4∧Aside0 (recur_Right.l0 kq x3_1 l0_6 (l0_6.length:Int) x81_4 a0_0 a0_1 a0_2 a0_3 l0_4 l0_5 l0_6=some r)∧Aside0 (kq≤kj19)∧Aside0 (w'.heap[gb106]? = some (.cells #[.int .i64 a0_0,.int .i64 a0_1,.int .i64 a0_2,.int .i64 a0_3,(.slice A0_4 l0_4.length c0_4),(.slice A0_5 l0_5.length c0_5),(.slice A0_6 l0_6.length c0_6)] 25 (0,0)))∧Aside0 (Below w.heap.size w w'))
         case atStart=>exact ⟨(0),val_,H',⟨Nat.le_refl _⟩,⟨blo_ BK106.out⟩,⟨belg_⟩⟩
         case round =>
          clear H';(try clear c1);(try clear c2);(try clear p2);(try clear c3);(try clear c4);(try clear c4b0);(try clear c4b1);(try clear c8);(try clear c8b0);(try clear c10);(try clear c10b0);(try clear c12);(try clear c12b0);(try clear c14);(try clear c14b0);(try clear c16);(try clear c16b0);(try clear c19);(try clear c21);(try clear c21b0);(try clear c21b1);(try clear c23);(try clear c25);(try clear c26);(try clear c32);(try clear c33);(try clear c33b0);(try clear c33b1);(try clear c35);(try clear c37);(try clear c38);(try clear c45);(try clear hcz11_);(try clear hcz13_);(try clear hcz15_);(try clear hcz17_);(try clear hcz18_);(try clear hcz27_);(try clear hcz28_);(try clear hcz29_);(try clear hcz30_);(try clear hcz39_);(try clear hcz40_);(try clear hcz41_);(try clear hcz42_);(try clear hcz43_);(try clear hcz44_);(try clear hcz46_);(try clear hcz5_);(try clear hcz6_);(try clear hcz9_);(try clear p2);obtain ⟨x81_4,rfl,HA,HK4,BK106,HB⟩:=hrel
          cases gk with
          | zero=>exact absurd HA.out (by simp [recur_Right.l0])
          | succ k4 =>
           have H:=HA.out;clear HA
           simp only [recur_Right.l0] at H
           by_cases c47:x81_4 < (l0_6.length:Int)
           ·rw [if_pos c47] at H;have c47b0:decide (x81_4 < (l0_6.length:Int))=true:=decide_eq_true c47;clear c47
            by_cases c48:0≤x81_4
            ·rw [if_pos c48] at H;have c48b0:decide (0≤x81_4)=true:=decide_eq_true c48;clear c48
             by_cases c49:x81_4 < (l0_6.length:Int)
             ·rw [if_pos c49] at H;have c49b0:decide (x81_4 < (l0_6.length:Int))=true:=decide_eq_true c49;clear c49;have HC50:=Aside0.mk H;clear H;have p112:0≤(x81_4:Int):=dec_;have q112:x81_4 < (l0_6.length:Int):=dec_;obtain ⟨ad112,e112,hx112_0,hx112_1⟩:=at_T53 HR0_6.out x81_4 p112 q112
              cases e112
              replace hx112_0:=(HB.out.cell (World.block_lt_of_cell? w _ hx112_0)).trans hx112_0;replace hx112_1:=(HB.out.cell (World.block_lt_of_cell? w _ hx112_1)).trans hx112_1;replace p112:=eq_true p112;replace q112:=eq_true q112
              go_upto_region 9 with (first | ((with_reducible refine gate_dst (N:=5) rfl ?_);(try (refine gate_guard (by rfl) ?_;dsimp only));refine box_event ?hg (N:=5) ?hd (cs:=#[.int .i64 0,.int .i64 0]) (t:=53) ?hr ?_;(case hd=>rfl);(case hg=>rfl);(case hr=>first | (go_simp;done) | (go_simp;rfl));intro gb113 hg w51 hbox hb;have BK113:=ad_ (hbox);have GW113:=ad_ ((by rw [hg];exact (below_size belg_):w.heap.size≤gb113));have GE113:=ad_ ((by rw [hg];exact (below_size belg_):w.heap.size≤gb113));replace HB:=hbb_ hb;have NB106_113:=ad_ ((by rw [hg];exact Nat.ne_of_lt (blk_lt (g:=gb106) (o:=.cells #[.int .i64 a0_0,.int .i64 a0_1,.int .i64 a0_2,.int .i64 a0_3,.slice A0_4 l0_4.length c0_4,.slice A0_5 l0_5.length c0_5,.slice (some ad112) l0_6.length c0_6] 25 (0,0)) (blo_ BK106.out)):gb106≠gb113));have NB113_106:=ad_ ((by rw [hg];exact Nat.ne_of_gt (blk_lt (g:=gb106) (o:=.cells #[.int .i64 a0_0,.int .i64 a0_1,.int .i64 a0_2,.int .i64 a0_3,.slice A0_4 l0_4.length c0_4,.slice A0_5 l0_5.length c0_5,.slice (some ad112) l0_6.length c0_6] 25 (0,0)) (blo_ BK106.out)):gb113≠gb106));replace BK106:=ad_ (blk_below (g:=gb106) (o:=.cells #[.int .i64 a0_0,.int .i64 a0_1,.int .i64 a0_2,.int .i64 a0_3,.slice A0_4 l0_4.length c0_4,.slice A0_5 l0_5.length c0_5,.slice (some ad112) l0_6.length c0_6] 25 (0,0)) (blo_ BK106.out) hb);clear hb hbox hg;have hnb52:=NB113_106.out;have hnc52:=NB106_113.out;have hcz53_:=cells2_ BK113.out))
              (try simp only [Act.put,List.setIfInBounds_toArray,List.set_cons_zero,List.set_cons_succ])
              go_cut [112] (fun v112 wc=>∃ (kq:Nat) (x112_49:Bool),v112 = .bool x112_49∧Aside0 (recur_Right.j4 kq x3_1 x81_4 l0_6 (l0_6.length:Int) x81_4 x112_49 a0_0 a0_1 a0_2 a0_3 l0_4 l0_5 l0_6 ((rd_T53 l0_6 x81_4).f0) ((rd_T53 l0_6 x81_4).f1)=some r)∧Aside0 (kq≤k4)∧Aside0 (wc.heap[gb106]? = some (.cells #[.int .i64 a0_0,.int .i64 a0_1,.int .i64 a0_2,.int .i64 a0_3,(.slice A0_4 l0_4.length c0_4),(.slice A0_5 l0_5.length c0_5),(.slice (some ad112) l0_6.length c0_6)] 25 (0,0)))∧Aside0 (wc.heap[gb113]? = some (.cells #[.int .i64 ((rd_T53 l0_6 x81_4).f0),.int .i64 ((rd_T53 l0_6 x81_4).f1)] 53 (0,0)))∧Aside0 (Below w.heap.size w wc))
              case first =>
               have H:=HC50.out;clear HC50
               by_cases c54:((rd_T53 l0_6 x81_4).f0) < 0
               ·rw [if_pos c54] at H;have c54b0:decide (((rd_T53 l0_6 x81_4).f0) < 0)=true:=decide_eq_true c54;clear c54
                (first | rw [c54b0] | (simp only [i64_w,i32_w];rw [c54b0]) | skip)
                have H':=ad_ H;clear H;have hnb55:=NB113_106.out;have hnc55:=NB106_113.out;have hcz56_:=cells2_ BK113.out
                go_wp2
                go_meet
                case rel=>exact ⟨_,(true),val_,H',⟨by have:=HJ1.out;have:=HJ6.out;have:=HJ19.out;have:=HK4.out;first | omega | exact Nat.le_refl _⟩,⟨blf_ BK106.out⟩,⟨by refine blo_ ?_;refine blk_put (cs:=#[.int .i64 ((rd_T53 l0_6 x81_4).f0),.int .i64 0]) ?_ 1 _ rfl;refine blo_ ?_;refine blk_put (cs:=#[.int .i64 0,.int .i64 0]) ?_ 0 _ rfl;exact blo_ BK113.out⟩,⟨belg_⟩⟩
               ·rw [if_neg c54] at H;have c54b0:decide (((rd_T53 l0_6 x81_4).f0) < 0)=false:=decide_eq_false c54;clear c54
                (first | rw [c54b0] | (simp only [i64_w,i32_w];rw [c54b0]) | skip)
                by_cases c57:((rd_T53 l0_6 x81_4).f0) > 6
                ·rw [if_pos c57] at H;have c57b0:decide (6 < ((rd_T53 l0_6 x81_4).f0))=true:=decide_eq_true c57;clear c57;have H':=ad_ H;clear H;have hnb58:=NB113_106.out;have hnc58:=NB106_113.out;have hcz59_:=cells2_ BK113.out
                 go_wp2
                 go_meet
                 case rel=>exact ⟨_,(true),val_,H',⟨by have:=HJ1.out;have:=HJ6.out;have:=HJ19.out;have:=HK4.out;first | omega | exact Nat.le_refl _⟩,⟨blf_ BK106.out⟩,⟨by refine blo_ ?_;refine blk_put (cs:=#[.int .i64 ((rd_T53 l0_6 x81_4).f0),.int .i64 0]) ?_ 1 _ rfl;refine blo_ ?_;refine blk_put (cs:=#[.int .i64 0,.int .i64 0]) ?_ 0 _ rfl;exact blo_ BK113.out⟩,⟨belg_⟩⟩
                ·rw [if_neg c57] at H;have c57b0:decide (6 < ((rd_T53 l0_6 x81_4).f0))=false:=decide_eq_false c57;clear c57
                 by_cases c60:((rd_T53 l0_6 x81_4).f1) < (-5)
                 ·rw [if_pos c60] at H;have c60b0:decide (((rd_T53 l0_6 x81_4).f1) < (-5))=true:=decide_eq_true c60;clear c60;have H':=ad_ H;clear H;have hnb61:=NB113_106.out;have hnc61:=NB106_113.out;have hcz62_:=cells2_ BK113.out
                  go_wp2
                  go_meet
                  case rel=>exact ⟨_,(true),val_,H',⟨by have:=HJ1.out;have:=HJ6.out;have:=HJ19.out;have:=HK4.out;first | omega | exact Nat.le_refl _⟩,⟨blf_ BK106.out⟩,⟨by refine blo_ ?_;refine blk_put (cs:=#[.int .i64 ((rd_T53 l0_6 x81_4).f0),.int .i64 0]) ?_ 1 _ rfl;refine blo_ ?_;refine blk_put (cs:=#[.int .i64 0,.int .i64 0]) ?_ 0 _ rfl;exact blo_ BK113.out⟩,⟨belg_⟩⟩
                 ·rw [if_neg c60] at H;have c60b0:decide (((rd_T53 l0_6 x81_4).f1) < (-5))=false:=decide_eq_false c60;clear c60
                  by_cases c63:((rd_T53 l0_6 x81_4).f1) > 5
                  ·rw [if_pos c63] at H;have c63b0:decide (5 < ((rd_T53 l0_6 x81_4).f1))=true:=decide_eq_true c63;clear c63;have H':=ad_ H;clear H;have hnb64:=NB113_106.out;have hnc64:=NB106_113.out;have hcz65_:=cells2_ BK113.out
                   go_wp2
                   go_meet
                   case rel=>exact ⟨_,(true),val_,H',⟨by have:=HJ1.out;have:=HJ6.out;have:=HJ19.out;have:=HK4.out;first | omega | exact Nat.le_refl _⟩,⟨blf_ BK106.out⟩,⟨by refine blo_ ?_;refine blk_put (cs:=#[.int .i64 ((rd_T53 l0_6 x81_4).f0),.int .i64 0]) ?_ 1 _ rfl;refine blo_ ?_;refine blk_put (cs:=#[.int .i64 0,.int .i64 0]) ?_ 0 _ rfl;exact blo_ BK113.out⟩,⟨belg_⟩⟩
                  ·rw [if_neg c63] at H;have c63b0:decide (5 < ((rd_T53 l0_6 x81_4).f1))=false:=decide_eq_false c63;clear c63
                   by_cases c66:x3_1=true
                   ·subst c66;replace H:=ifp_ H;have H':=ad_ H;clear H;have hnb67:=NB113_106.out;have hnc67:=NB106_113.out;have hcz68_:=cells2_ BK113.out
                    go_wp2
                    go_meet
                    case rel=>exact ⟨_,(false),val_,H',⟨by have:=HJ1.out;have:=HJ6.out;have:=HJ19.out;have:=HK4.out;first | omega | exact Nat.le_refl _⟩,⟨blf_ BK106.out⟩,⟨by refine blo_ ?_;refine blk_put (cs:=#[.int .i64 ((rd_T53 l0_6 x81_4).f0),.int .i64 0]) ?_ 1 _ rfl;refine blo_ ?_;refine blk_put (cs:=#[.int .i64 0,.int .i64 0]) ?_ 0 _ rfl;exact blo_ BK113.out⟩,⟨belg_⟩⟩
                   ·replace c66:=Bool.eq_false_iff.mpr c66;subst c66;replace H:=ifn_ H;have H':=ad_ H;clear H;have hnb69:=NB113_106.out;have hnc69:=NB106_113.out;have hcz70_:=cells2_ BK113.out
                    go_wp2
                    go_meet
                    case rel=>exact ⟨_,((((rd_T53 l0_6 x81_4).f1) != 0)),val_,H',⟨by have:=HJ1.out;have:=HJ6.out;have:=HJ19.out;have:=HK4.out;first | omega | exact Nat.le_refl _⟩,⟨blf_ BK106.out⟩,⟨by refine blo_ ?_;refine blk_put (cs:=#[.int .i64 ((rd_T53 l0_6 x81_4).f0),.int .i64 0]) ?_ 1 _ rfl;refine blo_ ?_;refine blk_put (cs:=#[.int .i64 0,.int .i64 0]) ?_ 0 _ rfl;exact blo_ BK113.out⟩,⟨belg_⟩⟩
              case rest =>
               clear HC50;(try clear c1);(try clear p1);(try clear q1);(try clear hx1);(try clear c2);(try clear p2);(try clear c3);(try clear c4);(try clear c4b0);(try clear c4b1);(try clear c5);(try clear c6);(try clear c8);(try clear c8b0);(try clear c10);(try clear c10b0);(try clear p11);(try clear q11);(try clear hx11);(try clear c12);(try clear c12b0);(try clear c14);(try clear c14b0);(try clear c16);(try clear c16b0);(try clear c19);(try clear c21);(try clear c21b0);(try clear c21b1);(try clear c23);(try clear c25);(try clear c26);(try clear c32);(try clear c33);(try clear c33b0);(try clear c33b1);(try clear c35);(try clear c37);(try clear c38);(try clear c45);(try clear c47);(try clear c47b0);(try clear c48);(try clear c48b0);(try clear c49);(try clear c49b0);(try clear c52);(try clear c54);(try clear c54b0);(try clear c55);(try clear c57);(try clear c57b0);(try clear c58);(try clear c60);(try clear c60b0);(try clear c61);(try clear c63);(try clear c63b0);(try clear c64);(try clear c66);(try clear c67);(try clear c69);(try clear hcz11_);(try clear hcz13_);(try clear hcz15_);(try clear hcz17_);(try clear hcz18_);(try clear hcz27_);(try clear hcz28_);(try clear hcz29_);(try clear hcz30_);(try clear hcz39_);(try clear hcz40_);(try clear hcz41_);(try clear hcz42_);(try clear hcz43_);(try clear hcz44_);(try clear hcz46_);(try clear hcz53_);(try clear hcz56_);(try clear hcz59_);(try clear hcz5_);(try clear hcz62_);(try clear hcz65_);(try clear hcz68_);(try clear hcz6_);(try clear hcz70_);(try clear hcz9_);(try clear hx112_0);(try clear hx112_1);(try clear p112);(try clear p2);(try clear q112);obtain ⟨kq,x112_49,rfl,HA,HJ49,BK106,BK113,HB⟩:=hcut
               cases kq with
               | zero=>exact absurd HA.out (by simp [recur_Right.j4])
               | succ kj49 =>
                have H:=HA.out;clear HA
                simp only [recur_Right.j4] at H
                by_cases c71:x112_49=true
                ·subst c71;replace H:=ifp_ H;obtain rfl:=Option.some.inj H
                 go_wp2
                 go_ret
                 exact ⟨ret_,belg_⟩
                ·replace c71:=Bool.eq_false_iff.mpr c71;subst c71;replace H:=ifn_ H
                 by_cases c72:x81_4 > 0
                 ·rw [if_pos c72] at H;have c72b0:decide (0 < x81_4)=true:=decide_eq_true c72;clear c72;obtain ⟨ji73,hji73⟩:∃ j_:Int,(wrap64 (x81_4 - 1))=j_:=⟨_,rfl⟩
                  replace H:(if 0≤(ji73) then (if (ji73) < (l0_6.length:Int) then ((recur_order.f ((rd_T53 l0_6 (ji73)).f0) ((rd_T53 l0_6 (ji73)).f1) ((rd_T53 l0_6 x81_4).f0) ((rd_T53 l0_6 x81_4).f1)).bind fun t115=>(if t115 ≥ 0 then (some false) else (recur_Right.l0 kj49 x3_1 l0_6 (l0_6.length:Int) (wrap64 (x81_4 + 1)) a0_0 a0_1 a0_2 a0_3 l0_4 l0_5 l0_6))) else (none)) else (none))=some r:=by first | (rw [hji73] at H;exact H) | (simp only [hji73] at H ⊢;exact H)
                  have hji73w:(IntKind.i64.wrap (x81_4 - 1))=ji73:=(i64_w _).trans hji73
                  by_cases c74:0≤(ji73)
                  ·rw [if_pos c74] at H;have c74b0:decide (0≤(ji73))=true:=decide_eq_true c74;clear c74
                   by_cases c75:(ji73) < (l0_6.length:Int)
                   ·rw [if_pos c75] at H;have c75b0:decide ((ji73) < (l0_6.length:Int))=true:=decide_eq_true c75;clear c75;obtain ⟨t115,A760,H⟩:=bnd_ H
                    try dsimp only at H
                    have A76:=ad_ A760;clear A760
                    by_cases c77:t115 ≥ 0
                    ·rw [if_pos c77] at H;have c77b0:decide (0≤t115)=true:=decide_eq_true c77;clear c77;obtain rfl:=Option.some.inj H
                     try go_wp2
                     have n0_:=ad_ (blk_drew BK106.out);have n1_:=ad_ (blk_drew BK113.out);have n2_:=ad_ (below_drew1 HB.out);clear BK106;clear BK113;clear HB;have BK106:=n0_;have BK113:=n1_;have HB:=n2_;clear n0_ n1_ n2_;have p114:0≤((ji73):Int):=dec_;have q114:(ji73) < (l0_6.length:Int):=dec_;obtain ⟨ad114,e114,hx114_0,hx114_1⟩:=at_T53 HR0_6.out (ji73) p114 q114;have hw114_1:=hx114_1;have hw114_0:=hx114_0;obtain rfl:ad112=ad114:=(by injection e114);replace hx114_0:=(HB.out.cell (World.block_lt_of_cell? w _ hx114_0)).trans hx114_0;replace hx114_1:=(HB.out.cell (World.block_lt_of_cell? w _ hx114_1)).trans hx114_1;replace p114:=eq_true p114;replace q114:=eq_true q114
                     refine start_ (n:=13) (S:=fun w'=>w'.cell? ⟨gb106,0,none⟩=some (.int .i64 a0_0)∧w'.cell? ⟨gb106,1,none⟩=some (.int .i64 a0_1)∧w'.cell? ⟨gb106,2,none⟩=some (.int .i64 a0_2)∧w'.cell? ⟨gb106,3,none⟩=some (.int .i64 a0_3)∧w'.cell? ⟨gb106,4,none⟩=some (.slice A0_4 l0_4.length c0_4)∧w'.cell? ⟨gb106,5,none⟩=some (.slice A0_5 l0_5.length c0_5)∧w'.cell? ⟨gb106,6,none⟩=some (.slice (some ad112) l0_6.length c0_6)∧w'.cell? ⟨gb113,0,none⟩=some (.int .i64 ((rd_T53 l0_6 x81_4).f0))∧w'.cell? ⟨gb113,1,none⟩=some (.int .i64 ((rd_T53 l0_6 x81_4).f1))∧w'.cell? (ad112.add (((ji73)).toNat * 2))=some (.int .i64 ((rd_T53 l0_6 (ji73)).f0))∧w'.cell? ⟨(ad112.add (((ji73)).toNat * 2)).block,(ad112.add (((ji73)).toNat * 2)).off + 1,none⟩=some (.int .i64 ((rd_T53 l0_6 (ji73)).f1))) (ds:=[]) (.replicate 13 false) (by kernel_rfl) rfl rfl ⟨bc_ BK106,bc_ BK106,bc_ BK106,bc_ BK106,bc_ BK106,bc_ BK106,bc_ BK106,bc_ BK113,bc_ BK113,((HB.out.cell (World.block_lt_of_cell? w _ hw114_0)).trans hw114_0),((HB.out.cell (World.block_lt_of_cell? w _ hw114_1)).trans hw114_1)⟩ (fun hHeld=>?_);refine with_tabW recur_Right.tab11 recur_Right.bits11 (fun HT_ HW_=>?_)
                     generalize wc.drew=w78 at BK106 BK113 HB hx114_0 hx114_1 hHeld ⊢
                     refine pure_ (i:=0) (N:=some 113) (v:=?_) (a':=?_) #[true,false,false,false,false,false,false,false,false,false,false,false,false] rfl rfl (any_of HT_.out (by kernel_rfl)) (fun _ _ _ h=>h) (Or.inl ⟨by rfl,?_⟩) ?_ ?_
                     rotate_left
                     ·intro w'
                      go_simp
                      with_reducible rfl
                     rotate_left
                     ·simp only [Act.put,List.setIfInBounds_toArray,List.set_cons_zero,List.set_cons_succ,i64_w,i32_w]
                      rfl
                     refine pure_ (i:=1) (N:=some 114) (v:=?_) (a':=?_) #[true,true,false,false,false,false,false,false,false,false,false,false,false] rfl rfl (any_of HT_.out (by kernel_rfl)) (fun _ _ _ h=>h) (Or.inl ⟨by rfl,?_⟩) ?_ ?_
                     rotate_left
                     ·intro w'
                      go_simp
                      with_reducible rfl
                     rotate_left
                     ·simp only [Act.put,List.setIfInBounds_toArray,List.set_cons_zero,List.set_cons_succ,i64_w,i32_w]
                      rfl
                     refine pure_ (i:=2) (N:=some 115) (v:=?_) (a':=?_) #[true,true,true,false,false,false,false,false,false,false,false,false,false] rfl rfl (any_of HT_.out (by kernel_rfl)) (fun _ _ _ h=>h) (Or.inl ⟨by rfl,?_⟩) ?_ ?_
                     rotate_left
                     ·intro w'
                      go_simp
                      with_reducible rfl
                     rotate_left
                     ·simp only [Act.put,List.setIfInBounds_toArray,List.set_cons_zero,List.set_cons_succ,i64_w,i32_w]
                      rfl
                     refine pure_ (i:=3) (N:=some 116) (v:=?_) (a':=?_) #[true,true,true,true,false,false,false,false,false,false,false,false,false] rfl rfl (any_of HT_.out (by kernel_rfl)) (fun _ _ _ h=>h) (Or.inl ⟨by rfl,?_⟩) ?_ ?_
                     rotate_left
                     ·intro w'
                      go_simp
                      with_reducible rfl
                     rotate_left
                     ·simp only [Act.put,List.setIfInBounds_toArray,List.set_cons_zero,List.set_cons_succ,i64_w,i32_w]
                      rfl
                     refine pure_ (i:=5) (N:=some 118) (v:=?_) (a':=?_) #[true,true,true,true,false,true,false,false,false,false,false,false,false] rfl rfl (any_of HT_.out (by kernel_rfl)) (fun _ _ _ h=>h) (Or.inl ⟨by rfl,?_⟩) ?_ ?_
                     rotate_left
                     ·intro w'
                      go_simp
                      with_reducible rfl
                     rotate_left
                     ·simp only [Act.put,List.setIfInBounds_toArray,List.set_cons_zero,List.set_cons_succ,i64_w,i32_w]
                      rfl
                     refine pure_ (i:=6) (N:=some 119) (v:=?_) (a':=?_) #[true,true,true,true,false,true,true,false,false,false,false,false,false] rfl rfl (any_of HT_.out (by kernel_rfl)) (fun _ _ _ h=>h) (Or.inl ⟨by rfl,?_⟩) ?_ ?_
                     rotate_left
                     ·intro w'
                      go_simp
                      with_reducible rfl
                     rotate_left
                     ·simp only [Act.put,List.setIfInBounds_toArray,List.set_cons_zero,List.set_cons_succ,i64_w,i32_w]
                      rfl
                     refine take_ (i:=4) (N:=some 117) (v:=?_) (a':=?_) #[true,true,true,true,true,true,true,false,false,false,false,false,false] rfl rfl (take_ofW HT_.out HW_.out (by kernel_rfl)) (fun _ _ _ h=>h) (Or.inl ⟨by rfl,?_⟩) hHeld ?_ ?_
                     rotate_left
                     ·rintro w' ⟨s0,s1,s2,s3,s4,s5,s6,s7,s8,s9,s10⟩
                      go_simp
                      with_reducible rfl
                     rotate_left
                     ·simp only [Act.put,List.setIfInBounds_toArray,List.set_cons_zero,List.set_cons_succ,i64_w,i32_w]
                      rfl
                     refine pure_ (i:=7) (N:=some 120) (v:=?_) (a':=?_) #[true,true,true,true,true,true,true,true,false,false,false,false,false] rfl rfl (any_of HT_.out (by kernel_rfl)) (fun _ _ _ h=>h) (Or.inl ⟨by rfl,?_⟩) ?_ ?_
                     rotate_left
                     ·intro w'
                      go_simp
                      with_reducible rfl
                     rotate_left
                     ·simp only [Act.put,List.setIfInBounds_toArray,List.set_cons_zero,List.set_cons_succ,i64_w,i32_w]
                      rfl
                     refine take_ (i:=8) (N:=some 121) (v:=?_) (a':=?_) #[true,true,true,true,true,true,true,true,true,false,false,false,false] rfl rfl (take_ofW HT_.out HW_.out (by kernel_rfl)) (fun _ _ _ h=>h) (Or.inl ⟨by rfl,?_⟩) hHeld ?_ ?_
                     rotate_left
                     ·rintro w' ⟨s0,s1,s2,s3,s4,s5,s6,s7,s8,s9,s10⟩
                      go_simp
                      with_reducible rfl
                     rotate_left
                     ·simp only [Act.put,List.setIfInBounds_toArray,List.set_cons_zero,List.set_cons_succ,i64_w,i32_w]
                      rfl
                     refine take_ (i:=9) (N:=some 122) (v:=?_) (a':=?_) #[true,true,true,true,true,true,true,true,true,true,false,false,false] rfl rfl (take_ofW HT_.out HW_.out (by kernel_rfl)) (fun _ _ _ h=>h) (Or.inl ⟨by rfl,?_⟩) hHeld ?_ ?_
                     rotate_left
                     ·rintro w' ⟨s0,s1,s2,s3,s4,s5,s6,s7,s8,s9,s10⟩
                      go_simp
                      with_reducible rfl
                     rotate_left
                     ·simp only [Act.put,List.setIfInBounds_toArray,List.set_cons_zero,List.set_cons_succ,i64_w,i32_w]
                      rfl
                     refine one_ (i:=10) (N:=some 123) #[true,true,true,true,true,true,true,true,true,true,true,false,false] rfl rfl (one_of HT_.out (by kernel_rfl)) (by decide) (fun K hK=>?_)
                     first | (refine goes_ Tryz.func33 (by kernel_rfl) rfl #[.agg #[.int .i64 ((rd_T53 l0_6 (ji73)).f0),.int .i64 ((rd_T53 l0_6 (ji73)).f1)],.agg #[.int .i64 ((rd_T53 l0_6 x81_4).f0),.int .i64 ((rd_T53 l0_6 x81_4).f1)]] (by rfl) rfl rfl (by (try simp only [List.map_toArray,List.map_cons,List.map_nil]);first | done | (simp only [hji73];rfl) | rfl | (simp only [List.length_drop,List.length_take];rfl)) ?_) | (refine goesT_ Tryz.func33 (by kernel_rfl) rfl #[.agg #[.int .i64 ((rd_T53 l0_6 (ji73)).f0),.int .i64 ((rd_T53 l0_6 (ji73)).f1)],.agg #[.int .i64 ((rd_T53 l0_6 x81_4).f0),.int .i64 ((rd_T53 l0_6 x81_4).f1)]] (by rfl) rfl rfl (by rfl) (by (try simp only [List.map_toArray,List.map_cons,List.map_nil]);first | done | (simp only [hji73];rfl) | rfl | (simp only [List.length_drop,List.length_take];rfl)) ?_)
                     with_reducible refine (recur_order.calls ((rd_T53 l0_6 (ji73)).f0) ((rd_T53 l0_6 (ji73)).f1) ((rd_T53 l0_6 x81_4).f0) ((rd_T53 l0_6 x81_4).f1) t115 _ A76.out).mono ?_
                     rintro e w79 ⟨rfl,hb⟩
                     refine ⟨_,rfl,?_⟩
                     have n0_:=ad_ (blk_below (g:=gb106) (o:=.cells #[.int .i64 a0_0,.int .i64 a0_1,.int .i64 a0_2,.int .i64 a0_3,.slice A0_4 l0_4.length c0_4,.slice A0_5 l0_5.length c0_5,.slice (some ad112) l0_6.length c0_6] 25 (0,0)) (blo_ BK106.out) hb);have n1_:=ad_ (blk_below (g:=gb113) (o:=.cells #[.int .i64 ((rd_T53 l0_6 x81_4).f0),.int .i64 ((rd_T53 l0_6 x81_4).f1)] 53 (0,0)) (blo_ BK113.out) hb);have n2_:=hbb_ hb;clear BK106;clear BK113;clear HB;have BK106:=n0_;have BK113:=n1_;have HB:=n2_;clear n0_ n1_ n2_
                     (try clear hb)
                     (try clear hb2)
                     (try clear hk)
                     (try clear hi)
                     refine hK.out _ _ ⟨bc_ BK106,bc_ BK106,bc_ BK106,bc_ BK106,bc_ BK106,bc_ BK106,bc_ BK106,bc_ BK113,bc_ BK113,((HB.out.cell (World.block_lt_of_cell? w _ hw114_0)).trans hw114_0),((HB.out.cell (World.block_lt_of_cell? w _ hw114_1)).trans hw114_1)⟩ (fun hHeld=>?_)
                     clear hK K
                     refine norm_ (a':=?_) ?_ ?_
                     rotate_left
                     ·show Act.put _ (some 123) _=_
                      simp only [Act.put,List.setIfInBounds_toArray,List.set_cons_zero,List.set_cons_succ,i64_w,i32_w]
                      rfl
                     refine pure_ (i:=11) (N:=some 124) (v:=?_) (a':=?_) #[true,true,true,true,true,true,true,true,true,true,true,true,false] rfl rfl (any_of HT_.out (by kernel_rfl)) (fun _ _ _ h=>h) (Or.inl ⟨by rfl,?_⟩) ?_ ?_
                     rotate_left
                     ·intro w'
                      go_simp
                      with_reducible rfl
                     rotate_left
                     ·simp only [Act.put,List.setIfInBounds_toArray,List.set_cons_zero,List.set_cons_succ,i64_w,i32_w]
                      rfl
                     refine pure_ (i:=12) (N:=some 125) (v:=?_) (a':=?_) (.replicate 13 true) rfl rfl (any_of HT_.out (by kernel_rfl)) (fun _ _ _ h=>h) (Or.inl ⟨by rfl,?_⟩) ?_ ?_
                     rotate_left
                     ·intro w'
                      go_simp
                      with_reducible rfl
                     rotate_left
                     ·simp only [Act.put,List.setIfInBounds_toArray,List.set_cons_zero,List.set_cons_succ,i64_w,i32_w]
                      rfl
                     refine done_ (done_of HT_.out (by kernel_rfl)) ?_
                     try go_wp2
                     go_ret
                     exact ⟨by first | rfl | (simp [errW_none,errW_some] <;> rfl) | (simp only [← hji73];first | rfl | (simp [errW_none,errW_some] <;> rfl)) | (simp [*,errW_none,errW_some] <;> rfl),belg_⟩
                    ·rw [if_neg c77] at H;have c77b0:decide (0≤t115)=false:=decide_eq_false c77;clear c77;have H':=ad_ H;clear H
                     try go_wp2
                     have n0_:=ad_ (blk_drew BK106.out);have n1_:=ad_ (blk_drew BK113.out);have n2_:=ad_ (below_drew1 HB.out);clear BK106;clear BK113;clear HB;have BK106:=n0_;have BK113:=n1_;have HB:=n2_;clear n0_ n1_ n2_;have p114:0≤((ji73):Int):=dec_;have q114:(ji73) < (l0_6.length:Int):=dec_;obtain ⟨ad114,e114,hx114_0,hx114_1⟩:=at_T53 HR0_6.out (ji73) p114 q114;have hw114_1:=hx114_1;have hw114_0:=hx114_0;obtain rfl:ad112=ad114:=(by injection e114);replace hx114_0:=(HB.out.cell (World.block_lt_of_cell? w _ hx114_0)).trans hx114_0;replace hx114_1:=(HB.out.cell (World.block_lt_of_cell? w _ hx114_1)).trans hx114_1;replace p114:=eq_true p114;replace q114:=eq_true q114
                     refine start_ (n:=13) (S:=fun w'=>w'.cell? ⟨gb106,0,none⟩=some (.int .i64 a0_0)∧w'.cell? ⟨gb106,1,none⟩=some (.int .i64 a0_1)∧w'.cell? ⟨gb106,2,none⟩=some (.int .i64 a0_2)∧w'.cell? ⟨gb106,3,none⟩=some (.int .i64 a0_3)∧w'.cell? ⟨gb106,4,none⟩=some (.slice A0_4 l0_4.length c0_4)∧w'.cell? ⟨gb106,5,none⟩=some (.slice A0_5 l0_5.length c0_5)∧w'.cell? ⟨gb106,6,none⟩=some (.slice (some ad112) l0_6.length c0_6)∧w'.cell? ⟨gb113,0,none⟩=some (.int .i64 ((rd_T53 l0_6 x81_4).f0))∧w'.cell? ⟨gb113,1,none⟩=some (.int .i64 ((rd_T53 l0_6 x81_4).f1))∧w'.cell? (ad112.add (((ji73)).toNat * 2))=some (.int .i64 ((rd_T53 l0_6 (ji73)).f0))∧w'.cell? ⟨(ad112.add (((ji73)).toNat * 2)).block,(ad112.add (((ji73)).toNat * 2)).off + 1,none⟩=some (.int .i64 ((rd_T53 l0_6 (ji73)).f1))) (ds:=[]) (.replicate 13 false) (by kernel_rfl) rfl rfl ⟨bc_ BK106,bc_ BK106,bc_ BK106,bc_ BK106,bc_ BK106,bc_ BK106,bc_ BK106,bc_ BK113,bc_ BK113,((HB.out.cell (World.block_lt_of_cell? w _ hw114_0)).trans hw114_0),((HB.out.cell (World.block_lt_of_cell? w _ hw114_1)).trans hw114_1)⟩ (fun hHeld=>?_);refine with_tabW recur_Right.tab11 recur_Right.bits11 (fun HT_ HW_=>?_)
                     generalize wc.drew=w80 at BK106 BK113 HB hx114_0 hx114_1 hHeld ⊢
                     refine pure_ (i:=0) (N:=some 113) (v:=?_) (a':=?_) #[true,false,false,false,false,false,false,false,false,false,false,false,false] rfl rfl (any_of HT_.out (by kernel_rfl)) (fun _ _ _ h=>h) (Or.inl ⟨by rfl,?_⟩) ?_ ?_
                     rotate_left
                     ·intro w'
                      go_simp
                      with_reducible rfl
                     rotate_left
                     ·simp only [Act.put,List.setIfInBounds_toArray,List.set_cons_zero,List.set_cons_succ,i64_w,i32_w]
                      rfl
                     refine pure_ (i:=1) (N:=some 114) (v:=?_) (a':=?_) #[true,true,false,false,false,false,false,false,false,false,false,false,false] rfl rfl (any_of HT_.out (by kernel_rfl)) (fun _ _ _ h=>h) (Or.inl ⟨by rfl,?_⟩) ?_ ?_
                     rotate_left
                     ·intro w'
                      go_simp
                      with_reducible rfl
                     rotate_left
                     ·simp only [Act.put,List.setIfInBounds_toArray,List.set_cons_zero,List.set_cons_succ,i64_w,i32_w]
                      rfl
                     refine pure_ (i:=2) (N:=some 115) (v:=?_) (a':=?_) #[true,true,true,false,false,false,false,false,false,false,false,false,false] rfl rfl (any_of HT_.out (by kernel_rfl)) (fun _ _ _ h=>h) (Or.inl ⟨by rfl,?_⟩) ?_ ?_
                     rotate_left
                     ·intro w'
                      go_simp
                      with_reducible rfl
                     rotate_left
                     ·simp only [Act.put,List.setIfInBounds_toArray,List.set_cons_zero,List.set_cons_succ,i64_w,i32_w]
                      rfl
                     refine pure_ (i:=3) (N:=some 116) (v:=?_) (a':=?_) #[true,true,true,true,false,false,false,false,false,false,false,false,false] rfl rfl (any_of HT_.out (by kernel_rfl)) (fun _ _ _ h=>h) (Or.inl ⟨by rfl,?_⟩) ?_ ?_
                     rotate_left
                     ·intro w'
                      go_simp
                      with_reducible rfl
                     rotate_left
                     ·simp only [Act.put,List.setIfInBounds_toArray,List.set_cons_zero,List.set_cons_succ,i64_w,i32_w]
                      rfl
                     refine pure_ (i:=5) (N:=some 118) (v:=?_) (a':=?_) #[true,true,true,true,false,true,false,false,false,false,false,false,false] rfl rfl (any_of HT_.out (by kernel_rfl)) (fun _ _ _ h=>h) (Or.inl ⟨by rfl,?_⟩) ?_ ?_
                     rotate_left
                     ·intro w'
                      go_simp
                      with_reducible rfl
                     rotate_left
                     ·simp only [Act.put,List.setIfInBounds_toArray,List.set_cons_zero,List.set_cons_succ,i64_w,i32_w]
                      rfl
                     refine pure_ (i:=6) (N:=some 119) (v:=?_) (a':=?_) #[true,true,true,true,false,true,true,false,false,false,false,false,false] rfl rfl (any_of HT_.out (by kernel_rfl)) (fun _ _ _ h=>h) (Or.inl ⟨by rfl,?_⟩) ?_ ?_
                     rotate_left
                     ·intro w'
                      go_simp
                      with_reducible rfl
                     rotate_left
                     ·simp only [Act.put,List.setIfInBounds_toArray,List.set_cons_zero,List.set_cons_succ,i64_w,i32_w]
                      rfl
                     refine take_ (i:=4) (N:=some 117) (v:=?_) (a':=?_) #[true,true,true,true,true,true,true,false,false,false,false,false,false] rfl rfl (take_ofW HT_.out HW_.out (by kernel_rfl)) (fun _ _ _ h=>h) (Or.inl ⟨by rfl,?_⟩) hHeld ?_ ?_
                     rotate_left
                     ·rintro w' ⟨s0,s1,s2,s3,s4,s5,s6,s7,s8,s9,s10⟩
                      go_simp
                      with_reducible rfl
                     rotate_left
                     ·simp only [Act.put,List.setIfInBounds_toArray,List.set_cons_zero,List.set_cons_succ,i64_w,i32_w]
                      rfl
                     refine pure_ (i:=7) (N:=some 120) (v:=?_) (a':=?_) #[true,true,true,true,true,true,true,true,false,false,false,false,false] rfl rfl (any_of HT_.out (by kernel_rfl)) (fun _ _ _ h=>h) (Or.inl ⟨by rfl,?_⟩) ?_ ?_
                     rotate_left
                     ·intro w'
                      go_simp
                      with_reducible rfl
                     rotate_left
                     ·simp only [Act.put,List.setIfInBounds_toArray,List.set_cons_zero,List.set_cons_succ,i64_w,i32_w]
                      rfl
                     refine take_ (i:=8) (N:=some 121) (v:=?_) (a':=?_) #[true,true,true,true,true,true,true,true,true,false,false,false,false] rfl rfl (take_ofW HT_.out HW_.out (by kernel_rfl)) (fun _ _ _ h=>h) (Or.inl ⟨by rfl,?_⟩) hHeld ?_ ?_
                     rotate_left
                     ·rintro w' ⟨s0,s1,s2,s3,s4,s5,s6,s7,s8,s9,s10⟩
                      go_simp
                      with_reducible rfl
                     rotate_left
                     ·simp only [Act.put,List.setIfInBounds_toArray,List.set_cons_zero,List.set_cons_succ,i64_w,i32_w]
                      rfl
                     refine take_ (i:=9) (N:=some 122) (v:=?_) (a':=?_) #[true,true,true,true,true,true,true,true,true,true,false,false,false] rfl rfl (take_ofW HT_.out HW_.out (by kernel_rfl)) (fun _ _ _ h=>h) (Or.inl ⟨by rfl,?_⟩) hHeld ?_ ?_
                     rotate_left
                     ·rintro w' ⟨s0,s1,s2,s3,s4,s5,s6,s7,s8,s9,s10⟩
                      go_simp
                      with_reducible rfl
                     rotate_left
                     ·simp only [Act.put,List.setIfInBounds_toArray,List.set_cons_zero,List.set_cons_succ,i64_w,i32_w]
                      rfl
                     refine one_ (i:=10) (N:=some 123) #[true,true,true,true,true,true,true,true,true,true,true,false,false] rfl rfl (one_of HT_.out (by kernel_rfl)) (by decide) (fun K hK=>?_)
                     first | (refine goes_ Tryz.func33 (by kernel_rfl) rfl #[.agg #[.int .i64 ((rd_T53 l0_6 (ji73)).f0),.int .i64 ((rd_T53 l0_6 (ji73)).f1)],.agg #[.int .i64 ((rd_T53 l0_6 x81_4).f0),.int .i64 ((rd_T53 l0_6 x81_4).f1)]] (by rfl) rfl rfl (by (try simp only [List.map_toArray,List.map_cons,List.map_nil]);first | done | (simp only [hji73];rfl) | rfl | (simp only [List.length_drop,List.length_take];rfl)) ?_) | (refine goesT_ Tryz.func33 (by kernel_rfl) rfl #[.agg #[.int .i64 ((rd_T53 l0_6 (ji73)).f0),.int .i64 ((rd_T53 l0_6 (ji73)).f1)],.agg #[.int .i64 ((rd_T53 l0_6 x81_4).f0),.int .i64 ((rd_T53 l0_6 x81_4).f1)]] (by rfl) rfl rfl (by rfl) (by (try simp only [List.map_toArray,List.map_cons,List.map_nil]);first | done | (simp only [hji73];rfl) | rfl | (simp only [List.length_drop,List.length_take];rfl)) ?_)
                     with_reducible refine (recur_order.calls ((rd_T53 l0_6 (ji73)).f0) ((rd_T53 l0_6 (ji73)).f1) ((rd_T53 l0_6 x81_4).f0) ((rd_T53 l0_6 x81_4).f1) t115 _ A76.out).mono ?_
                     rintro e w81 ⟨rfl,hb⟩
                     refine ⟨_,rfl,?_⟩
                     have n0_:=ad_ (blk_below (g:=gb106) (o:=.cells #[.int .i64 a0_0,.int .i64 a0_1,.int .i64 a0_2,.int .i64 a0_3,.slice A0_4 l0_4.length c0_4,.slice A0_5 l0_5.length c0_5,.slice (some ad112) l0_6.length c0_6] 25 (0,0)) (blo_ BK106.out) hb);have n1_:=ad_ (blk_below (g:=gb113) (o:=.cells #[.int .i64 ((rd_T53 l0_6 x81_4).f0),.int .i64 ((rd_T53 l0_6 x81_4).f1)] 53 (0,0)) (blo_ BK113.out) hb);have n2_:=hbb_ hb;clear BK106;clear BK113;clear HB;have BK106:=n0_;have BK113:=n1_;have HB:=n2_;clear n0_ n1_ n2_
                     (try clear hb)
                     (try clear hb2)
                     (try clear hk)
                     (try clear hi)
                     refine hK.out _ _ ⟨bc_ BK106,bc_ BK106,bc_ BK106,bc_ BK106,bc_ BK106,bc_ BK106,bc_ BK106,bc_ BK113,bc_ BK113,((HB.out.cell (World.block_lt_of_cell? w _ hw114_0)).trans hw114_0),((HB.out.cell (World.block_lt_of_cell? w _ hw114_1)).trans hw114_1)⟩ (fun hHeld=>?_)
                     clear hK K
                     refine norm_ (a':=?_) ?_ ?_
                     rotate_left
                     ·show Act.put _ (some 123) _=_
                      simp only [Act.put,List.setIfInBounds_toArray,List.set_cons_zero,List.set_cons_succ,i64_w,i32_w]
                      rfl
                     refine pure_ (i:=11) (N:=some 124) (v:=?_) (a':=?_) #[true,true,true,true,true,true,true,true,true,true,true,true,false] rfl rfl (any_of HT_.out (by kernel_rfl)) (fun _ _ _ h=>h) (Or.inl ⟨by rfl,?_⟩) ?_ ?_
                     rotate_left
                     ·intro w'
                      go_simp
                      with_reducible rfl
                     rotate_left
                     ·simp only [Act.put,List.setIfInBounds_toArray,List.set_cons_zero,List.set_cons_succ,i64_w,i32_w]
                      rfl
                     refine pure_ (i:=12) (N:=some 125) (v:=?_) (a':=?_) (.replicate 13 true) rfl rfl (any_of HT_.out (by kernel_rfl)) (fun _ _ _ h=>h) (Or.inl ⟨by rfl,?_⟩) ?_ ?_
                     rotate_left
                     ·intro w'
                      go_simp
                      with_reducible rfl
                     rotate_left
                     ·simp only [Act.put,List.setIfInBounds_toArray,List.set_cons_zero,List.set_cons_succ,i64_w,i32_w]
                      rfl
                     refine done_ (done_of HT_.out (by kernel_rfl)) ?_
                     try go_wp2
                     go_roundg kj49
                     case measure=>have:=HJ1.out;have:=HJ6.out;have:=HJ19.out;have:=HK4.out;have:=HJ49.out;omega
                     case rel=>exact ⟨(wrap64 (x81_4 + 1)),val_,H',⟨by have:=HJ1.out;have:=HJ6.out;have:=HJ19.out;have:=HK4.out;have:=HJ49.out;omega⟩,⟨blo_ BK106.out⟩,⟨belg_⟩⟩
                   ·rw [if_neg c75] at H;exact absurd H (by simp)
                  ·rw [if_neg c74] at H;exact absurd H (by simp)
                 ·rw [if_neg c72] at H;have c72b0:decide (0 < x81_4)=false:=decide_eq_false c72;clear c72;have H':=ad_ H;clear H
                  try go_wp2
                  have n0_:=ad_ (blk_drew BK106.out);have n1_:=ad_ (blk_drew BK113.out);have n2_:=ad_ (below_drew1 HB.out);clear BK106;clear BK113;clear HB;have BK106:=n0_;have BK113:=n1_;have HB:=n2_;clear n0_ n1_ n2_
                  refine start_ (n:=13) (S:=fun w'=>True) (ds:=[]) (.replicate 13 false) (by kernel_rfl) rfl rfl trivial (fun hHeld=>?_);refine with_tabW recur_Right.tab11 recur_Right.bits11 (fun HT_ HW_=>?_)
                  generalize wc.drew=w82 at BK106 BK113 HB hHeld ⊢
                  refine pure_ (i:=0) (N:=some 113) (v:=?_) (a':=?_) #[true,false,false,false,false,false,false,false,false,false,false,false,false] rfl rfl (any_of HT_.out (by kernel_rfl)) (fun _ _ _ h=>h) (Or.inl ⟨by rfl,?_⟩) ?_ ?_
                  rotate_left
                  ·intro w'
                   go_simp
                   with_reducible rfl
                  rotate_left
                  ·simp only [Act.put,List.setIfInBounds_toArray,List.set_cons_zero,List.set_cons_succ,i64_w,i32_w]
                   rfl
                  refine pure_ (i:=1) (N:=some 114) (v:=?_) (a':=?_) #[true,true,false,false,false,false,false,false,false,false,false,false,false] rfl rfl (any_of HT_.out (by kernel_rfl)) (fun _ _ _ h=>h) (Or.inl ⟨by rfl,?_⟩) ?_ ?_
                  rotate_left
                  ·intro w'
                   go_simp
                   with_reducible rfl
                  rotate_left
                  ·simp only [Act.put,List.setIfInBounds_toArray,List.set_cons_zero,List.set_cons_succ,i64_w,i32_w]
                   rfl
                  refine pure_ (i:=2) (N:=some 115) (v:=?_) (a':=?_) #[true,true,true,false,false,false,false,false,false,false,false,false,false] rfl rfl (any_of HT_.out (by kernel_rfl)) (fun _ _ _ h=>h) (Or.inl ⟨by rfl,?_⟩) ?_ ?_
                  rotate_left
                  ·intro w'
                   go_simp
                   with_reducible rfl
                  rotate_left
                  ·simp only [Act.put,List.setIfInBounds_toArray,List.set_cons_zero,List.set_cons_succ,i64_w,i32_w]
                   rfl
                  refine pure_ (i:=3) (N:=some 116) (v:=undef) (a':=?_) #[true,true,true,true,false,false,false,false,false,false,false,false,false] rfl rfl (any_of HT_.out (by kernel_rfl)) (fun _ _ _ h=>h) (Or.inr ⟨by rfl,rfl⟩) ?_ ?_
                  rotate_left
                  ·simp only [Act.put,List.setIfInBounds_toArray,List.set_cons_zero,List.set_cons_succ,i64_w,i32_w]
                   rfl
                  refine pure_ (i:=4) (N:=some 117) (v:=undef) (a':=?_) #[true,true,true,true,true,false,false,false,false,false,false,false,false] rfl rfl (any_of HT_.out (by kernel_rfl)) (fun _ _ _ h=>h) (Or.inr ⟨by rfl,rfl⟩) ?_ ?_
                  rotate_left
                  ·simp only [Act.put,List.setIfInBounds_toArray,List.set_cons_zero,List.set_cons_succ,i64_w,i32_w]
                   rfl
                  refine pure_ (i:=5) (N:=some 118) (v:=undef) (a':=?_) #[true,true,true,true,true,true,false,false,false,false,false,false,false] rfl rfl (any_of HT_.out (by kernel_rfl)) (fun _ _ _ h=>h) (Or.inr ⟨by rfl,rfl⟩) ?_ ?_
                  rotate_left
                  ·simp only [Act.put,List.setIfInBounds_toArray,List.set_cons_zero,List.set_cons_succ,i64_w,i32_w]
                   rfl
                  refine pure_ (i:=6) (N:=some 119) (v:=undef) (a':=?_) #[true,true,true,true,true,true,true,false,false,false,false,false,false] rfl rfl (any_of HT_.out (by kernel_rfl)) (fun _ _ _ h=>h) (Or.inr ⟨by rfl,rfl⟩) ?_ ?_
                  rotate_left
                  ·simp only [Act.put,List.setIfInBounds_toArray,List.set_cons_zero,List.set_cons_succ,i64_w,i32_w]
                   rfl
                  refine pure_ (i:=7) (N:=some 120) (v:=undef) (a':=?_) #[true,true,true,true,true,true,true,true,false,false,false,false,false] rfl rfl (any_of HT_.out (by kernel_rfl)) (fun _ _ _ h=>h) (Or.inr ⟨by rfl,rfl⟩) ?_ ?_
                  rotate_left
                  ·simp only [Act.put,List.setIfInBounds_toArray,List.set_cons_zero,List.set_cons_succ,i64_w,i32_w]
                   rfl
                  refine pure_ (i:=8) (N:=some 121) (v:=undef) (a':=?_) #[true,true,true,true,true,true,true,true,true,false,false,false,false] rfl rfl (any_of HT_.out (by kernel_rfl)) (fun _ _ _ h=>h) (Or.inr ⟨by rfl,rfl⟩) ?_ ?_
                  rotate_left
                  ·simp only [Act.put,List.setIfInBounds_toArray,List.set_cons_zero,List.set_cons_succ,i64_w,i32_w]
                   rfl
                  refine pure_ (i:=9) (N:=some 122) (v:=undef) (a':=?_) #[true,true,true,true,true,true,true,true,true,true,false,false,false] rfl rfl (any_of HT_.out (by kernel_rfl)) (fun _ _ _ h=>h) (Or.inr ⟨by rfl,rfl⟩) ?_ ?_
                  rotate_left
                  ·simp only [Act.put,List.setIfInBounds_toArray,List.set_cons_zero,List.set_cons_succ,i64_w,i32_w]
                   rfl
                  refine pure_ (i:=10) (N:=some 123) (v:=undef) (a':=?_) #[true,true,true,true,true,true,true,true,true,true,true,false,false] rfl rfl (any_of HT_.out (by kernel_rfl)) (fun _ _ _ h=>h) (Or.inr ⟨by rfl,rfl⟩) ?_ ?_
                  rotate_left
                  ·simp only [Act.put,List.setIfInBounds_toArray,List.set_cons_zero,List.set_cons_succ,i64_w,i32_w]
                   rfl
                  refine pure_ (i:=11) (N:=some 124) (v:=undef) (a':=?_) #[true,true,true,true,true,true,true,true,true,true,true,true,false] rfl rfl (any_of HT_.out (by kernel_rfl)) (fun _ _ _ h=>h) (Or.inr ⟨by rfl,rfl⟩) ?_ ?_
                  rotate_left
                  ·simp only [Act.put,List.setIfInBounds_toArray,List.set_cons_zero,List.set_cons_succ,i64_w,i32_w]
                   rfl
                  refine pure_ (i:=12) (N:=some 125) (v:=?_) (a':=?_) (.replicate 13 true) rfl rfl (any_of HT_.out (by kernel_rfl)) (fun _ _ _ h=>h) (Or.inl ⟨by rfl,?_⟩) ?_ ?_
                  rotate_left
                  ·intro w'
                   go_simp
                   with_reducible rfl
                  rotate_left
                  ·simp only [Act.put,List.setIfInBounds_toArray,List.set_cons_zero,List.set_cons_succ,i64_w,i32_w]
                   rfl
                  refine done_ (done_of HT_.out (by kernel_rfl)) ?_
                  try go_wp2
                  go_roundg kj49
                  case measure=>have:=HJ1.out;have:=HJ6.out;have:=HJ19.out;have:=HK4.out;have:=HJ49.out;omega
                  case rel=>exact ⟨(wrap64 (x81_4 + 1)),val_,H',⟨by have:=HJ1.out;have:=HJ6.out;have:=HJ19.out;have:=HK4.out;have:=HJ49.out;omega⟩,⟨blo_ BK106.out⟩,⟨belg_⟩⟩
             ·rw [if_neg c49] at H;exact absurd H (by simp)
            ·rw [if_neg c48] at H;exact absurd H (by simp)
           ·rw [if_neg c47] at H;have c47b0:decide (x81_4 < (l0_6.length:Int))=false:=decide_eq_false c47;clear c47;obtain rfl:=Option.some.inj H
            go_wp2
            go_ret
            exact ⟨ret_,belg_⟩

end Go.Proofs.YtbeihceeliifeaaGreatDoor.PR

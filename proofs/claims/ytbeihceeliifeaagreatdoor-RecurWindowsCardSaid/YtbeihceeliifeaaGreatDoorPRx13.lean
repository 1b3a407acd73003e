-- Written by a program of the session (wip/tools).
import Derived.Test.YtbeihceeliifeaaGreatDoorPRx0
import Derived.Test.YtbeihceeliifeaaGreatDoorPRx12
namespace Go.Proofs.YtbeihceeliifeaaGreatDoor.PR
open Go.RowKit Go.Proofs.YtbeihceeliifeaaGreatDoorW.PrintWords Go.Proofs.YtbeihceeliifeaaGreatDoorW.PrintLast Go.Proofs.YtbeihceeliifeaaGreatDoorW.PrintMore
attribute [local go_sem] max2_int min2_int max_two min_two max_three min_three max_four min_four   -- for this text's walks alone
set_option linter.unusedVariables false
set_option linter.unusedSimpArgs false

/-! ### posthornref21_nth: function 63 -/
mutual
def posthornref21_nth.l0:Nat→Int→Int→Int→Option (Bool)
 | 0,_,_,_=>none
 | k + 1,x2,x7,x8=>if x8 ≥ 1 then (posthornref21_nth.l0 k x2 (wrap64 (x7 + 1)) (wrap64 (x8 - 7))) else (some (x7 == x2))
def posthornref21_nth.l1:Nat→Int→Int→Int→Int→Option (Bool)
 | 0,_,_,_,_=>none
 | k + 1,x1,x2,x7,x9=>if x9≤x1 then (posthornref21_nth.l1 k x1 x2 (wrap64 (x7 + 1)) (wrap64 (x9 + 7))) else (some (x7 == (wrap64 (-x2))))
end
def posthornref21_nth.f (k:Nat) (a0:Int) (a1:Int) (a2:Int):Option (Bool):=if a2=0 then (some true) else (if a2 > 0 then (posthornref21_nth.l0 k a2 0 a0) else (posthornref21_nth.l1 k a1 a2 0 a0))
set_option maxHeartbeats 8000000 in
set_option maxRecDepth 100000 in
theorem posthornref21_nth.calls (k:Nat) (a0:Int) (a1:Int) (a2:Int) (r:Bool) (w:World) (h:posthornref21_nth.f k a0 a1 a2=some r) :
  Calls Tryz.prog 63 #[.int .i64 a0,.int .i64 a1,.int .i64 a2] w fun e w'=>e = .returned (.bool r)∧Drawn0 w w':=by
 have H:(if a2=0 then (some true) else (if a2 > 0 then (posthornref21_nth.l0 k a2 0 a0) else (posthornref21_nth.l1 k a1 a2 0 a0)))=some r:=h;clear h
 by_cases c4:a2=0
 ·rw [if_pos c4] at H;have c4b0:(a2 == 0)=true:=beq_iff_eq.mpr c4;have c4b1:(a2 != 0)=false:=bne_eq_false_iff_eq.mpr c4;clear c4;obtain rfl:=Option.some.inj H
  go_enter Tryz.func63,Tryz.ntmps63
  go_wp2
  go_ret
  exact ⟨val_,by repeat (first | exact Drawn0.refl _ | apply Drawn0.step)⟩
 ·rw [if_neg c4] at H;have c4b0:(a2 == 0)=false:=beq_eq_false_iff_ne.mpr c4;have c4b1:(a2 != 0)=true:=bne_iff_ne.mpr c4
  by_cases c5:a2 > 0
  ·rw [if_pos c5] at H;have c5b0:decide (0 < a2)=true:=decide_eq_true c5;clear c5;have H':=ad_ H;clear H
   go_enter Tryz.func63,Tryz.ntmps63
   go_wp2
   go_loopg [7,8] k (fun kq v7 v8 w'=>∃ (x7_1:Int) (x8_1:Int),v7 = .int .i64 x7_1∧v8 = .int .i64 x8_1∧Aside0 (posthornref21_nth.l0 kq a2 x7_1 x8_1=some r)∧Aside0 (kq≤k)∧Drawn0 w w')
   case atStart=>exact ⟨(0),(a0),val_,val_,H',⟨Nat.le_refl _⟩,by repeat (first | exact Drawn0.refl _ | apply Drawn0.step)⟩
   case round =>
    clear H';(try clear p2);(try clear c4);(try clear c4b0);(try clear c4b1);(try clear c5);(try clear c5b0);obtain ⟨x7_1,x8_1,rfl,rfl,HA,HK1,⟨m1,rfl⟩⟩:=hrel
    cases gk with
    | zero=>exact absurd HA.out (by simp [posthornref21_nth.l0])
    | succ k1 =>
     have H:=HA.out;clear HA
     simp only [posthornref21_nth.l0] at H
     by_cases c6:x8_1 ≥ 1
     ·rw [if_pos c6] at H;have c6b0:decide (1≤x8_1)=true:=decide_eq_true c6;clear c6;have H':=ad_ H;clear H
      go_wp2
      go_roundg k1
      case measure=>have:=HK1.out;omega
      case rel=>exact ⟨(wrap64 (x7_1 + 1)),(wrap64 (x8_1 - 7)),val_,val_,H',⟨by have:=HK1.out;omega⟩,by repeat (first | exact Drawn0.refl _ | apply Drawn0.step)⟩
     ·rw [if_neg c6] at H;have c6b0:decide (1≤x8_1)=false:=decide_eq_false c6;clear c6;obtain rfl:=Option.some.inj H
      go_wp2
      go_ret
      exact ⟨val_,by repeat (first | exact Drawn0.refl _ | apply Drawn0.step)⟩
  ·rw [if_neg c5] at H;have c5b0:decide (0 < a2)=false:=decide_eq_false c5;clear c5;have H':=ad_ H;clear H
   go_enter Tryz.func63,Tryz.ntmps63
   go_wp2
   go_loopg [7,9] k (fun kq v7 v9 w'=>∃ (x7_1:Int) (x9_1:Int),v7 = .int .i64 x7_1∧v9 = .int .i64 x9_1∧Aside0 (posthornref21_nth.l1 kq a1 a2 x7_1 x9_1=some r)∧Aside0 (kq≤k)∧Drawn0 w w')
   case atStart=>exact ⟨(0),(a0),val_,val_,H',⟨Nat.le_refl _⟩,by repeat (first | exact Drawn0.refl _ | apply Drawn0.step)⟩
   case round =>
    clear H';(try clear p2);(try clear c4);(try clear c4b0);(try clear c4b1);(try clear c5);(try clear c5b0);(try clear c6);(try clear c6b0);(try clear p6);(try clear p2);obtain ⟨x7_1,x9_1,rfl,rfl,HA,HK1,⟨m1,rfl⟩⟩:=hrel
    cases gk with
    | zero=>exact absurd HA.out (by simp [posthornref21_nth.l1])
    | succ k1 =>
     have H:=HA.out;clear HA
     simp only [posthornref21_nth.l1] at H
     by_cases c7:x9_1≤a1
     ·rw [if_pos c7] at H;have c7b0:decide (x9_1≤a1)=true:=decide_eq_true c7;clear c7;have H':=ad_ H;clear H
      go_wp2
      go_roundg k1
      case measure=>have:=HK1.out;omega
      case rel=>exact ⟨(wrap64 (x7_1 + 1)),(wrap64 (x9_1 + 7)),val_,val_,H',⟨by have:=HK1.out;omega⟩,by repeat (first | exact Drawn0.refl _ | apply Drawn0.step)⟩
     ·rw [if_neg c7] at H;have c7b0:decide (x9_1≤a1)=false:=decide_eq_false c7;clear c7;obtain rfl:=Option.some.inj H
      go_wp2
      go_ret
      exact ⟨val_,by repeat (first | exact Drawn0.refl _ | apply Drawn0.step)⟩

/-! ### posthornref21_month: function 45 -/
mutual
def posthornref21_month.j0:Nat→Int→Int→Int→Int→Bool→Int→Int→Int→Int→List Int→List Int→List (S54)→Option (Bool)
 | 0,_,_,_,_,_,_,_,_,_,_,_,_=>none
 | k + 1,x3,x4,x5,x13,x27,x240000,x240001,x240002,x240003,x240004,x240005,x240006=>if x27=true then (some (x3 == x5)) else (if (x240005.length:Int) > 0 then ((posthornref21_has.f k x240005 x3).bind fun t241=>(if t241=true then (posthornref21_month.j1 k x3 x4 x13 false x240000 x240001 x240002 x240003 x240004 x240005 x240006) else ((posthornref21_has.f k x240005 (wrap64 ((wrap64 (x3 - 1)) - x13))).bind fun t242=>(posthornref21_month.j1 k x3 x4 x13 (!t242) x240000 x240001 x240002 x240003 x240004 x240005 x240006)))) else (posthornref21_month.j1 k x3 x4 x13 false x240000 x240001 x240002 x240003 x240004 x240005 x240006))
def posthornref21_month.j1:Nat→Int→Int→Int→Bool→Int→Int→Int→Int→List Int→List Int→List (S54)→Option (Bool)
 | 0,_,_,_,_,_,_,_,_,_,_,_=>none
 | k + 1,x3,x4,x13,x51,x240000,x240001,x240002,x240003,x240004,x240005,x240006=>if x51=true then (some false) else (posthornref21_month.l0 k x3 x4 x13 0 x240000 x240001 x240002 x240003 x240004 x240005 x240006)
def posthornref21_month.l0:Nat→Int→Int→Int→Int→Int→Int→Int→Int→List Int→List Int→List (S54)→Option (Bool)
 | 0,_,_,_,_,_,_,_,_,_,_,_=>none
 | k + 1,x3,x4,x13,x14,x240000,x240001,x240002,x240003,x240004,x240005,x240006=>if x14 < (x240006.length:Int) then (if 0≤x14 then (if ((rd_T54 x240006 x14).f0)=x4 then ((posthornref21_nth.f k x3 x13 ((rd_T54 x240006 x14).f1)).bind fun t245=>(if t245=true then (some true) else (posthornref21_month.l0 k x3 x4 x13 (wrap64 (x14 + 1)) x240000 x240001 x240002 x240003 x240004 x240005 x240006))) else (posthornref21_month.l0 k x3 x4 x13 (wrap64 (x14 + 1)) x240000 x240001 x240002 x240003 x240004 x240005 x240006)) else (none)) else (some ((x240006.length:Int) == 0))
end
def posthornref21_month.f (k:Nat) (a0_0:Int) (a0_1:Int) (a0_2:Int) (a0_3:Int) (l0_4:List Int) (l0_5:List Int) (l0_6:List (S54)) (a1:Int) (a2:Int) (a3:Int) (a4:Int) (a5:Int):Option (Bool):=(posthornref12_Month.f k a1 a2).bind fun t240=>(if (l0_5.length:Int)=0 then (posthornref21_month.j0 k a3 a4 a5 t240 ((l0_6.length:Int) == 0) a0_0 a0_1 a0_2 a0_3 l0_4 l0_5 l0_6) else (posthornref21_month.j0 k a3 a4 a5 t240 false a0_0 a0_1 a0_2 a0_3 l0_4 l0_5 l0_6))
set_option maxHeartbeats 8000000 in
set_option maxRecDepth 100000 in
theorem posthornref21_month.calls (k:Nat) (a0_0:Int) (a0_1:Int) (a0_2:Int) (a0_3:Int) (A0_4:Option Addr) (c0_4:Nat) (l0_4:List Int) (A0_5:Option Addr) (c0_5:Nat) (l0_5:List Int) (A0_6:Option Addr) (c0_6:Nat) (l0_6:List (S54)) (a1:Int) (a2:Int) (a3:Int) (a4:Int) (a5:Int) (r:Bool) (w:World) (hr0_4:Kd.C (Kd.int .i64) w A0_4 l0_4.length l0_4) (hc0_4:l0_4.length≤c0_4) (hr0_5:Kd.C (Kd.int .i64) w A0_5 l0_5.length l0_5) (hc0_5:l0_5.length≤c0_5) (hr0_6:Kd.C k54 w A0_6 l0_6.length l0_6) (hc0_6:l0_6.length≤c0_6) (h:posthornref21_month.f k a0_0 a0_1 a0_2 a0_3 l0_4 l0_5 l0_6 a1 a2 a3 a4 a5=some r) :
  Calls Tryz.prog 45 #[.agg #[.int .i64 a0_0,.int .i64 a0_1,.int .i64 a0_2,.int .i64 a0_3,.slice A0_4 l0_4.length c0_4,.slice A0_5 l0_5.length c0_5,.slice A0_6 l0_6.length c0_6],.int .i64 a1,.int .i64 a2,.int .i64 a3,.int .i64 a4,.int .i64 a5] w fun e w'=>e = .returned (.bool r)∧Below w.heap.size w w':=by
 have hu34:=Tryz.underlying34;have HR0_4:=Aside0.mk hr0_4;have HC0_4:=Aside0.mk hc0_4;clear hr0_4 hc0_4;have HR0_5:=Aside0.mk hr0_5;have HC0_5:=Aside0.mk hc0_5;clear hr0_5 hc0_5;have HR0_6:=Aside0.mk hr0_6;have HC0_6:=Aside0.mk hc0_6;clear hr0_6 hc0_6;have HB:=ad_ (Below.refl w.heap.size w);have H:((posthornref12_Month.f k a1 a2).bind fun t240=>(if (l0_5.length:Int)=0 then (posthornref21_month.j0 k a3 a4 a5 t240 ((l0_6.length:Int) == 0) a0_0 a0_1 a0_2 a0_3 l0_4 l0_5 l0_6) else (posthornref21_month.j0 k a3 a4 a5 t240 false a0_0 a0_1 a0_2 a0_3 l0_4 l0_5 l0_6)))=some r:=h;clear h;obtain ⟨t240,A70,H⟩:=bnd_ H
 try dsimp only at H
 have A7:=ad_ A70;clear A70;have HC8:=Aside0.mk H;clear H
 go_enter Tryz.func45,Tryz.ntmps45
 go_upto_region 2 with (first | ((with_reducible refine gate_dst (N:=6) rfl ?_);(try (refine gate_guard (by rfl) ?_;dsimp only));refine box_event ?hg (N:=6) ?hd (cs:=#[.int .i64 a0_0,.int .i64 a0_1,.int .i64 a0_2,.int .i64 a0_3,.slice A0_4 l0_4.length c0_4,.slice A0_5 l0_5.length c0_5,.slice A0_6 l0_6.length c0_6]) (t:=34) ?hr ?_;(case hd=>rfl);(case hg=>rfl);(case hr=>first | (go_simp;done) | (go_simp;rfl));intro gb239 hg w9 hbox hb;have BK239:=ad_ (hbox);have GW239:=ad_ ((by rw [hg];exact (below_size bel_):w.heap.size≤gb239));have GE239:=ad_ ((by rw [hg];exact (below_size bel_):w.heap.size≤gb239));replace HB:=hbb_ hb;clear hb hbox hg) | ((with_reducible refine gate_callee (f:=62) rfl ?_);refine goesL_ (some 17) rfl rfl Tryz.func62 (by kernel_rfl) rfl #[.int .i64 a1,.int .i64 a2] rfl arg_ ?_;(with_reducible refine (posthornref12_Month.calls k a1 a2 t240 _ A7.out).mono ?_);rintro e w' ⟨rfl,⟨nd,rfl⟩⟩;refine ⟨_,rfl,?_⟩))
 (try simp only [Act.put,List.setIfInBounds_toArray,List.set_cons_zero,List.set_cons_succ])
 go_cut [27] (fun v27 wc=>∃ (kq:Nat) (x27_7:Bool),v27 = .bool x27_7∧Aside0 (posthornref21_month.j0 kq a3 a4 a5 t240 x27_7 a0_0 a0_1 a0_2 a0_3 l0_4 l0_5 l0_6=some r)∧Aside0 (kq≤k)∧Aside0 (wc.heap[gb239]? = some (.cells #[.int .i64 a0_0,.int .i64 a0_1,.int .i64 a0_2,.int .i64 a0_3,(.slice A0_4 l0_4.length c0_4),(.slice A0_5 l0_5.length c0_5),(.slice A0_6 l0_6.length c0_6)] 34 (0,0)))∧Aside0 (Below w.heap.size w wc))
 case first =>
  have H:=HC8.out;clear HC8
  by_cases c10:(l0_5.length:Int)=0
  ·rw [if_pos c10] at H;have c10b0:((l0_5.length:Int) == 0)=true:=beq_iff_eq.mpr c10;have c10b1:((l0_5.length:Int) != 0)=false:=bne_eq_false_iff_eq.mpr c10;clear c10
   (first | rw [c10b0] | (simp only [i64_w,i32_w];rw [c10b0]) | skip)
   have H':=ad_ H;clear H;have hcz11_:=cells7_ BK239.out
   go_wp2
   go_meet
   case rel=>exact ⟨_,(((l0_6.length:Int) == 0)),val_,H',⟨by first | omega | exact Nat.le_refl _⟩,⟨blo_ BK239.out⟩,⟨belg_⟩⟩
  ·rw [if_neg c10] at H;have c10b0:((l0_5.length:Int) == 0)=false:=beq_eq_false_iff_ne.mpr c10;have c10b1:((l0_5.length:Int) != 0)=true:=bne_iff_ne.mpr c10
   have c10b2:¬(l0_5 = []):=fun h_=>c10 (by rw [h_];rfl)
   (first | rw [c10b0] | (simp only [i64_w,i32_w];rw [c10b0]) | skip)
   have H':=ad_ H;clear H;have hcz12_:=cells7_ BK239.out
   go_wp2
   go_meet
   case rel=>exact ⟨_,(false),val_,H',⟨by first | omega | exact Nat.le_refl _⟩,⟨blo_ BK239.out⟩,⟨belg_⟩⟩
 case rest =>
  clear HC8;(try clear c1);(try clear p2);(try clear c4);(try clear c6);(try clear c10);(try clear c10b0);(try clear c10b1);(try clear c10b2);(try clear hcz11_);(try clear hcz12_);obtain ⟨kq,x27_7,rfl,HA,HJ7,BK239,HB⟩:=hcut
  cases kq with
  | zero=>exact absurd HA.out (by simp [posthornref21_month.j0])
  | succ kj7 =>
   have H:=HA.out;clear HA
   simp only [posthornref21_month.j0] at H
   by_cases c13:x27_7=true
   ·subst c13;replace H:=ifp_ H;obtain rfl:=Option.some.inj H
    go_wp2
    go_ret
    exact ⟨ret_,belg_⟩
   ·replace c13:=Bool.eq_false_iff.mpr c13;subst c13;replace H:=ifn_ H;have HC14:=Aside0.mk H;clear H
    go_upto_region 4 with (fail)
    go_cut [51] (fun v51 wc=>∃ (kq:Nat) (x51_13:Bool),v51 = .bool x51_13∧Aside0 (posthornref21_month.j1 kq a3 a4 t240 x51_13 a0_0 a0_1 a0_2 a0_3 l0_4 l0_5 l0_6=some r)∧Aside0 (kq≤kj7)∧Aside0 (wc.heap[gb239]? = some (.cells #[.int .i64 a0_0,.int .i64 a0_1,.int .i64 a0_2,.int .i64 a0_3,(.slice A0_4 l0_4.length c0_4),(.slice A0_5 l0_5.length c0_5),(.slice A0_6 l0_6.length c0_6)] 34 (0,0)))∧Aside0 (Below w.heap.size w wc))
    case first =>
     have H:=HC14.out;clear HC14
     by_cases c15:(l0_5.length:Int) > 0
     ·rw [if_pos c15] at H;have c15b0:decide (0 < (l0_5.length:Int))=true:=decide_eq_true c15;have c15b1:decide (0 < l0_5.length)=true:=decide_eq_true (by omega);clear c15
      (first | rw [c15b0] | (simp only [i64_w,i32_w];rw [c15b0]) | skip)
      obtain ⟨t241,A160,H⟩:=bnd_ H
      try dsimp only at H
      have A16:=ad_ A160;clear A160
      by_cases c17:t241=true
      ·subst c17;replace H:=ifp_ H;have H':=ad_ H;clear H;have hcz18_:=cells7_ BK239.out
       go_wp2_with (first | (go_at_call 43;(with_reducible refine (posthornref21_has.calls kj7 _ _ l0_5 a3 true _ ?_ ?_ A16.out).mono ?_);(iterate 2 exact sc_);rintro e w' ⟨rfl,⟨nd,rfl⟩⟩))
       go_meet
       case rel=>exact ⟨_,(false),val_,H',⟨by have:=HJ7.out;first | omega | exact Nat.le_refl _⟩,⟨blo_ BK239.out⟩,⟨belg_⟩⟩
      ·replace c17:=Bool.eq_false_iff.mpr c17;subst c17;replace H:=ifn_ H;obtain ⟨t242,A190,H⟩:=bnd_ H
       try dsimp only at H
       have A19:=ad_ A190;clear A190;have H':=ad_ H;clear H;have hcz20_:=cells7_ BK239.out
       go_wp2_with (first | (go_at_call 43;(with_reducible refine (posthornref21_has.calls kj7 _ _ l0_5 a3 false _ ?_ ?_ A16.out).mono ?_);(iterate 2 exact sc_);rintro e w' ⟨rfl,⟨nd,rfl⟩⟩) | (go_at_call 43;(with_reducible refine (posthornref21_has.calls kj7 _ _ l0_5 (wrap64 ((wrap64 (a3 - 1)) - t240)) t242 _ ?_ ?_ A19.out).mono ?_);exact cop_ (Kd.C_below HR0_5.out belg_);exact HC0_5.out;rintro e w' ⟨rfl,⟨nd,rfl⟩⟩))
       go_meet
       case rel=>exact ⟨_,(!t242),val_,H',⟨by have:=HJ7.out;first | omega | exact Nat.le_refl _⟩,⟨blo_ BK239.out⟩,⟨belg_⟩⟩
     ·rw [if_neg c15] at H;have c15b0:decide (0 < (l0_5.length:Int))=false:=decide_eq_false c15;have c15b1:decide (0 < l0_5.length)=false:=decide_eq_false (by omega);clear c15
      (first | rw [c15b0] | (simp only [i64_w,i32_w];rw [c15b0]) | skip)
      have H':=ad_ H;clear H;have hcz21_:=cells7_ BK239.out
      go_wp2
      go_meet
      case rel=>exact ⟨_,(false),val_,H',⟨by have:=HJ7.out;first | omega | exact Nat.le_refl _⟩,⟨blo_ BK239.out⟩,⟨belg_⟩⟩
    case rest =>
     clear HC14;(try clear c1);(try clear p2);(try clear c4);(try clear c6);(try clear p6);(try clear c10);(try clear c10b0);(try clear c10b1);(try clear c10b2);(try clear c13);(try clear c15);(try clear c15b0);(try clear c15b1);(try clear c17);(try clear hcz11_);(try clear hcz12_);(try clear hcz18_);(try clear hcz20_);(try clear hcz21_);(try clear p2);obtain ⟨kq,x51_13,rfl,HA,HJ13,BK239,HB⟩:=hcut
     cases kq with
     | zero=>exact absurd HA.out (by simp [posthornref21_month.j1])
     | succ kj13 =>
      have H:=HA.out;clear HA
      simp only [posthornref21_month.j1] at H
      by_cases c22:x51_13=true
      ·subst c22;replace H:=ifp_ H;obtain rfl:=Option.some.inj H
       go_wp2
       go_ret
       exact ⟨ret_,belg_⟩
      ·replace c22:=Bool.eq_false_iff.mpr c22;subst c22;replace H:=ifn_ H;have H':=ad_ H;clear H
       go_wp2
       go_loopg [14] kj13 (fun kq v14 w'=>∃ (x14_3:Int),v14 = .int .i64 x14_3∧Aside0 (posthornref21_month.l0 kq a3 a4 t240 x14_3 a0_0 a0_1 a0_2 a0_3 l0_4 l0_5 l0_6=some r)∧Aside0 (kq≤kj13)∧Aside0 (w'.heap[gb239]? = some (.cells #[.int .i64 a0_0,.int .i64 a0_1,.int .i64 a0_2,.int .i64 a0_3,(.slice A0_4 l0_4.length c0_4),(.slice A0_5 l0_5.length c0_5),(.slice A0_6 l0_6.length c0_6)] 34 (0,0)))∧Aside0 (Below w.heap.size w w'))
       case atStart=>exact ⟨(0),val_,H',⟨Nat.le_refl _⟩,⟨blo_ BK239.out⟩,⟨belg_⟩⟩
       case round =>
        clear H';(try clear c1);(try clear c2);(try clear p2);(try clear c4);(try clear c6);(try clear p6);(try clear c10);(try clear c10b0);(try clear c10b1);(try clear c10b2);(try clear c13);(try clear c15);(try clear c15b0);(try clear c15b1);(try clear c17);(try clear c22);(try clear hcz11_);(try clear hcz12_);(try clear hcz18_);(try clear hcz20_);(try clear hcz21_);(try clear p2);(try clear p6);obtain ⟨x14_3,rfl,HA,HK3,BK239,HB⟩:=hrel
        cases gk with
        | zero=>exact absurd HA.out (by simp [posthornref21_month.l0])
        | succ k3 =>
         have H:=HA.out;clear HA
         simp only [posthornref21_month.l0] at H
         by_cases c23:x14_3 < (l0_6.length:Int)
         ·rw [if_pos c23] at H;have c23b0:decide (x14_3 < (l0_6.length:Int))=true:=decide_eq_true c23;clear c23
          by_cases c24:0≤x14_3
          ·rw [if_pos c24] at H;have c24b0:decide (0≤x14_3)=true:=decide_eq_true c24;clear c24
           by_cases c25:((rd_T54 l0_6 x14_3).f0)=a4
           ·rw [if_pos c25] at H;have c25b0:(((rd_T54 l0_6 x14_3).f0) == a4)=true:=beq_iff_eq.mpr c25;have c25b1:(((rd_T54 l0_6 x14_3).f0) != a4)=false:=bne_eq_false_iff_eq.mpr c25;clear c25;obtain ⟨t245,A260,H⟩:=bnd_ H
            try dsimp only at H
            have A26:=ad_ A260;clear A260
            by_cases c27:t245=true
            ·subst c27;replace H:=ifp_ H;obtain rfl:=Option.some.inj H;have hcz28_:=cells7_ BK239.out;have p243:0≤(x14_3:Int):=dec_;have q243:x14_3 < (l0_6.length:Int):=dec_;obtain ⟨ad243,e243,hx243_0,hx243_1⟩:=at_T54 HR0_6.out x14_3 p243 q243
             cases e243
             replace hx243_0:=(HB.out.cell (World.block_lt_of_cell? w _ hx243_0)).trans hx243_0;replace hx243_1:=(HB.out.cell (World.block_lt_of_cell? w _ hx243_1)).trans hx243_1;replace p243:=eq_true p243;replace q243:=eq_true q243;have p244:0≤(x14_3:Int):=dec_;have q244:x14_3 < (l0_6.length:Int):=dec_;obtain ⟨ad244,e244,hx244_0,hx244_1⟩:=at_T54 HR0_6.out x14_3 p244 q244;obtain rfl:ad243=ad244:=(by injection e244);replace hx244_0:=(HB.out.cell (World.block_lt_of_cell? w _ hx244_0)).trans hx244_0;replace hx244_1:=(HB.out.cell (World.block_lt_of_cell? w _ hx244_1)).trans hx244_1;replace p244:=eq_true p244;replace q244:=eq_true q244
             go_wp2_with (first | (go_at_call 63;(with_reducible refine (posthornref21_nth.calls k3 a3 t240 ((rd_T54 l0_6 x14_3).f1) true _ A26.out).mono ?_);rintro e w' ⟨rfl,⟨nd,rfl⟩⟩))
             go_ret
             exact ⟨ret_,belg_⟩
            ·replace c27:=Bool.eq_false_iff.mpr c27;subst c27;replace H:=ifn_ H;have H':=ad_ H;clear H;have hcz29_:=cells7_ BK239.out;have p243:0≤(x14_3:Int):=dec_;have q243:x14_3 < (l0_6.length:Int):=dec_;obtain ⟨ad243,e243,hx243_0,hx243_1⟩:=at_T54 HR0_6.out x14_3 p243 q243
             cases e243
             replace hx243_0:=(HB.out.cell (World.block_lt_of_cell? w _ hx243_0)).trans hx243_0;replace hx243_1:=(HB.out.cell (World.block_lt_of_cell? w _ hx243_1)).trans hx243_1;replace p243:=eq_true p243;replace q243:=eq_true q243;have p244:0≤(x14_3:Int):=dec_;have q244:x14_3 < (l0_6.length:Int):=dec_;obtain ⟨ad244,e244,hx244_0,hx244_1⟩:=at_T54 HR0_6.out x14_3 p244 q244;obtain rfl:ad243=ad244:=(by injection e244);replace hx244_0:=(HB.out.cell (World.block_lt_of_cell? w _ hx244_0)).trans hx244_0;replace hx244_1:=(HB.out.cell (World.block_lt_of_cell? w _ hx244_1)).trans hx244_1;replace p244:=eq_true p244;replace q244:=eq_true q244
             go_wp2_with (first | (go_at_call 63;(with_reducible refine (posthornref21_nth.calls k3 a3 t240 ((rd_T54 l0_6 x14_3).f1) false _ A26.out).mono ?_);rintro e w' ⟨rfl,⟨nd,rfl⟩⟩))
             go_roundg k3
             case measure=>have:=HJ7.out;have:=HJ13.out;have:=HK3.out;omega
             case rel=>exact ⟨(wrap64 (x14_3 + 1)),val_,H',⟨by have:=HJ7.out;have:=HJ13.out;have:=HK3.out;omega⟩,⟨blo_ BK239.out⟩,⟨belg_⟩⟩
           ·rw [if_neg c25] at H;have c25b0:(((rd_T54 l0_6 x14_3).f0) == a4)=false:=beq_eq_false_iff_ne.mpr c25;have c25b1:(((rd_T54 l0_6 x14_3).f0) != a4)=true:=bne_iff_ne.mpr c25;have H':=ad_ H;clear H;have hcz30_:=cells7_ BK239.out;have p243:0≤(x14_3:Int):=dec_;have q243:x14_3 < (l0_6.length:Int):=dec_;obtain ⟨ad243,e243,hx243_0,hx243_1⟩:=at_T54 HR0_6.out x14_3 p243 q243
            cases e243
            replace hx243_0:=(HB.out.cell (World.block_lt_of_cell? w _ hx243_0)).trans hx243_0;replace hx243_1:=(HB.out.cell (World.block_lt_of_cell? w _ hx243_1)).trans hx243_1;replace p243:=eq_true p243;replace q243:=eq_true q243
            go_wp2
            go_roundg k3
            case measure=>have:=HJ7.out;have:=HJ13.out;have:=HK3.out;omega
            case rel=>exact ⟨(wrap64 (x14_3 + 1)),val_,H',⟨by have:=HJ7.out;have:=HJ13.out;have:=HK3.out;omega⟩,⟨blo_ BK239.out⟩,⟨belg_⟩⟩
          ·rw [if_neg c24] at H;exact absurd H (by simp)
         ·rw [if_neg c23] at H;have c23b0:decide (x14_3 < (l0_6.length:Int))=false:=decide_eq_false c23;clear c23;obtain rfl:=Option.some.inj H;have hcz31_:=cells7_ BK239.out
          go_wp2
          go_ret
          exact ⟨ret_,belg_⟩

end Go.Proofs.YtbeihceeliifeaaGreatDoor.PR

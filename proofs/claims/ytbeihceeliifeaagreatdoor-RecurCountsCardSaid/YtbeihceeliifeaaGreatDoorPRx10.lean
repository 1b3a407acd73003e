-- Written by a program of the session (wip/tools).
import Derived.Test.YtbeihceeliifeaaGreatDoorPRx0
namespace Go.Proofs.YtbeihceeliifeaaGreatDoor.PR
open Go.RowKit Go.Proofs.YtbeihceeliifeaaGreatDoorW.PrintWords Go.Proofs.YtbeihceeliifeaaGreatDoorW.PrintLast Go.Proofs.YtbeihceeliifeaaGreatDoorW.PrintMore
attribute [local go_sem] max2_int min2_int max_two min_two max_three min_three max_four min_four   -- for this text's walks alone
set_option linter.unusedVariables false
set_option linter.unusedSimpArgs false

/-! ### posthornref21_week: function 40 -/
mutual
def posthornref21_week.l0:Nat→List (S54)→Bool→Int→Option (Bool)
 | 0,_,_,_=>none
 | k + 1,x0,x1,x5=>if x5 < (x0.length:Int) then (if 0≤x5 then (if ((rd_T54 x0 x5).f0) < 0 then (posthornref21_week.j1 k x0 x1 x5 true ((rd_T54 x0 x5).f0) ((rd_T54 x0 x5).f1)) else (if ((rd_T54 x0 x5).f0) > 6 then (posthornref21_week.j1 k x0 x1 x5 true ((rd_T54 x0 x5).f0) ((rd_T54 x0 x5).f1)) else (if ((rd_T54 x0 x5).f1) < (-5) then (posthornref21_week.j1 k x0 x1 x5 true ((rd_T54 x0 x5).f0) ((rd_T54 x0 x5).f1)) else (if ((rd_T54 x0 x5).f1) > 5 then (posthornref21_week.j1 k x0 x1 x5 true ((rd_T54 x0 x5).f0) ((rd_T54 x0 x5).f1)) else (if ((rd_T54 x0 x5).f1)=0 then (posthornref21_week.j1 k x0 x1 x5 false ((rd_T54 x0 x5).f0) ((rd_T54 x0 x5).f1)) else (posthornref21_week.j1 k x0 x1 x5 (!x1) ((rd_T54 x0 x5).f0) ((rd_T54 x0 x5).f1))))))) else (none)) else (some true)
def posthornref21_week.j1:Nat→List (S54)→Bool→Int→Bool→Int→Int→Option (Bool)
 | 0,_,_,_,_,_,_=>none
 | k + 1,x0,x1,x5,x43,x223000,x223001=>if x43=true then (some false) else (if x5 > 0 then (if 0≤(wrap64 (x5 - 1)) then (if (wrap64 (x5 - 1)) < (x0.length:Int) then (if ((rd_T54 x0 (wrap64 (x5 - 1))).f0) > x223000 then (some false) else (if ((rd_T54 x0 (wrap64 (x5 - 1))).f0)=x223000 then (if ((rd_T54 x0 (wrap64 (x5 - 1))).f1) ≥ x223001 then (some false) else (posthornref21_week.l0 k x0 x1 (wrap64 (x5 + 1)))) else (posthornref21_week.l0 k x0 x1 (wrap64 (x5 + 1))))) else (none)) else (none)) else (posthornref21_week.l0 k x0 x1 (wrap64 (x5 + 1))))
end
def posthornref21_week.f (k:Nat) (l0:List (S54)) (a1:Bool):Option (Bool):=posthornref21_week.l0 k l0 a1 0
set_option maxHeartbeats 8000000 in
set_option maxRecDepth 100000 in
theorem posthornref21_week.calls (k:Nat) (A0:Option Addr) (c0:Nat) (l0:List (S54)) (a1:Bool) (r:Bool) (w:World) (hr0:Kd.C k54 w A0 l0.length l0) (hc0:l0.length≤c0) (h:posthornref21_week.f k l0 a1=some r) :
  Calls Tryz.prog 40 #[.slice A0 l0.length c0,.bool a1] w fun e w'=>e = .returned (.bool r)∧Below w.heap.size w w':=by
 have hu54:=Tryz.underlying54;have HR0:=Aside0.mk hr0;have HC0:=Aside0.mk hc0;clear hr0 hc0;have HB:=ad_ (Below.refl w.heap.size w);have H:(posthornref21_week.l0 k l0 a1 0)=some r:=h;clear h;have H':=ad_ H;clear H
 go_enter Tryz.func40,Tryz.ntmps40
 go_wp2
 repeat (go_quiet (fail);try go_wp2)
 go_loopg [5] k (fun kq v5 w'=>∃ (x5_1:Int),v5 = .int .i64 x5_1∧Aside0 (posthornref21_week.l0 kq l0 a1 x5_1=some r)∧Aside0 (kq≤k)∧Aside0 (Below w.heap.size w w'))
 case atStart=>exact ⟨(0),val_,H',⟨Nat.le_refl _⟩,⟨bel_⟩⟩
 case round =>
  clear H';(try clear p2);obtain ⟨x5_1,rfl,HA,HK1,HB⟩:=hrel
  cases gk with
  | zero=>exact absurd HA.out (by simp [posthornref21_week.l0])
  | succ k1 =>
   have H:=HA.out;clear HA
   simp only [posthornref21_week.l0] at H
   by_cases c3:x5_1 < (l0.length:Int)
   ·rw [if_pos c3] at H;have c3b0:decide (x5_1 < (l0.length:Int))=true:=decide_eq_true c3;clear c3
    by_cases c4:0≤x5_1
    ·rw [if_pos c4] at H;have c4b0:decide (0≤x5_1)=true:=decide_eq_true c4;clear c4;have HC5:=Aside0.mk H;clear H;have p221:0≤(x5_1:Int):=dec_;have q221:x5_1 < (l0.length:Int):=dec_;obtain ⟨ad221,e221,hx221_0,hx221_1⟩:=at_T54 HR0.out x5_1 p221 q221
     cases e221
     replace hx221_0:=(HB.out.cell (World.block_lt_of_cell? w _ hx221_0)).trans hx221_0;replace hx221_1:=(HB.out.cell (World.block_lt_of_cell? w _ hx221_1)).trans hx221_1;replace p221:=eq_true p221;replace q221:=eq_true q221
     go_upto_region 5 with (first | ((with_reducible refine gate_dst (N:=6) rfl ?_);refine box_event ?hg (N:=6) ?hd (cs:=#[.int .i64 0,.int .i64 0]) (t:=54) ?hr ?_;(case hd=>rfl);(case hg=>rfl);(case hr=>first | (go_simp;done) | (go_simp;rfl));intro gb222 hg w6 hbox hb;have BK222:=ad_ (hbox);have GW222:=ad_ ((by rw [hg];exact (below_size bel_):w.heap.size≤gb222));have GE222:=ad_ ((by rw [hg];exact (below_size bel_):w.heap.size≤gb222));replace HB:=hbb_ hb;clear hb hbox hg;have hcz7_:=cells2_ BK222.out))
     repeat (go_quiet (first | ((with_reducible refine gate_dst (N:=6) rfl ?_);refine box_event ?hg (N:=6) ?hd (cs:=#[.int .i64 0,.int .i64 0]) (t:=54) ?hr ?_;(case hd=>rfl);(case hg=>rfl);(case hr=>first | (go_simp;done) | (go_simp;rfl));intro gb222 hg w6 hbox hb;have BK222:=ad_ (hbox);have GW222:=ad_ ((by rw [hg];exact (below_size bel_):w.heap.size≤gb222));have GE222:=ad_ ((by rw [hg];exact (below_size bel_):w.heap.size≤gb222));replace HB:=hbb_ hb;clear hb hbox hg;have hcz7_:=cells2_ BK222.out));go_upto_region 5 with (first | ((with_reducible refine gate_dst (N:=6) rfl ?_);refine box_event ?hg (N:=6) ?hd (cs:=#[.int .i64 0,.int .i64 0]) (t:=54) ?hr ?_;(case hd=>rfl);(case hg=>rfl);(case hr=>first | (go_simp;done) | (go_simp;rfl));intro gb222 hg w6 hbox hb;have BK222:=ad_ (hbox);have GW222:=ad_ ((by rw [hg];exact (below_size bel_):w.heap.size≤gb222));have GE222:=ad_ ((by rw [hg];exact (below_size bel_):w.heap.size≤gb222));replace HB:=hbb_ hb;clear hb hbox hg;have hcz7_:=cells2_ BK222.out)))
     (try simp only [Act.put,List.setIfInBounds_toArray,List.set_cons_zero,List.set_cons_succ])
     go_cut [43] (fun v43 wc=>∃ (kq:Nat) (x43_4:Bool),v43 = .bool x43_4∧Aside0 (posthornref21_week.j1 kq l0 a1 x5_1 x43_4 ((rd_T54 l0 x5_1).f0) ((rd_T54 l0 x5_1).f1)=some r)∧Aside0 (kq≤k1)∧Aside0 (wc.heap[gb222]? = some (.cells #[.int .i64 ((rd_T54 l0 x5_1).f0),.int .i64 ((rd_T54 l0 x5_1).f1)] 54 (0,0)))∧Aside0 (Below w.heap.size w wc))
     case first =>
      have H:=HC5.out;clear HC5
      by_cases c8:((rd_T54 l0 x5_1).f0) < 0
      ·rw [if_pos c8] at H;have c8b0:decide (((rd_T54 l0 x5_1).f0) < 0)=true:=decide_eq_true c8;clear c8
       (first | rw [c8b0] | (simp only [i64_w,i32_w];rw [c8b0]) | skip)
       have H':=ad_ H;clear H;have hcz9_:=cells2_ BK222.out
       go_wp2
       repeat (go_quiet (fail);try go_wp2)
       go_meet
       case rel=>exact ⟨_,(true),val_,H',⟨by have:=HK1.out;first | omega | exact Nat.le_refl _⟩,⟨by refine blo_ ?_;refine blk_put (cs:=#[.int .i64 ((rd_T54 l0 x5_1).f0),.int .i64 0]) ?_ 1 _ rfl;refine blo_ ?_;refine blk_put (cs:=#[.int .i64 0,.int .i64 0]) ?_ 0 _ rfl;exact blo_ BK222.out⟩,⟨belg_⟩⟩
      ·rw [if_neg c8] at H;have c8b0:decide (((rd_T54 l0 x5_1).f0) < 0)=false:=decide_eq_false c8;clear c8
       (first | rw [c8b0] | (simp only [i64_w,i32_w];rw [c8b0]) | skip)
       by_cases c10:((rd_T54 l0 x5_1).f0) > 6
       ·rw [if_pos c10] at H;have c10b0:decide (6 < ((rd_T54 l0 x5_1).f0))=true:=decide_eq_true c10;clear c10;have H':=ad_ H;clear H;have hcz11_:=cells2_ BK222.out
        go_wp2
        repeat (go_quiet (fail);try go_wp2)
        go_meet
        case rel=>exact ⟨_,(true),val_,H',⟨by have:=HK1.out;first | omega | exact Nat.le_refl _⟩,⟨by refine blo_ ?_;refine blk_put (cs:=#[.int .i64 ((rd_T54 l0 x5_1).f0),.int .i64 0]) ?_ 1 _ rfl;refine blo_ ?_;refine blk_put (cs:=#[.int .i64 0,.int .i64 0]) ?_ 0 _ rfl;exact blo_ BK222.out⟩,⟨belg_⟩⟩
       ·rw [if_neg c10] at H;have c10b0:decide (6 < ((rd_T54 l0 x5_1).f0))=false:=decide_eq_false c10;clear c10
        by_cases c12:((rd_T54 l0 x5_1).f1) < (-5)
        ·rw [if_pos c12] at H;have c12b0:decide (((rd_T54 l0 x5_1).f1) < (-5))=true:=decide_eq_true c12;clear c12;have H':=ad_ H;clear H;have hcz13_:=cells2_ BK222.out
         go_wp2
         repeat (go_quiet (fail);try go_wp2)
         go_meet
         case rel=>exact ⟨_,(true),val_,H',⟨by have:=HK1.out;first | omega | exact Nat.le_refl _⟩,⟨by refine blo_ ?_;refine blk_put (cs:=#[.int .i64 ((rd_T54 l0 x5_1).f0),.int .i64 0]) ?_ 1 _ rfl;refine blo_ ?_;refine blk_put (cs:=#[.int .i64 0,.int .i64 0]) ?_ 0 _ rfl;exact blo_ BK222.out⟩,⟨belg_⟩⟩
        ·rw [if_neg c12] at H;have c12b0:decide (((rd_T54 l0 x5_1).f1) < (-5))=false:=decide_eq_false c12;clear c12
         by_cases c14:((rd_T54 l0 x5_1).f1) > 5
         ·rw [if_pos c14] at H;have c14b0:decide (5 < ((rd_T54 l0 x5_1).f1))=true:=decide_eq_true c14;clear c14;have H':=ad_ H;clear H;have hcz15_:=cells2_ BK222.out
          go_wp2
          repeat (go_quiet (fail);try go_wp2)
          go_meet
          case rel=>exact ⟨_,(true),val_,H',⟨by have:=HK1.out;first | omega | exact Nat.le_refl _⟩,⟨by refine blo_ ?_;refine blk_put (cs:=#[.int .i64 ((rd_T54 l0 x5_1).f0),.int .i64 0]) ?_ 1 _ rfl;refine blo_ ?_;refine blk_put (cs:=#[.int .i64 0,.int .i64 0]) ?_ 0 _ rfl;exact blo_ BK222.out⟩,⟨belg_⟩⟩
         ·rw [if_neg c14] at H;have c14b0:decide (5 < ((rd_T54 l0 x5_1).f1))=false:=decide_eq_false c14;clear c14
          by_cases c16:((rd_T54 l0 x5_1).f1)=0
          ·rw [if_pos c16] at H;have c16b0:(((rd_T54 l0 x5_1).f1) == 0)=true:=beq_iff_eq.mpr c16;have c16b1:(((rd_T54 l0 x5_1).f1) != 0)=false:=bne_eq_false_iff_eq.mpr c16;clear c16;have H':=ad_ H;clear H;have hcz17_:=cells2_ BK222.out
           go_wp2
           repeat (go_quiet (fail);try go_wp2)
           go_meet
           case rel=>exact ⟨_,(false),val_,H',⟨by have:=HK1.out;first | omega | exact Nat.le_refl _⟩,⟨by refine blo_ ?_;refine blk_put (cs:=#[.int .i64 ((rd_T54 l0 x5_1).f0),.int .i64 0]) ?_ 1 _ rfl;refine blo_ ?_;refine blk_put (cs:=#[.int .i64 0,.int .i64 0]) ?_ 0 _ rfl;exact blo_ BK222.out⟩,⟨belg_⟩⟩
          ·rw [if_neg c16] at H;have c16b0:(((rd_T54 l0 x5_1).f1) == 0)=false:=beq_eq_false_iff_ne.mpr c16;have c16b1:(((rd_T54 l0 x5_1).f1) != 0)=true:=bne_iff_ne.mpr c16;have H':=ad_ H;clear H;have hcz18_:=cells2_ BK222.out
           go_wp2
           repeat (go_quiet (fail);try go_wp2)
           go_meet
           case rel=>exact ⟨_,(!a1),val_,H',⟨by have:=HK1.out;first | omega | exact Nat.le_refl _⟩,⟨by refine blo_ ?_;refine blk_put (cs:=#[.int .i64 ((rd_T54 l0 x5_1).f0),.int .i64 0]) ?_ 1 _ rfl;refine blo_ ?_;refine blk_put (cs:=#[.int .i64 0,.int .i64 0]) ?_ 0 _ rfl;exact blo_ BK222.out⟩,⟨belg_⟩⟩
     case rest =>
      clear HC5;(try clear c1);(try clear p2);(try clear q2);(try clear hx2);(try clear c3);(try clear c3b0);(try clear c4);(try clear c4b0);(try clear c8);(try clear c8b0);(try clear c10);(try clear c10b0);(try clear c12);(try clear c12b0);(try clear c14);(try clear c14b0);(try clear c16);(try clear c16b0);(try clear c16b1);(try clear hcz11_);(try clear hcz13_);(try clear hcz15_);(try clear hcz17_);(try clear hcz18_);(try clear hcz7_);(try clear hcz9_);(try clear hx221_0);(try clear hx221_1);(try clear p2);(try clear p221);(try clear q221);obtain ⟨kq,x43_4,rfl,HA,HJ4,BK222,HB⟩:=hcut
      cases kq with
      | zero=>exact absurd HA.out (by simp [posthornref21_week.j1])
      | succ kj4 =>
       have H:=HA.out;clear HA
       simp only [posthornref21_week.j1] at H
       by_cases c19:x43_4=true
       ·subst c19;replace H:=ifp_ H;obtain rfl:=Option.some.inj H
        go_wp2
        repeat (go_quiet (fail);try go_wp2)
        go_ret
        exact ⟨ret_,belg_⟩
       ·replace c19:=Bool.eq_false_iff.mpr c19;subst c19;replace H:=ifn_ H
        by_cases c20:x5_1 > 0
        ·rw [if_pos c20] at H;have c20b0:decide (0 < x5_1)=true:=decide_eq_true c20;clear c20;obtain ⟨ji21,hji21⟩:∃ j_:Int,(wrap64 (x5_1 - 1))=j_:=⟨_,rfl⟩
         replace H:(if 0≤(ji21) then (if (ji21) < (l0.length:Int) then (if ((rd_T54 l0 (ji21)).f0) > ((rd_T54 l0 x5_1).f0) then (some false) else (if ((rd_T54 l0 (ji21)).f0)=((rd_T54 l0 x5_1).f0) then (if ((rd_T54 l0 (ji21)).f1) ≥ ((rd_T54 l0 x5_1).f1) then (some false) else (posthornref21_week.l0 kj4 l0 a1 (wrap64 (x5_1 + 1)))) else (posthornref21_week.l0 kj4 l0 a1 (wrap64 (x5_1 + 1))))) else (none)) else (none))=some r:=by first | (rw [hji21] at H;exact H) | (simp only [hji21] at H ⊢;exact H)
         have hji21w:(IntKind.i64.wrap (x5_1 - 1))=ji21:=(i64_w _).trans hji21
         by_cases c22:0≤(ji21)
         ·rw [if_pos c22] at H;have c22b0:decide (0≤(ji21))=true:=decide_eq_true c22;clear c22
          by_cases c23:(ji21) < (l0.length:Int)
          ·rw [if_pos c23] at H;have c23b0:decide ((ji21) < (l0.length:Int))=true:=decide_eq_true c23;clear c23
           by_cases c24:((rd_T54 l0 (ji21)).f0) > ((rd_T54 l0 x5_1).f0)
           ·rw [if_pos c24] at H;have c24b0:decide (((rd_T54 l0 x5_1).f0) < ((rd_T54 l0 (ji21)).f0))=true:=decide_eq_true c24;clear c24;obtain rfl:=Option.some.inj H;have p223:0≤((ji21):Int):=dec_;have q223:(ji21) < (l0.length:Int):=dec_;obtain ⟨ad223,e223,hx223_0,hx223_1⟩:=at_T54 HR0.out (ji21) p223 q223;obtain rfl:ad221=ad223:=(by injection e223);replace hx223_0:=(HB.out.cell (World.block_lt_of_cell? w _ hx223_0)).trans hx223_0;replace hx223_1:=(HB.out.cell (World.block_lt_of_cell? w _ hx223_1)).trans hx223_1;replace p223:=eq_true p223;replace q223:=eq_true q223;have hcz25_:=cells2_ BK222.out
            go_wp2
            repeat (go_quiet (fail);try go_wp2)
            go_ret
            exact ⟨by first | rfl | (simp [errW_none,errW_some] <;> rfl) | (simp only [← hji21];first | rfl | (simp [errW_none,errW_some] <;> rfl)) | (simp [*,errW_none,errW_some] <;> rfl),belg_⟩
           ·rw [if_neg c24] at H;have c24b0:decide (((rd_T54 l0 x5_1).f0) < ((rd_T54 l0 (ji21)).f0))=false:=decide_eq_false c24;clear c24
            by_cases c26:((rd_T54 l0 (ji21)).f0)=((rd_T54 l0 x5_1).f0)
            ·rw [if_pos c26] at H;have c26b0:(((rd_T54 l0 (ji21)).f0) == ((rd_T54 l0 x5_1).f0))=true:=beq_iff_eq.mpr c26;have c26b1:(((rd_T54 l0 (ji21)).f0) != ((rd_T54 l0 x5_1).f0))=false:=bne_eq_false_iff_eq.mpr c26;clear c26
             by_cases c27:((rd_T54 l0 (ji21)).f1) ≥ ((rd_T54 l0 x5_1).f1)
             ·rw [if_pos c27] at H;have c27b0:decide (((rd_T54 l0 x5_1).f1)≤((rd_T54 l0 (ji21)).f1))=true:=decide_eq_true c27;clear c27;obtain rfl:=Option.some.inj H;have p223:0≤((ji21):Int):=dec_;have q223:(ji21) < (l0.length:Int):=dec_;obtain ⟨ad223,e223,hx223_0,hx223_1⟩:=at_T54 HR0.out (ji21) p223 q223;obtain rfl:ad221=ad223:=(by injection e223);replace hx223_0:=(HB.out.cell (World.block_lt_of_cell? w _ hx223_0)).trans hx223_0;replace hx223_1:=(HB.out.cell (World.block_lt_of_cell? w _ hx223_1)).trans hx223_1;replace p223:=eq_true p223;replace q223:=eq_true q223;have hcz28_:=cells2_ BK222.out;have p224:0≤((ji21):Int):=dec_;have q224:(ji21) < (l0.length:Int):=dec_;obtain ⟨ad224,e224,hx224_0,hx224_1⟩:=at_T54 HR0.out (ji21) p224 q224;obtain rfl:ad221=ad224:=(by injection e224);replace hx224_0:=(HB.out.cell (World.block_lt_of_cell? w _ hx224_0)).trans hx224_0;replace hx224_1:=(HB.out.cell (World.block_lt_of_cell? w _ hx224_1)).trans hx224_1;replace p224:=eq_true p224;replace q224:=eq_true q224;have p225:0≤((ji21):Int):=dec_;have q225:(ji21) < (l0.length:Int):=dec_;obtain ⟨ad225,e225,hx225_0,hx225_1⟩:=at_T54 HR0.out (ji21) p225 q225;obtain rfl:ad221=ad225:=(by injection e225);replace hx225_0:=(HB.out.cell (World.block_lt_of_cell? w _ hx225_0)).trans hx225_0;replace hx225_1:=(HB.out.cell (World.block_lt_of_cell? w _ hx225_1)).trans hx225_1;replace p225:=eq_true p225;replace q225:=eq_true q225
              go_wp2
              repeat (go_quiet (fail);try go_wp2)
              go_ret
              exact ⟨by first | rfl | (simp [errW_none,errW_some] <;> rfl) | (simp only [← hji21];first | rfl | (simp [errW_none,errW_some] <;> rfl)) | (simp [*,errW_none,errW_some] <;> rfl),belg_⟩
             ·rw [if_neg c27] at H;have c27b0:decide (((rd_T54 l0 x5_1).f1)≤((rd_T54 l0 (ji21)).f1))=false:=decide_eq_false c27;clear c27;have H':=ad_ H;clear H;have p223:0≤((ji21):Int):=dec_;have q223:(ji21) < (l0.length:Int):=dec_;obtain ⟨ad223,e223,hx223_0,hx223_1⟩:=at_T54 HR0.out (ji21) p223 q223;obtain rfl:ad221=ad223:=(by injection e223);replace hx223_0:=(HB.out.cell (World.block_lt_of_cell? w _ hx223_0)).trans hx223_0;replace hx223_1:=(HB.out.cell (World.block_lt_of_cell? w _ hx223_1)).trans hx223_1;replace p223:=eq_true p223;replace q223:=eq_true q223;have hcz29_:=cells2_ BK222.out;have p224:0≤((ji21):Int):=dec_;have q224:(ji21) < (l0.length:Int):=dec_;obtain ⟨ad224,e224,hx224_0,hx224_1⟩:=at_T54 HR0.out (ji21) p224 q224;obtain rfl:ad221=ad224:=(by injection e224);replace hx224_0:=(HB.out.cell (World.block_lt_of_cell? w _ hx224_0)).trans hx224_0;replace hx224_1:=(HB.out.cell (World.block_lt_of_cell? w _ hx224_1)).trans hx224_1;replace p224:=eq_true p224;replace q224:=eq_true q224;have p225:0≤((ji21):Int):=dec_;have q225:(ji21) < (l0.length:Int):=dec_;obtain ⟨ad225,e225,hx225_0,hx225_1⟩:=at_T54 HR0.out (ji21) p225 q225;obtain rfl:ad221=ad225:=(by injection e225);replace hx225_0:=(HB.out.cell (World.block_lt_of_cell? w _ hx225_0)).trans hx225_0;replace hx225_1:=(HB.out.cell (World.block_lt_of_cell? w _ hx225_1)).trans hx225_1;replace p225:=eq_true p225;replace q225:=eq_true q225
              go_wp2
              repeat (go_quiet (fail);try go_wp2)
              go_roundg kj4
              case measure=>have:=HK1.out;have:=HJ4.out;omega
              case rel=>exact ⟨(wrap64 (x5_1 + 1)),val_,H',⟨by have:=HK1.out;have:=HJ4.out;omega⟩,⟨belg_⟩⟩
            ·rw [if_neg c26] at H;have c26b0:(((rd_T54 l0 (ji21)).f0) == ((rd_T54 l0 x5_1).f0))=false:=beq_eq_false_iff_ne.mpr c26;have c26b1:(((rd_T54 l0 (ji21)).f0) != ((rd_T54 l0 x5_1).f0))=true:=bne_iff_ne.mpr c26;have H':=ad_ H;clear H;have p223:0≤((ji21):Int):=dec_;have q223:(ji21) < (l0.length:Int):=dec_;obtain ⟨ad223,e223,hx223_0,hx223_1⟩:=at_T54 HR0.out (ji21) p223 q223;obtain rfl:ad221=ad223:=(by injection e223);replace hx223_0:=(HB.out.cell (World.block_lt_of_cell? w _ hx223_0)).trans hx223_0;replace hx223_1:=(HB.out.cell (World.block_lt_of_cell? w _ hx223_1)).trans hx223_1;replace p223:=eq_true p223;replace q223:=eq_true q223;have hcz30_:=cells2_ BK222.out;have p224:0≤((ji21):Int):=dec_;have q224:(ji21) < (l0.length:Int):=dec_;obtain ⟨ad224,e224,hx224_0,hx224_1⟩:=at_T54 HR0.out (ji21) p224 q224;obtain rfl:ad221=ad224:=(by injection e224);replace hx224_0:=(HB.out.cell (World.block_lt_of_cell? w _ hx224_0)).trans hx224_0;replace hx224_1:=(HB.out.cell (World.block_lt_of_cell? w _ hx224_1)).trans hx224_1;replace p224:=eq_true p224;replace q224:=eq_true q224
             go_wp2
             repeat (go_quiet (fail);try go_wp2)
             go_roundg kj4
             case measure=>have:=HK1.out;have:=HJ4.out;omega
             case rel=>exact ⟨(wrap64 (x5_1 + 1)),val_,H',⟨by have:=HK1.out;have:=HJ4.out;omega⟩,⟨belg_⟩⟩
          ·rw [if_neg c23] at H;exact absurd H (by simp)
         ·rw [if_neg c22] at H;exact absurd H (by simp)
        ·rw [if_neg c20] at H;have c20b0:decide (0 < x5_1)=false:=decide_eq_false c20;clear c20;have H':=ad_ H;clear H
         go_wp2
         repeat (go_quiet (fail);try go_wp2)
         go_roundg kj4
         case measure=>have:=HK1.out;have:=HJ4.out;omega
         case rel=>exact ⟨(wrap64 (x5_1 + 1)),val_,H',⟨by have:=HK1.out;have:=HJ4.out;omega⟩,⟨belg_⟩⟩
    ·rw [if_neg c4] at H;exact absurd H (by simp)
   ·rw [if_neg c3] at H;have c3b0:decide (x5_1 < (l0.length:Int))=false:=decide_eq_false c3;clear c3;obtain rfl:=Option.some.inj H
    go_wp2
    repeat (go_quiet (fail);try go_wp2)
    go_ret
    exact ⟨ret_,bel_⟩

end Go.Proofs.YtbeihceeliifeaaGreatDoor.PR

-- Written by a program of the session (wip/tools).
import Derived.Test.YtkgkblmeafhkfaaGreatPHx0
import Derived.Test.YtkgkblmeafhkfaaGreatPHx16
import Derived.Test.YtkgkblmeafhkfaaGreatPHx18
import Derived.Test.YtkgkblmeafhkfaaGreatPHx19
namespace Go.Proofs.YtkgkblmeafhkfaaGreat.PH
open Go.RowKit Go.Proofs.YtkgkblmeafhkfaaGreatW.PrintWords Go.Proofs.YtkgkblmeafhkfaaGreatW.PrintLast Go.Proofs.YtkgkblmeafhkfaaGreatW.PrintMore
attribute [local go_sem] max2_int min2_int max_two min_two max_three min_three max_four min_four   -- for this text's walks alone
set_option linter.unusedVariables false
set_option linter.unusedSimpArgs false

mutual
def pr23_Right.j0:Nat→Bool→Int→Int→Bool→Int→Int→Int→Int→List Int→List Int→List (S92)→List Int→List Int→List (S69)→Option (Bool)
 | 0,_,_,_,_,_,_,_,_,_,_,_,_,_,_=>none
 | k + 1,x14,y0,y1,y2,y3,y4,y5,y6,y7,y8,y9,y10,y11,y12=>if x14=true then (some false) else (if y2=true then (pr23_Right.j1 k false y0 y1 y2 y3 y4 y5 y6 y7 y8 y9 y10 y11 y12) else (if y3=0 then (if y4=0 then (if y5=0 then (if y6=0 then (if (y7.length:Int)=0 then (if (y8.length:Int)=0 then (pr23_Right.j1 k ((y9.length:Int) != 0) y0 y1 y2 y3 y4 y5 y6 y7 y8 y9 y10 y11 y12) else (pr23_Right.j1 k true y0 y1 y2 y3 y4 y5 y6 y7 y8 y9 y10 y11 y12)) else (pr23_Right.j1 k true y0 y1 y2 y3 y4 y5 y6 y7 y8 y9 y10 y11 y12)) else (pr23_Right.j1 k true y0 y1 y2 y3 y4 y5 y6 y7 y8 y9 y10 y11 y12)) else (pr23_Right.j1 k true y0 y1 y2 y3 y4 y5 y6 y7 y8 y9 y10 y11 y12)) else (pr23_Right.j1 k true y0 y1 y2 y3 y4 y5 y6 y7 y8 y9 y10 y11 y12)) else (pr23_Right.j1 k true y0 y1 y2 y3 y4 y5 y6 y7 y8 y9 y10 y11 y12)))
def pr23_Right.j1:Nat→Bool→Int→Int→Bool→Int→Int→Int→Int→List Int→List Int→List (S92)→List Int→List Int→List (S69)→Option (Bool)
 | 0,_,_,_,_,_,_,_,_,_,_,_,_,_,_=>none
 | k + 1,x57,y0,y1,y2,y3,y4,y5,y6,y7,y8,y9,y10,y11,y12=>if x57=true then (some false) else (pr23_Right.l0 k ([]:List Int) 0 y0 y1 y2 y3 y4 y5 y6 y7 y8 y9 y10 y11 y12)
def pr23_Right.l0:Nat→List Int→Int→Int→Int→Bool→Int→Int→Int→Int→List Int→List Int→List (S92)→List Int→List Int→List (S69)→Option (Bool)
 | 0,_,_,_,_,_,_,_,_,_,_,_,_,_,_,_=>none
 | k + 1,x4,x5,x350000,x350001,x350002,x350003,x350004,x350005,x350006,x350007,x350008,x350009,x350010,x350011,x350012=>if x5 < (x350012.length:Int) then (if 0≤x5 then (if x4.length < 17592186044416 then ((some (x4 ++ [(rd_T69 x350012 x5).f0]:List Int)).bind fun y354=>(if (rd_T69 x350012 x5).f3=true then (if ((rd_T69 x350012 x5).f1)=0 then (pr23_Right.j3 k y354 x5 (((rd_T69 x350012 x5).f2) != 0) x350000 x350001 x350002 x350003 x350004 x350005 x350006 x350007 x350008 x350009 x350010 x350011 x350012 ((rd_T69 x350012 x5).f0) ((rd_T69 x350012 x5).f1) ((rd_T69 x350012 x5).f2) ((rd_T69 x350012 x5).f3)) else (pr23_Right.j3 k y354 x5 true x350000 x350001 x350002 x350003 x350004 x350005 x350006 x350007 x350008 x350009 x350010 x350011 x350012 ((rd_T69 x350012 x5).f0) ((rd_T69 x350012 x5).f1) ((rd_T69 x350012 x5).f2) ((rd_T69 x350012 x5).f3))) else (pr23_Right.j3 k y354 x5 false x350000 x350001 x350002 x350003 x350004 x350005 x350006 x350007 x350008 x350009 x350010 x350011 x350012 ((rd_T69 x350012 x5).f0) ((rd_T69 x350012 x5).f1) ((rd_T69 x350012 x5).f2) ((rd_T69 x350012 x5).f3)))) else (none)) else (none)) else ((pr12_Time.f x350000).bind fun t359=>(if t359=true then ((pr23_long.f x350001).bind fun t360=>(if t360=true then ((pr23_rising.f k x350010).bind fun t361=>(if t361=true then ((pr23_rising.f k x350011).bind fun t362=>(if t362=true then ((pr23_rising.f k x4).bind fun t363=>(some t363)) else (some false))) else (some false))) else (some false))) else (some false)))
def pr23_Right.j3:Nat→List Int→Int→Bool→Int→Int→Bool→Int→Int→Int→Int→List Int→List Int→List (S92)→List Int→List Int→List (S69)→Int→Int→Int→Bool→Option (Bool)
 | 0,_,_,_,_,_,_,_,_,_,_,_,_,_,_,_,_,_,_,_,_=>none
 | k + 1,x4,x5,x86,y0,y1,y2,y3,y4,y5,y6,y7,y8,y9,y10,y11,y12,y13,y14,y15,y16=>if x86=true then (some false) else (if y16=true then (pr23_Right.l0 k x4 (wrap64 (x5 + 1)) y0 y1 y2 y3 y4 y5 y6 y7 y8 y9 y10 y11 y12) else ((pr12_Time.f y14).bind fun t357=>(if t357=true then ((pr23_long.f y15).bind fun t358=>(if t358=true then (pr23_Right.l0 k x4 (wrap64 (x5 + 1)) y0 y1 y2 y3 y4 y5 y6 y7 y8 y9 y10 y11 y12) else (some false))) else (some false))))
end
def pr23_Right.f (k:Nat) (a0_0 a0_1:Int) (a0_2:Bool) (a0_3 a0_4:Int) (a0_5 a0_6:Int) (l0_7 l0_8:List Int) (l0_9:List (S92)) (l0_10 l0_11:List Int) (l0_12:List (S69)):Option (Bool):=if a0_2=true then ((pr21_Right.f k a0_3 a0_4 a0_5 a0_6 l0_7 l0_8 l0_9).bind fun t350=>(pr23_Right.j0 k (!t350) a0_0 a0_1 a0_2 a0_3 a0_4 a0_5 a0_6 l0_7 l0_8 l0_9 l0_10 l0_11 l0_12)) else (pr23_Right.j0 k false a0_0 a0_1 a0_2 a0_3 a0_4 a0_5 a0_6 l0_7 l0_8 l0_9 l0_10 l0_11 l0_12)
set_option maxHeartbeats 8000000 in
set_option maxRecDepth 100000 in
theorem pr23_Right.calls (k:Nat) (a0_0 a0_1:Int) (a0_2:Bool) (a0_3 a0_4:Int) (a0_5 a0_6:Int) (A0_7:Option Addr) (c0_7:Nat) (l0_7:List Int) (A0_8:Option Addr) (c0_8:Nat) (l0_8:List Int) (A0_9:Option Addr) (c0_9:Nat) (l0_9:List (S92)) (A0_10:Option Addr) (c0_10:Nat) (l0_10:List Int) (A0_11:Option Addr) (c0_11:Nat) (l0_11:List Int) (A0_12:Option Addr) (c0_12:Nat) (l0_12:List (S69)) (r:Bool) (w:World) (hr0_7:Kd.C (Kd.int .i64) w A0_7 l0_7.length l0_7) (hc0_7:l0_7.length≤c0_7) (hr0_8:Kd.C (Kd.int .i64) w A0_8 l0_8.length l0_8) (hc0_8:l0_8.length≤c0_8) (hr0_9:Kd.C k92 w A0_9 l0_9.length l0_9) (hc0_9:l0_9.length≤c0_9) (hr0_10:Kd.C (Kd.int .i64) w A0_10 l0_10.length l0_10) (hc0_10:l0_10.length≤c0_10) (hr0_11:Kd.C (Kd.int .i64) w A0_11 l0_11.length l0_11) (hc0_11:l0_11.length≤c0_11) (hr0_12:Kd.C k69 w A0_12 l0_12.length l0_12) (hc0_12:l0_12.length≤c0_12) (h:pr23_Right.f k a0_0 a0_1 a0_2 a0_3 a0_4 a0_5 a0_6 l0_7 l0_8 l0_9 l0_10 l0_11 l0_12=some r) :
  Calls Tryz.prog 12 #[.agg #[.int .i64 a0_0,.int .i64 a0_1,.bool a0_2,.int .i64 a0_3,.int .i64 a0_4,.int .i64 a0_5,.int .i64 a0_6,.slice A0_7 l0_7.length c0_7,.slice A0_8 l0_8.length c0_8,.slice A0_9 l0_9.length c0_9,.slice A0_10 l0_10.length c0_10,.slice A0_11 l0_11.length c0_11,.slice A0_12 l0_12.length c0_12]] w fun e w'=>e = .returned (.bool r)∧Below w.heap.size w w':=by
 have hu37:=Tryz.underlying37;have hu34:=Tryz.underlying34;have hu69:=Tryz.underlying69;have HR0_7:=Aside0.mk hr0_7;have HC0_7:=Aside0.mk hc0_7;clear hr0_7 hc0_7;have HR0_8:=Aside0.mk hr0_8;have HC0_8:=Aside0.mk hc0_8;clear hr0_8 hc0_8;have HR0_9:=Aside0.mk hr0_9;have HC0_9:=Aside0.mk hc0_9;clear hr0_9 hc0_9;have HR0_10:=Aside0.mk hr0_10;have HC0_10:=Aside0.mk hc0_10;clear hr0_10 hc0_10;have HR0_11:=Aside0.mk hr0_11;have HC0_11:=Aside0.mk hc0_11;clear hr0_11 hc0_11;have HR0_12:=Aside0.mk hr0_12;have HC0_12:=Aside0.mk hc0_12;clear hr0_12 hc0_12;have HB:=ad_ (Below.refl w.heap.size w);have H:(if a0_2=true then ((pr21_Right.f k a0_3 a0_4 a0_5 a0_6 l0_7 l0_8 l0_9).bind fun t350=>(pr23_Right.j0 k (!t350) a0_0 a0_1 a0_2 a0_3 a0_4 a0_5 a0_6 l0_7 l0_8 l0_9 l0_10 l0_11 l0_12)) else (pr23_Right.j0 k false a0_0 a0_1 a0_2 a0_3 a0_4 a0_5 a0_6 l0_7 l0_8 l0_9 l0_10 l0_11 l0_12))=some r:=h;clear h;have HC2:=Aside0.mk H;clear H
 go_enter Tryz.func12,Tryz.ntmps12
 go_upto_region 1 with (first | ((with_reducible refine gate_dst (N:=1) rfl ?_);(try (refine gate_guard (by rfl) ?_;dsimp only));refine bx_ 1 37 ?_;intro gb349 hg w3 hbox hb;have BK349:=ad_ (hbox);have GW349:=gw_ w hg;have GE349:=GW349;replace HB:=hbb_ hb;clear hb hbox hg))
 (try simp only [Act.put,List.setIfInBounds_toArray,List.set_cons_zero,List.set_cons_succ])
 go_cut [14] (fun v14 wc=>∃ (kq:Nat) (x14_1:Bool),v14 = .bool x14_1∧Aside0 (pr23_Right.j0 kq x14_1 a0_0 a0_1 a0_2 a0_3 a0_4 a0_5 a0_6 l0_7 l0_8 l0_9 l0_10 l0_11 l0_12=some r)∧Aside0 (kq≤k)∧Aside0 (wc.heap[gb349]? = some (.cells #[.int .i64 a0_0,.int .i64 a0_1,.bool a0_2,.int .i64 a0_3,.int .i64 a0_4,.int .i64 a0_5,.int .i64 a0_6,(.slice A0_7 l0_7.length c0_7),(.slice A0_8 l0_8.length c0_8),(.slice A0_9 l0_9.length c0_9),(.slice A0_10 l0_10.length c0_10),(.slice A0_11 l0_11.length c0_11),(.slice A0_12 l0_12.length c0_12)] 37 (0,0)))∧Aside0 (Below w.heap.size w wc))
 case first =>
  have H:=HC2.out;clear HC2
  replace H:=db_ H;rcases H with ⟨rfl,H⟩|⟨rfl,H⟩
  ·obtain ⟨t350,A50,H⟩:=bnd_ H
   try dsimp only at H
   have A5:=ad_ A50;clear A50;have H':=ad_ H;clear H;have hcz6_:=cells13_ BK349.out
   go_wp2_with (first | (go_at_call 37;(with_reducible refine (pr21_Right.calls k a0_3 a0_4 a0_5 a0_6 _ _ l0_7 _ _ l0_8 _ _ l0_9 t350 _ ?_ ?_ ?_ ?_ ?_ ?_ A5.out).mono ?_);(iterate 6 exact sc_);rintro e w7 ⟨rfl,hb⟩;replace BK349:=bkb_ BK349 hb;replace HB:=hbb_ hb;clear hb))
   go_meet
   case rel=>exact ⟨_,(!t350),val_,H',⟨by first | omega | exact Nat.le_refl _⟩,⟨blo_ BK349.out⟩,⟨belg_⟩⟩
  ·have H':=ad_ H;clear H;have hcz8_:=cells13_ BK349.out
   go_wp2
   go_meet
   case rel=>exact ⟨_,(false),val_,H',⟨by first | omega | exact Nat.le_refl _⟩,⟨blo_ BK349.out⟩,⟨belg_⟩⟩
 case rest =>
  clear HC2;obtain ⟨kq,x14_1,rfl,HA,HJ1,BK349,HB⟩:=hcut
  cases kq with
  | zero=>exact absurd HA.out (by simp [pr23_Right.j0])
  | succ kj1 =>
   have H:=HA.out;clear HA
   simp only [pr23_Right.j0] at H
   replace H:=db_ H;rcases H with ⟨rfl,H⟩|⟨rfl,H⟩
   ·obtain rfl:=Option.some.inj H
    go_wp2
    go_ret
    exact ⟨ret_,belg_⟩
   ·have HC10:=Aside0.mk H;clear H;have hcz11_:=cells13_ BK349.out
    go_upto_region 4 with (first | ((with_reducible refine gate_dst (N:=3) rfl ?_);(try (refine gate_guard (by rfl) ?_;dsimp only));refine bx_ 3 34 ?_;intro gb351 hg w12 hbox hb;have BK351:=ad_ (hbox);have GW351:=gw_ w hg;have GE351:=GW351;replace HB:=hbb_ hb;have NB349_351:=nlt_ hg BK349;have NB351_349:=ngt_ hg BK349;replace BK349:=bkb_ BK349 hb;clear hb hbox hg;have hnb13:=NB351_349.out;have hnc13:=NB349_351.out;have hcz14_:=cells7_ BK351.out))
    (try simp only [Act.put,List.setIfInBounds_toArray,List.set_cons_zero,List.set_cons_succ])
    go_cut [57] (fun v57 wc=>∃ (kq:Nat) (x57_9:Bool),v57 = .bool x57_9∧Aside0 (pr23_Right.j1 kq x57_9 a0_0 a0_1 a0_2 a0_3 a0_4 a0_5 a0_6 l0_7 l0_8 l0_9 l0_10 l0_11 l0_12=some r)∧Aside0 (kq≤kj1)∧Aside0 (wc.heap[gb349]? = some (.cells #[.int .i64 a0_0,.int .i64 a0_1,.bool a0_2,.int .i64 a0_3,.int .i64 a0_4,.int .i64 a0_5,.int .i64 a0_6,(.slice A0_7 l0_7.length c0_7),(.slice A0_8 l0_8.length c0_8),(.slice A0_9 l0_9.length c0_9),(.slice A0_10 l0_10.length c0_10),(.slice A0_11 l0_11.length c0_11),(.slice A0_12 l0_12.length c0_12)] 37 (0,0)))∧Aside0 (wc.heap[gb351]? = some (.cells #[.int .i64 a0_3,.int .i64 a0_4,.int .i64 a0_5,.int .i64 a0_6,(.slice A0_7 l0_7.length c0_7),(.slice A0_8 l0_8.length c0_8),(.slice A0_9 l0_9.length c0_9)] 34 (0,0)))∧Aside0 (Below w.heap.size w wc))
    case first =>
     have H:=HC10.out;clear HC10
     replace H:=db_ H;rcases H with ⟨rfl,H⟩|⟨rfl,H⟩
     ·have H':=ad_ H;clear H;have hnb16:=NB349_351.out;have hnc16:=NB351_349.out;have hcz17_:=cells13_ BK349.out
      go_wp2
      go_meet
      case rel=>exact ⟨_,(false),val_,H',⟨by have:=HJ1.out;first | omega | exact Nat.le_refl _⟩,⟨blf_ BK349.out⟩,⟨put_ BK351⟩,⟨belg_⟩⟩
     ·replace H:=de_ H;rcases H with ⟨H,-,c18b0,c18b1⟩|⟨H,c18,c18b0,c18b1⟩
      ·(first | rw [c18b0] | (simp only [i64_w,i32_w];rw [c18b0]) | skip)
       replace H:=de_ H;rcases H with ⟨H,-,c19b0,c19b1⟩|⟨H,c19,c19b0,c19b1⟩
       ·replace H:=de_ H;rcases H with ⟨H,-,c20b0,c20b1⟩|⟨H,c20,c20b0,c20b1⟩
        ·replace H:=de_ H;rcases H with ⟨H,-,c21b0,c21b1⟩|⟨H,c21,c21b0,c21b1⟩
         ·replace H:=de_ H;rcases H with ⟨H,-,c22b0,c22b1⟩|⟨H,c22,c22b0,c22b1⟩
          ·replace H:=de_ H;rcases H with ⟨H,-,c23b0,c23b1⟩|⟨H,c23,c23b0,c23b1⟩
           ·have H':=ad_ H;clear H;have hnb24:=NB349_351.out;have hnc24:=NB351_349.out;have hcz25_:=cells13_ BK349.out;have hcz26_:=cells7_ BK351.out
            go_wp2
            go_meet
            case rel=>exact ⟨_,(((l0_9.length:Int) != 0)),val_,H',⟨by have:=HJ1.out;first | omega | exact Nat.le_refl _⟩,⟨blf_ BK349.out⟩,⟨put_ BK351⟩,⟨belg_⟩⟩
           ·have c23b2:¬(l0_8 = []):=fun h_=>c23 (by rw [h_];rfl)
            have H':=ad_ H;clear H;have hnb27:=NB349_351.out;have hnc27:=NB351_349.out;have hcz28_:=cells13_ BK349.out;have hcz29_:=cells7_ BK351.out
            go_wp2
            go_meet
            case rel=>exact ⟨_,(true),val_,H',⟨by have:=HJ1.out;first | omega | exact Nat.le_refl _⟩,⟨blf_ BK349.out⟩,⟨put_ BK351⟩,⟨belg_⟩⟩
          ·have c22b2:¬(l0_7 = []):=fun h_=>c22 (by rw [h_];rfl)
           have H':=ad_ H;clear H;have hnb30:=NB349_351.out;have hnc30:=NB351_349.out;have hcz31_:=cells13_ BK349.out;have hcz32_:=cells7_ BK351.out
           go_wp2
           go_meet
           case rel=>exact ⟨_,(true),val_,H',⟨by have:=HJ1.out;first | omega | exact Nat.le_refl _⟩,⟨blf_ BK349.out⟩,⟨put_ BK351⟩,⟨belg_⟩⟩
         ·have H':=ad_ H;clear H;have hnb33:=NB349_351.out;have hnc33:=NB351_349.out;have hcz34_:=cells13_ BK349.out;have hcz35_:=cells7_ BK351.out
          go_wp2
          go_meet
          case rel=>exact ⟨_,(true),val_,H',⟨by have:=HJ1.out;first | omega | exact Nat.le_refl _⟩,⟨blf_ BK349.out⟩,⟨put_ BK351⟩,⟨belg_⟩⟩
        ·have H':=ad_ H;clear H;have hnb36:=NB349_351.out;have hnc36:=NB351_349.out;have hcz37_:=cells13_ BK349.out;have hcz38_:=cells7_ BK351.out
         go_wp2
         go_meet
         case rel=>exact ⟨_,(true),val_,H',⟨by have:=HJ1.out;first | omega | exact Nat.le_refl _⟩,⟨blf_ BK349.out⟩,⟨put_ BK351⟩,⟨belg_⟩⟩
       ·have H':=ad_ H;clear H;have hnb39:=NB349_351.out;have hnc39:=NB351_349.out;have hcz40_:=cells13_ BK349.out;have hcz41_:=cells7_ BK351.out
        go_wp2
        go_meet
        case rel=>exact ⟨_,(true),val_,H',⟨by have:=HJ1.out;first | omega | exact Nat.le_refl _⟩,⟨blf_ BK349.out⟩,⟨put_ BK351⟩,⟨belg_⟩⟩
      ·(first | rw [c18b0] | (simp only [i64_w,i32_w];rw [c18b0]) | skip)
       have H':=ad_ H;clear H;have hnb42:=NB349_351.out;have hnc42:=NB351_349.out;have hcz43_:=cells13_ BK349.out;have hcz44_:=cells7_ BK351.out
       go_wp2
       go_meet
       case rel=>exact ⟨_,(true),val_,H',⟨by have:=HJ1.out;first | omega | exact Nat.le_refl _⟩,⟨blf_ BK349.out⟩,⟨put_ BK351⟩,⟨belg_⟩⟩
    case rest =>
     clear HC10;clear hcz11_ hcz14_;obtain ⟨kq,x57_9,rfl,HA,HJ9,BK349,BK351,HB⟩:=hcut
     cases kq with
     | zero=>exact absurd HA.out (by simp [pr23_Right.j1])
     | succ kj9 =>
      have H:=HA.out;clear HA
      simp only [pr23_Right.j1] at H
      replace H:=db_ H;rcases H with ⟨rfl,H⟩|⟨rfl,H⟩
      ·obtain rfl:=Option.some.inj H
       go_wp2
       go_ret
       exact ⟨ret_,belg_⟩
      ·have H':=ad_ H;clear H
       go_wp2
       go_loopg [4,5] kj9 (fun kq v4 v5 w'=>∃ (x4_3:List Int) (x5_3:Int),v5 = .int .i64 x5_3∧Aside0 (pr23_Right.l0 kq x4_3 x5_3 a0_0 a0_1 a0_2 a0_3 a0_4 a0_5 a0_6 l0_7 l0_8 l0_9 l0_10 l0_11 l0_12=some r)∧Aside0 (kq≤kj9)∧Aside0 (Kd.R (Kd.int .i64) 2 w' w.heap.size (fun _=>True) v4 x4_3)∧Aside0 (w'.heap[gb349]? = some (.cells #[.int .i64 a0_0,.int .i64 a0_1,.bool a0_2,.int .i64 a0_3,.int .i64 a0_4,.int .i64 a0_5,.int .i64 a0_6,(.slice A0_7 l0_7.length c0_7),(.slice A0_8 l0_8.length c0_8),(.slice A0_9 l0_9.length c0_9),(.slice A0_10 l0_10.length c0_10),(.slice A0_11 l0_11.length c0_11),(.slice A0_12 l0_12.length c0_12)] 37 (0,0)))∧Aside0 (w'.heap[gb351]? = some (.cells #[.int .i64 a0_3,.int .i64 a0_4,.int .i64 a0_5,.int .i64 a0_6,(.slice A0_7 l0_7.length c0_7),(.slice A0_8 l0_8.length c0_8),(.slice A0_9 l0_9.length c0_9)] 34 (0,0)))∧Aside0 (Below w.heap.size w w'))
       case atStart=>exact ⟨(([]:List Int)),(0),val_,H',⟨Nat.le_refl _⟩,⟨by first | exact Kd.R_nil _ _ _ _ _ | exact Kd.N_nil _ _ _ _ _ | exact Kd.V_nil _ _ _ _ _ | exact Kd.Q_nil _ _ _ _ _ | exact Kd.S_nil _ _ _ _ _⟩,⟨blo_ BK349.out⟩,⟨blo_ BK351.out⟩,⟨belg_⟩⟩
       case round =>
        clear H';obtain ⟨x4_3,x5_3,rfl,HA,HK3,HO_4,BK349,BK351,HB⟩:=hrel
        cases gk with
        | zero=>exact absurd HA.out (by simp [pr23_Right.l0])
        | succ k3 =>
         have H:=HA.out;clear HA
         simp only [pr23_Right.l0] at H
         replace H:=dc_ H;rcases H with ⟨H,c46b0⟩|⟨H,c46b0⟩
         ·replace H:=ind_ H;obtain ⟨c47b0,H⟩:=H
          replace H:=in_ H;obtain ⟨c48,H⟩:=H;have LMc48:=Aside0.mk c48;clear c48;obtain ⟨y354,hy354⟩:∃ y_:List Int,y_=(x4_3 ++ [(rd_T69 l0_12 x5_3).f0]):=⟨_,rfl⟩
          replace H:(if (rd_T69 l0_12 x5_3).f3=true then (if ((rd_T69 l0_12 x5_3).f1)=0 then (pr23_Right.j3 k3 y354 x5_3 (((rd_T69 l0_12 x5_3).f2) != 0) a0_0 a0_1 a0_2 a0_3 a0_4 a0_5 a0_6 l0_7 l0_8 l0_9 l0_10 l0_11 l0_12 ((rd_T69 l0_12 x5_3).f0) ((rd_T69 l0_12 x5_3).f1) ((rd_T69 l0_12 x5_3).f2) ((rd_T69 l0_12 x5_3).f3)) else (pr23_Right.j3 k3 y354 x5_3 true a0_0 a0_1 a0_2 a0_3 a0_4 a0_5 a0_6 l0_7 l0_8 l0_9 l0_10 l0_11 l0_12 ((rd_T69 l0_12 x5_3).f0) ((rd_T69 l0_12 x5_3).f1) ((rd_T69 l0_12 x5_3).f2) ((rd_T69 l0_12 x5_3).f3))) else (pr23_Right.j3 k3 y354 x5_3 false a0_0 a0_1 a0_2 a0_3 a0_4 a0_5 a0_6 l0_7 l0_8 l0_9 l0_10 l0_11 l0_12 ((rd_T69 l0_12 x5_3).f0) ((rd_T69 l0_12 x5_3).f1) ((rd_T69 l0_12 x5_3).f2) ((rd_T69 l0_12 x5_3).f3)))=some r:=by first | (rw [hy354];with_reducible exact H) | (have H2_:=(Option.bind_some _ _).symm.trans H;rw [hy354];with_reducible exact H2_) | (have H2_:=(Option.bind_some _ _).symm.trans H;with_reducible exact H2_) | with_reducible exact H | (rw [hy354];exact H) | exact H
          have Ny354:=Aside0.mk hy354;clear hy354;have HC49:=Aside0.mk H;clear H;have hnb50:=NB349_351.out;have hnc50:=NB351_349.out;have hcz51_:=cells13_ BK349.out;have p352:0≤(x5_3:Int):=dec_;have q352:x5_3 < (l0_12.length:Int):=dec_;obtain ⟨ad352,e352,hx352_0,hx352_1,hx352_2,hx352_3⟩:=at_T69 HR0_12.out x5_3 p352 q352
          cases e352
          replace hx352_0:=(HB.out.cell (World.block_lt_of_cell? w _ hx352_0)).trans hx352_0;replace hx352_1:=(HB.out.cell (World.block_lt_of_cell? w _ hx352_1)).trans hx352_1;replace hx352_2:=(HB.out.cell (World.block_lt_of_cell? w _ hx352_2)).trans hx352_2;replace hx352_3:=(HB.out.cell (World.block_lt_of_cell? w _ hx352_3)).trans hx352_3;replace p352:=eq_true p352;replace q352:=eq_true q352
          go_upto_region 12 with (first | ((with_reducible refine gate_dst (N:=6) rfl ?_);(try (refine gate_guard (by rfl) ?_;dsimp only));refine bx_ 6 69 ?_;intro gb353 hg w52 hbox hb;replace HO_4:=ad_ (Kd.R_below (rod_ HO_4) hb);have BK353:=ad_ (hbox);have GW353:=gw_ w hg;have GE353:=GW353;replace HB:=hbb_ hb;have NB349_353:=nlt_ hg BK349;have NB353_349:=ngt_ hg BK349;replace BK349:=bkb_ BK349 hb;have NB351_353:=nlt_ hg BK351;have NB353_351:=ngt_ hg BK351;replace BK351:=bkb_ BK351 hb;clear hb hbox hg;have hnb53:=NB353_349.out;have hnc53:=NB349_353.out;have hnb54:=NB353_351.out;have hnc54:=NB351_353.out;have hcz55_:=cells4_ BK353.out) | ((with_reducible refine gate_builtin (b:=.append) (xs:=#[.tmp 70,.tmp 73]) rfl ?_);(try (refine gate_guard (by rfl) ?_;dsimp only));at_builtin;refine Kd.R_append (Kd.int .i64) (w0:=w) w.heap.size rfl (.tmp 70) (.tmp 73) 26 2 (.int .i64 0) 8 rfl Tryz.underlying26 info2 rfl (by decide) (by omega) u4 x4_3 ((rd_T69 l0_12 x5_3).f0) [.int .i64 ((rd_T69 l0_12 x5_3).f0)] (fun _=>True) (fun _=>False) rfl (by first | (go_simp;done) | (go_simp;rfl)) ?aP (fun _ hk=>hk.elim) ?aF ?aO ?aB ?aS ?aL ?_;(case aP=>exact rfl);(case aB=>exact belg_);(case aF=>exact (fun _ _=>trivial));(case aO=>exact (rmf_ (Kd.R_types HO_4.out BK353.out (by decide)) (fun _ hk=>trivial)));(case aS=>exact (below_size belg_));(case aL=>have:=LMc48.out;omega);intro v355 w56 ho hb hg hat;rw [← Ny354.out] at ho;replace BK349:=ad_ (blk_grown (g:=gb349) (o:=.cells #[.int .i64 a0_0,.int .i64 a0_1,.bool a0_2,.int .i64 a0_3,.int .i64 a0_4,.int .i64 a0_5,.int .i64 a0_6,.slice A0_7 l0_7.length c0_7,.slice A0_8 l0_8.length c0_8,.slice A0_9 l0_9.length c0_9,.slice A0_10 l0_10.length c0_10,.slice A0_11 l0_11.length c0_11,.slice (some ad352) l0_12.length c0_12] 37 (0,0)) (blf_ BK349.out) hg (Kd.R_ne HO_4.out BK349.out (by decide)));replace BK351:=ad_ (blk_grown (g:=gb351) (o:=.cells #[.int .i64 a0_3,.int .i64 a0_4,.int .i64 a0_5,.int .i64 a0_6,.slice A0_7 l0_7.length c0_7,.slice A0_8 l0_8.length c0_8,.slice A0_9 l0_9.length c0_9] 34 (0,0)) (blf_ BK351.out) hg (Kd.R_ne HO_4.out BK351.out (by decide)));replace BK353:=ad_ (blk_grown (g:=gb353) (o:=.cells #[.int .i64 ((rd_T69 l0_12 x5_3).f0),.int .i64 ((rd_T69 l0_12 x5_3).f1),.int .i64 ((rd_T69 l0_12 x5_3).f2),.bool ((rd_T69 l0_12 x5_3).f3)] 69 (0,0)) (put_ BK353) hg (Kd.R_ne HO_4.out BK353.out (by decide)));replace HB:=ad_ (hb);have HO356:=ad_ (ho);clear HO_4;clear ho hb hg hat))
          (try simp only [Act.put,List.setIfInBounds_toArray,List.set_cons_zero,List.set_cons_succ])
          go_cut [86] (fun v86 wc=>∃ (kq:Nat) (x86_48:Bool),v86 = .bool x86_48∧Aside0 (pr23_Right.j3 kq y354 x5_3 x86_48 a0_0 a0_1 a0_2 a0_3 a0_4 a0_5 a0_6 l0_7 l0_8 l0_9 l0_10 l0_11 l0_12 ((rd_T69 l0_12 x5_3).f0) ((rd_T69 l0_12 x5_3).f1) ((rd_T69 l0_12 x5_3).f2) ((rd_T69 l0_12 x5_3).f3)=some r)∧Aside0 (kq≤k3)∧Aside0 (Kd.R (Kd.int .i64) 2 wc w.heap.size (fun _=>True) v355 y354)∧Aside0 (wc.heap[gb349]? = some (.cells #[.int .i64 a0_0,.int .i64 a0_1,.bool a0_2,.int .i64 a0_3,.int .i64 a0_4,.int .i64 a0_5,.int .i64 a0_6,(.slice A0_7 l0_7.length c0_7),(.slice A0_8 l0_8.length c0_8),(.slice A0_9 l0_9.length c0_9),(.slice A0_10 l0_10.length c0_10),(.slice A0_11 l0_11.length c0_11),(.slice (some ad352) l0_12.length c0_12)] 37 (0,0)))∧Aside0 (wc.heap[gb351]? = some (.cells #[.int .i64 a0_3,.int .i64 a0_4,.int .i64 a0_5,.int .i64 a0_6,(.slice A0_7 l0_7.length c0_7),(.slice A0_8 l0_8.length c0_8),(.slice A0_9 l0_9.length c0_9)] 34 (0,0)))∧Aside0 (wc.heap[gb353]? = some (.cells #[.int .i64 ((rd_T69 l0_12 x5_3).f0),.int .i64 ((rd_T69 l0_12 x5_3).f1),.int .i64 ((rd_T69 l0_12 x5_3).f2),.bool ((rd_T69 l0_12 x5_3).f3)] 69 (0,0)))∧Aside0 (Below w.heap.size w wc))
          case first =>
           have H:=HC49.out;clear HC49;obtain ⟨bq57,hbq57⟩:∃ b_:Bool,b_=((rd_T69 l0_12 x5_3).f3):=⟨_,rfl⟩
           replace H:(if bq57=true then (if ((rd_T69 l0_12 x5_3).f1)=0 then (pr23_Right.j3 k3 y354 x5_3 (((rd_T69 l0_12 x5_3).f2) != 0) a0_0 a0_1 a0_2 a0_3 a0_4 a0_5 a0_6 l0_7 l0_8 l0_9 l0_10 l0_11 l0_12 ((rd_T69 l0_12 x5_3).f0) ((rd_T69 l0_12 x5_3).f1) ((rd_T69 l0_12 x5_3).f2) bq57) else (pr23_Right.j3 k3 y354 x5_3 true a0_0 a0_1 a0_2 a0_3 a0_4 a0_5 a0_6 l0_7 l0_8 l0_9 l0_10 l0_11 l0_12 ((rd_T69 l0_12 x5_3).f0) ((rd_T69 l0_12 x5_3).f1) ((rd_T69 l0_12 x5_3).f2) bq57)) else (pr23_Right.j3 k3 y354 x5_3 false a0_0 a0_1 a0_2 a0_3 a0_4 a0_5 a0_6 l0_7 l0_8 l0_9 l0_10 l0_11 l0_12 ((rd_T69 l0_12 x5_3).f0) ((rd_T69 l0_12 x5_3).f1) ((rd_T69 l0_12 x5_3).f2) bq57))=some r:=by rw [← hbq57] at H;exact H
           have Nbq57:=Aside0.mk hbq57;clear hbq57
           (try rw [← Nbq57.out])
           replace H:=db_ H;rcases H with ⟨rfl,H⟩|⟨rfl,H⟩
           ·have eqb_:=Nbq57.out.symm;replace H:=de_ H;rcases H with ⟨H,-,c59b0,c59b1⟩|⟨H,c59,c59b0,c59b1⟩
            ·have H':=ad_ H;clear H;have hnb60:=NB353_349.out;have hnc60:=NB349_353.out;have hnb61:=NB353_351.out;have hnc61:=NB351_353.out;have hcz62_:=cells4_ BK353.out
             go_wp2
             go_meet
             case rel=>exact ⟨_,((((rd_T69 l0_12 x5_3).f2) != 0)),val_,(by first | exact H' | (rw [← Nbq57.out];exact H')),⟨by have:=HJ1.out;have:=HJ9.out;have:=HK3.out;first | omega | exact Nat.le_refl _⟩,⟨rod_ HO356⟩,⟨blo_ BK349.out⟩,⟨blo_ BK351.out⟩,⟨blo_ BK353.out⟩,⟨belg_⟩⟩
            ·have H':=ad_ H;clear H;have hnb63:=NB353_349.out;have hnc63:=NB349_353.out;have hnb64:=NB353_351.out;have hnc64:=NB351_353.out;have hcz65_:=cells4_ BK353.out
             go_wp2
             go_meet
             case rel=>exact ⟨_,(true),val_,(by first | exact H' | (rw [← Nbq57.out];exact H')),⟨by have:=HJ1.out;have:=HJ9.out;have:=HK3.out;first | omega | exact Nat.le_refl _⟩,⟨rod_ HO356⟩,⟨blo_ BK349.out⟩,⟨blo_ BK351.out⟩,⟨blo_ BK353.out⟩,⟨belg_⟩⟩
           ·have eqb_:=Nbq57.out.symm;have H':=ad_ H;clear H;have hnb66:=NB353_349.out;have hnc66:=NB349_353.out;have hnb67:=NB353_351.out;have hnc67:=NB351_353.out;have hcz68_:=cells4_ BK353.out
            go_wp2
            go_meet
            case rel=>exact ⟨_,(false),val_,(by first | exact H' | (rw [← Nbq57.out];exact H')),⟨by have:=HJ1.out;have:=HJ9.out;have:=HK3.out;first | omega | exact Nat.le_refl _⟩,⟨rod_ HO356⟩,⟨blo_ BK349.out⟩,⟨blo_ BK351.out⟩,⟨blo_ BK353.out⟩,⟨belg_⟩⟩
          case rest =>
           clear HC49;clear c46b0 c47b0 hcz51_ hcz55_;(try clear hx352_0);(try clear hx352_1);(try clear hx352_2);(try clear hx352_3);(try clear p352);(try clear q352);obtain ⟨kq,x86_48,rfl,HA,HJ48,HO_4,BK349,BK351,BK353,HB⟩:=hcut
           cases kq with
           | zero=>exact absurd HA.out (by simp [pr23_Right.j3])
           | succ kj48 =>
            have H:=HA.out;clear HA
            simp only [pr23_Right.j3] at H
            replace H:=db_ H;rcases H with ⟨rfl,H⟩|⟨rfl,H⟩
            ·obtain rfl:=Option.some.inj H
             go_wp2
             go_ret
             exact ⟨ret_,belg_⟩
            ·by_cases c70:((rd_T69 l0_12 x5_3).f3)=true
             ·rw [if_pos c70] at H;have c70b0:((rd_T69 l0_12 x5_3).f3)=true:=c70;clear c70;have H':=ad_ H;clear H;have hnb71:=NB353_349.out;have hnc71:=NB349_353.out;have hnb72:=NB353_351.out;have hnc72:=NB351_353.out;have hcz73_:=cells4_ BK353.out
              go_wp2
              go_roundg kj48
              case measure=>have:=HJ1.out;have:=HJ9.out;have:=HK3.out;have:=HJ48.out;omega
              case rel=>exact ⟨(y354),(wrap64 (x5_3 + 1)),val_,H',⟨by have:=HJ1.out;have:=HJ9.out;have:=HK3.out;have:=HJ48.out;omega⟩,⟨rod_ HO_4⟩,⟨blo_ BK349.out⟩,⟨blo_ BK351.out⟩,⟨belg_⟩⟩
             ·rw [if_neg c70] at H
              have c70b0:((rd_T69 l0_12 x5_3).f3)=false:=by simpa using c70
              clear c70;obtain ⟨t357,A740,H⟩:=bnd_ H
              try dsimp only at H
              have A74:=ad_ A740;clear A740
              replace H:=db_ H;rcases H with ⟨rfl,H⟩|⟨rfl,H⟩
              ·obtain ⟨t358,A760,H⟩:=bnd_ H
               try dsimp only at H
               have A76:=ad_ A760;clear A760
               replace H:=db_ H;rcases H with ⟨rfl,H⟩|⟨rfl,H⟩
               ·have H':=ad_ H;clear H;have hnb78:=NB353_349.out;have hnc78:=NB349_353.out;have hnb79:=NB353_351.out;have hnc79:=NB351_353.out;have hcz80_:=cells4_ BK353.out
                go_wp2_with (first | (go_at_call 28;(with_reducible refine (pr12_Time.calls ((rd_T69 l0_12 x5_3).f1) true _ A74.out).mono ?_);rintro e w' ⟨rfl,⟨nd,rfl⟩⟩) | (go_at_call 38;(with_reducible refine (pr23_long.calls ((rd_T69 l0_12 x5_3).f2) true _ A76.out).mono ?_);rintro e w' ⟨rfl,⟨nd,rfl⟩⟩))
                go_roundg kj48
                case measure=>have:=HJ1.out;have:=HJ9.out;have:=HK3.out;have:=HJ48.out;omega
                case rel=>exact ⟨(y354),(wrap64 (x5_3 + 1)),val_,H',⟨by have:=HJ1.out;have:=HJ9.out;have:=HK3.out;have:=HJ48.out;omega⟩,⟨rod_ HO_4⟩,⟨blo_ BK349.out⟩,⟨blo_ BK351.out⟩,⟨belg_⟩⟩
               ·obtain rfl:=Option.some.inj H;have hnb81:=NB353_349.out;have hnc81:=NB349_353.out;have hnb82:=NB353_351.out;have hnc82:=NB351_353.out;have hcz83_:=cells4_ BK353.out
                go_wp2_with (first | (go_at_call 28;(with_reducible refine (pr12_Time.calls ((rd_T69 l0_12 x5_3).f1) true _ A74.out).mono ?_);rintro e w' ⟨rfl,⟨nd,rfl⟩⟩) | (go_at_call 38;(with_reducible refine (pr23_long.calls ((rd_T69 l0_12 x5_3).f2) false _ A76.out).mono ?_);rintro e w' ⟨rfl,⟨nd,rfl⟩⟩))
                go_ret
                exact ⟨ret_,belg_⟩
              ·obtain rfl:=Option.some.inj H;have hnb84:=NB353_349.out;have hnc84:=NB349_353.out;have hnb85:=NB353_351.out;have hnc85:=NB351_353.out;have hcz86_:=cells4_ BK353.out
               go_wp2_with (first | (go_at_call 28;(with_reducible refine (pr12_Time.calls ((rd_T69 l0_12 x5_3).f1) false _ A74.out).mono ?_);rintro e w' ⟨rfl,⟨nd,rfl⟩⟩))
               go_ret
               exact ⟨ret_,belg_⟩
         ·obtain ⟨t359,A870,H⟩:=bnd_ H
          try dsimp only at H
          have A87:=ad_ A870;clear A870
          replace H:=db_ H;rcases H with ⟨rfl,H⟩|⟨rfl,H⟩
          ·obtain ⟨t360,A890,H⟩:=bnd_ H
           try dsimp only at H
           have A89:=ad_ A890;clear A890
           replace H:=db_ H;rcases H with ⟨rfl,H⟩|⟨rfl,H⟩
           ·obtain ⟨t361,A910,H⟩:=bnd_ H
            try dsimp only at H
            have A91:=ad_ A910;clear A910
            replace H:=db_ H;rcases H with ⟨rfl,H⟩|⟨rfl,H⟩
            ·obtain ⟨t362,A930,H⟩:=bnd_ H
             try dsimp only at H
             have A93:=ad_ A930;clear A930
             replace H:=db_ H;rcases H with ⟨rfl,H⟩|⟨rfl,H⟩
             ·obtain ⟨t363,A950,H⟩:=bnd_ H
              try dsimp only at H
              have A95:=ad_ A950;clear A950;obtain rfl:=Option.some.inj H;have hnb96:=NB349_351.out;have hnc96:=NB351_349.out;have hcz97_:=cells13_ BK349.out
              go_wp2_with (first | ((with_reducible refine gate_callee (f:=28) rfl ?_);refine gl_ 104 Tryz.func28 (pr12_Time.calls a0_0 true _ A87.out) ?_;rintro e w' ⟨rfl,⟨nd,rfl⟩⟩;refine ⟨_,rfl,?_⟩) | (go_at_call 38;(with_reducible refine (pr23_long.calls a0_1 true _ A89.out).mono ?_);rintro e w' ⟨rfl,⟨nd,rfl⟩⟩) | (go_at_call 39;(with_reducible refine (pr23_rising.calls k3 _ _ l0_10 true _ ?_ ?_ A91.out).mono ?_);exact cop_ (Kd.C_below HR0_10.out belg_);exact HC0_10.out;rintro e w' ⟨rfl,⟨nd,rfl⟩⟩) | (go_at_call 39;(with_reducible refine (pr23_rising.calls k3 _ _ l0_11 true _ ?_ ?_ A93.out).mono ?_);exact cop_ (Kd.C_below HR0_11.out belg_);exact HC0_11.out;rintro e w' ⟨rfl,⟨nd,rfl⟩⟩;obtain ⟨Ao98,co98,eo98⟩:=Kd.R_slice HO_4.out;subst eo98) | (go_at_call 39;(with_reducible refine (pr23_rising.calls k3 _ _ x4_3 t363 _ ?_ ?_ A95.out).mono ?_);exact cop_ (Kd.R_reads' HO_4.out).2.2;exact (Kd.R_reads' HO_4.out).2.1;rintro e w' ⟨rfl,⟨nd,rfl⟩⟩))
              go_ret
              exact ⟨ret_,belg_⟩
             ·obtain rfl:=Option.some.inj H;have hnb99:=NB349_351.out;have hnc99:=NB351_349.out;have hcz100_:=cells13_ BK349.out
              go_wp2_with (first | ((with_reducible refine gate_callee (f:=28) rfl ?_);refine gl_ 104 Tryz.func28 (pr12_Time.calls a0_0 true _ A87.out) ?_;rintro e w' ⟨rfl,⟨nd,rfl⟩⟩;refine ⟨_,rfl,?_⟩) | (go_at_call 38;(with_reducible refine (pr23_long.calls a0_1 true _ A89.out).mono ?_);rintro e w' ⟨rfl,⟨nd,rfl⟩⟩) | (go_at_call 39;(with_reducible refine (pr23_rising.calls k3 _ _ l0_10 true _ ?_ ?_ A91.out).mono ?_);exact cop_ (Kd.C_below HR0_10.out belg_);exact HC0_10.out;rintro e w' ⟨rfl,⟨nd,rfl⟩⟩) | (go_at_call 39;(with_reducible refine (pr23_rising.calls k3 _ _ l0_11 false _ ?_ ?_ A93.out).mono ?_);exact cop_ (Kd.C_below HR0_11.out belg_);exact HC0_11.out;rintro e w' ⟨rfl,⟨nd,rfl⟩⟩))
              go_ret
              exact ⟨ret_,belg_⟩
            ·obtain rfl:=Option.some.inj H;have hnb101:=NB349_351.out;have hnc101:=NB351_349.out;have hcz102_:=cells13_ BK349.out
             go_wp2_with (first | ((with_reducible refine gate_callee (f:=28) rfl ?_);refine gl_ 104 Tryz.func28 (pr12_Time.calls a0_0 true _ A87.out) ?_;rintro e w' ⟨rfl,⟨nd,rfl⟩⟩;refine ⟨_,rfl,?_⟩) | (go_at_call 38;(with_reducible refine (pr23_long.calls a0_1 true _ A89.out).mono ?_);rintro e w' ⟨rfl,⟨nd,rfl⟩⟩) | (go_at_call 39;(with_reducible refine (pr23_rising.calls k3 _ _ l0_10 false _ ?_ ?_ A91.out).mono ?_);exact cop_ (Kd.C_below HR0_10.out belg_);exact HC0_10.out;rintro e w' ⟨rfl,⟨nd,rfl⟩⟩))
             go_ret
             exact ⟨ret_,belg_⟩
           ·obtain rfl:=Option.some.inj H;have hnb103:=NB349_351.out;have hnc103:=NB351_349.out;have hcz104_:=cells13_ BK349.out
            go_wp2_with (first | ((with_reducible refine gate_callee (f:=28) rfl ?_);refine gl_ 104 Tryz.func28 (pr12_Time.calls a0_0 true _ A87.out) ?_;rintro e w' ⟨rfl,⟨nd,rfl⟩⟩;refine ⟨_,rfl,?_⟩) | (go_at_call 38;(with_reducible refine (pr23_long.calls a0_1 false _ A89.out).mono ?_);rintro e w' ⟨rfl,⟨nd,rfl⟩⟩))
            go_ret
            exact ⟨ret_,belg_⟩
          ·obtain rfl:=Option.some.inj H;have hnb105:=NB349_351.out;have hnc105:=NB351_349.out;have hcz106_:=cells13_ BK349.out
           go_wp2_with (first | ((with_reducible refine gate_callee (f:=28) rfl ?_);refine gl_ 104 Tryz.func28 (pr12_Time.calls a0_0 false _ A87.out) ?_;rintro e w' ⟨rfl,⟨nd,rfl⟩⟩;refine ⟨_,rfl,?_⟩))
           go_ret
           exact ⟨ret_,belg_⟩
end Go.Proofs.YtkgkblmeafhkfaaGreat.PH

-- Written by a program of the session (wip/tools).
import Derived.Test.YtkgkblmeafhkfaaGreatPHx0
import Derived.Test.YtkgkblmeafhkfaaGreatPHx4
import Derived.Test.YtkgkblmeafhkfaaGreatPHx7
import Derived.Test.YtkgkblmeafhkfaaGreatPHx11
namespace Go.Proofs.YtkgkblmeafhkfaaGreat.PH
open Go.RowKit Go.Proofs.YtkgkblmeafhkfaaGreatW.PrintWords Go.Proofs.YtkgkblmeafhkfaaGreatW.PrintLast Go.Proofs.YtkgkblmeafhkfaaGreatW.PrintMore
attribute [local go_sem] max2_int min2_int max_two min_two max_three min_three max_four min_four   -- for this text's walks alone
set_option linter.unusedVariables false
set_option linter.unusedSimpArgs false

def series_Originals.j0:Nat→Int→Int→Bool→Int→Int→Bool→Int→Int→Int→Int→List Int→List Int→List (S91)→List Int→List Int→List (S64)→Option (List Int×Int)
 | 0,_,_,_,_,_,_,_,_,_,_,_,_,_,_,_,_=>none
 | k + 1,x1,x2,x12,y0,y1,y2,y3,y4,y5,y6,y7,y8,y9,y10,y11,y12=>if x12=true then (some (([]:List Int),110)) else (if (wrap64 (x2 - y0)) > 631152000 then (some (([]:List Int),1)) else ((series_Series_originals.f k y0 y1 y2 y3 y4 y5 y6 y7 y8 y9 y10 y11 y12 x1 x2).bind fun bt179=>(some (bt179.1,bt179.2))))
def series_Originals.f (k:Nat) (a0_0 a0_1:Int) (a0_2:Bool) (a0_3 a0_4:Int) (a0_5 a0_6:Int) (l0_7 l0_8:List Int) (l0_9:List (S91)) (l0_10 l0_11:List Int) (l0_12:List (S64)) (a1 a2:Int):Option (List Int×Int):=(series_Right.f k a0_0 a0_1 a0_2 a0_3 a0_4 a0_5 a0_6 l0_7 l0_8 l0_9 l0_10 l0_11 l0_12).bind fun t176=>(if t176=true then ((when_Right.f a1).bind fun t177=>(if t177=true then ((when_Right.f a2).bind fun t178=>(series_Originals.j0 k a1 a2 (!t178) a0_0 a0_1 a0_2 a0_3 a0_4 a0_5 a0_6 l0_7 l0_8 l0_9 l0_10 l0_11 l0_12)) else (series_Originals.j0 k a1 a2 true a0_0 a0_1 a0_2 a0_3 a0_4 a0_5 a0_6 l0_7 l0_8 l0_9 l0_10 l0_11 l0_12))) else (some (([]:List Int),3)))
set_option maxHeartbeats 8000000 in
set_option maxRecDepth 100000 in
theorem series_Originals.calls (k:Nat) (a0_0 a0_1:Int) (a0_2:Bool) (a0_3 a0_4:Int) (a0_5 a0_6:Int) (A0_7:Option Addr) (c0_7:Nat) (l0_7:List Int) (A0_8:Option Addr) (c0_8:Nat) (l0_8:List Int) (A0_9:Option Addr) (c0_9:Nat) (l0_9:List (S91)) (A0_10:Option Addr) (c0_10:Nat) (l0_10:List Int) (A0_11:Option Addr) (c0_11:Nat) (l0_11:List Int) (A0_12:Option Addr) (c0_12:Nat) (l0_12:List (S64)) (a1 a2:Int) (r1:List Int) (r2:Int) (w:World) (hr0_7:Kd.C (Kd.int .i64) w A0_7 l0_7.length l0_7) (hc0_7:l0_7.length≤c0_7) (hr0_8:Kd.C (Kd.int .i64) w A0_8 l0_8.length l0_8) (hc0_8:l0_8.length≤c0_8) (hr0_9:Kd.C k91 w A0_9 l0_9.length l0_9) (hc0_9:l0_9.length≤c0_9) (hr0_10:Kd.C (Kd.int .i64) w A0_10 l0_10.length l0_10) (hc0_10:l0_10.length≤c0_10) (hr0_11:Kd.C (Kd.int .i64) w A0_11 l0_11.length l0_11) (hc0_11:l0_11.length≤c0_11) (hr0_12:Kd.C k64 w A0_12 l0_12.length l0_12) (hc0_12:l0_12.length≤c0_12) (h:series_Originals.f k a0_0 a0_1 a0_2 a0_3 a0_4 a0_5 a0_6 l0_7 l0_8 l0_9 l0_10 l0_11 l0_12 a1 a2=some (r1,r2)) :
  Calls Tryz.prog 9 #[.agg #[.int .i64 a0_0,.int .i64 a0_1,.bool a0_2,.int .i64 a0_3,.int .i64 a0_4,.int .i64 a0_5,.int .i64 a0_6,.slice A0_7 l0_7.length c0_7,.slice A0_8 l0_8.length c0_8,.slice A0_9 l0_9.length c0_9,.slice A0_10 l0_10.length c0_10,.slice A0_11 l0_11.length c0_11,.slice A0_12 l0_12.length c0_12],.int .i64 a1,.int .i64 a2] w fun e w'=>∃ v0_:Value,e = .returned (.tuple #[v0_,.int .i64 r2])∧Kd.R (Kd.int .i64) 2 w' w.heap.size (fun _=>True) v0_ r1∧Below w.heap.size w w':=by
 have hu29:=Tryz.underlying29;have HR0_7:=Aside0.mk hr0_7;have HC0_7:=Aside0.mk hc0_7;clear hr0_7 hc0_7;have HR0_8:=Aside0.mk hr0_8;have HC0_8:=Aside0.mk hc0_8;clear hr0_8 hc0_8;have HR0_9:=Aside0.mk hr0_9;have HC0_9:=Aside0.mk hc0_9;clear hr0_9 hc0_9;have HR0_10:=Aside0.mk hr0_10;have HC0_10:=Aside0.mk hc0_10;clear hr0_10 hc0_10;have HR0_11:=Aside0.mk hr0_11;have HC0_11:=Aside0.mk hc0_11;clear hr0_11 hc0_11;have HR0_12:=Aside0.mk hr0_12;have HC0_12:=Aside0.mk hc0_12;clear hr0_12 hc0_12;have HB:=ad_ (Below.refl w.heap.size w);have H:((series_Right.f k a0_0 a0_1 a0_2 a0_3 a0_4 a0_5 a0_6 l0_7 l0_8 l0_9 l0_10 l0_11 l0_12).bind fun t176=>(if t176=true then ((when_Right.f a1).bind fun t177=>(if t177=true then ((when_Right.f a2).bind fun t178=>(series_Originals.j0 k a1 a2 (!t178) a0_0 a0_1 a0_2 a0_3 a0_4 a0_5 a0_6 l0_7 l0_8 l0_9 l0_10 l0_11 l0_12)) else (series_Originals.j0 k a1 a2 true a0_0 a0_1 a0_2 a0_3 a0_4 a0_5 a0_6 l0_7 l0_8 l0_9 l0_10 l0_11 l0_12))) else (some (([]:List Int),3))))=some (r1,r2):=h;clear h;obtain ⟨t176,A40,H⟩:=bnd_ H
 try dsimp only at H
 have A4:=ad_ A40;clear A40
 replace H:=db_ H;rcases H with ⟨rfl,H⟩|⟨rfl,H⟩
 ·have HC6:=Aside0.mk H;clear H
  go_enter Tryz.func9,Tryz.ntmps9
  go_upto_region 3 with (first | ((with_reducible refine gate_dst (N:=3) rfl ?_);refine bx_ 3 29 ?_;intro gb175 hg w7 hbox hb;have BK175:=ad_ (hbox);have GW175:=gw_ w hg;have GE175:=GW175;replace HB:=hbb_ hb;clear hb hbox hg;have hcz8_:=cells13_ BK175.out) | ((with_reducible refine gate_callee (f:=11) rfl ?_);refine gl_ 10 Tryz.func11 (series_Right.calls k a0_0 a0_1 a0_2 a0_3 a0_4 a0_5 a0_6 _ _ l0_7 _ _ l0_8 _ _ l0_9 _ _ l0_10 _ _ l0_11 _ _ l0_12 true _ ?_ ?_ ?_ ?_ ?_ ?_ ?_ ?_ ?_ ?_ ?_ ?_ A4.out) ?_;(iterate 12 exact sc_);rintro e w9 ⟨rfl,hb⟩;refine ⟨_,rfl,?_⟩;replace BK175:=bkb_ BK175 hb;replace HB:=hbb_ hb;clear hb))
  (try simp only [Act.put,List.setIfInBounds_toArray,List.set_cons_zero,List.set_cons_succ])
  go_cut [12] (fun v12 wc=>∃ (kq:Nat) (x12_5:Bool),v12 = .bool x12_5∧Aside0 (series_Originals.j0 kq a1 a2 x12_5 a0_0 a0_1 a0_2 a0_3 a0_4 a0_5 a0_6 l0_7 l0_8 l0_9 l0_10 l0_11 l0_12=some (r1,r2))∧Aside0 (kq≤k)∧Aside0 (wc.heap[gb175]? = some (.cells #[.int .i64 a0_0,.int .i64 a0_1,.bool a0_2,.int .i64 a0_3,.int .i64 a0_4,.int .i64 a0_5,.int .i64 a0_6,(.slice A0_7 l0_7.length c0_7),(.slice A0_8 l0_8.length c0_8),(.slice A0_9 l0_9.length c0_9),(.slice A0_10 l0_10.length c0_10),(.slice A0_11 l0_11.length c0_11),(.slice A0_12 l0_12.length c0_12)] 29 (0,0)))∧Aside0 (Below w.heap.size w wc))
  case first =>
   have H:=HC6.out;clear HC6;obtain ⟨t177,A100,H⟩:=bnd_ H
   try dsimp only at H
   have A10:=ad_ A100;clear A100
   replace H:=db_ H;rcases H with ⟨rfl,H⟩|⟨rfl,H⟩
   ·obtain ⟨t178,A120,H⟩:=bnd_ H
    try dsimp only at H
    have A12:=ad_ A120;clear A120;have H':=ad_ H;clear H
    go_wp2_with (first | ((with_reducible refine gate_callee (f:=26) rfl ?_);refine gl_ 14 Tryz.func26 (when_Right.calls a1 true _ A10.out) ?_;rintro e w' ⟨rfl,⟨nd,rfl⟩⟩;refine ⟨_,rfl,?_⟩) | (go_at_call 26;(with_reducible refine (when_Right.calls a2 t178 _ A12.out).mono ?_);rintro e w' ⟨rfl,⟨nd,rfl⟩⟩))
    go_meet
    case rel=>exact ⟨_,(!t178),val_,H',⟨by first | omega | exact Nat.le_refl _⟩,⟨blo_ BK175.out⟩,⟨belg_⟩⟩
   ·have H':=ad_ H;clear H
    go_wp2_with (first | ((with_reducible refine gate_callee (f:=26) rfl ?_);refine gl_ 14 Tryz.func26 (when_Right.calls a1 false _ A10.out) ?_;rintro e w' ⟨rfl,⟨nd,rfl⟩⟩;refine ⟨_,rfl,?_⟩))
    go_meet
    case rel=>exact ⟨_,(true),val_,H',⟨by first | omega | exact Nat.le_refl _⟩,⟨blo_ BK175.out⟩,⟨belg_⟩⟩
  case rest =>
   clear HC6;clear hcz8_;obtain ⟨kq,x12_5,rfl,HA,HJ5,BK175,HB⟩:=hcut
   cases kq with
   | zero=>exact absurd HA.out (by simp [series_Originals.j0])
   | succ kj5 =>
    have H:=HA.out;clear HA
    simp only [series_Originals.j0] at H
    replace H:=db_ H;rcases H with ⟨rfl,H⟩|⟨rfl,H⟩
    ·simp only [Option.some.injEq,Prod.mk.injEq] at H
     obtain ⟨rfl,rfl⟩:=H
     go_wp2
     go_ret2
     exact ⟨_,ret_,by first | exact Kd.R_nil _ _ _ _ _ | exact Kd.N_nil _ _ _ _ _ | exact Kd.V_nil _ _ _ _ _ | exact Kd.Q_nil _ _ _ _ _ | exact Kd.S_nil _ _ _ _ _,belg_⟩
    ·replace H:=dg_ H;rcases H with ⟨H,c14b0⟩|⟨H,c14b0⟩
     ·simp only [Option.some.injEq,Prod.mk.injEq] at H
      obtain ⟨rfl,rfl⟩:=H;have hcz15_:=cells13_ BK175.out
      go_wp2
      go_ret2
      exact ⟨_,ret_,by first | exact Kd.R_nil _ _ _ _ _ | exact Kd.N_nil _ _ _ _ _ | exact Kd.V_nil _ _ _ _ _ | exact Kd.Q_nil _ _ _ _ _ | exact Kd.S_nil _ _ _ _ _,belg_⟩
     ·replace H:=Option.bind_eq_some_iff.mp H;obtain ⟨⟨t179,t182⟩,A160,H⟩:=H
      try dsimp only at H
      have A16:=ad_ A160;clear A160
      simp only [Option.some.injEq,Prod.mk.injEq] at H
      obtain ⟨rfl,rfl⟩:=H;have hcz17_:=cells13_ BK175.out
      go_wp2_with (first | ((with_reducible refine gate_callee (f:=27) rfl ?_);refine gl_ 30 Tryz.func27 (series_Series_originals.calls kj5 a0_0 a0_1 a0_2 a0_3 a0_4 a0_5 a0_6 _ _ l0_7 _ _ l0_8 _ _ l0_9 _ _ l0_10 _ _ l0_11 _ _ l0_12 a1 a2 t179 t182 _ ?_ ?_ ?_ ?_ ?_ ?_ ?_ ?_ ?_ ?_ ?_ ?_ A16.out) ?_;(iterate 12 exact sc_);rintro e w18 ⟨v180,rfl,ho0,hb⟩;refine ⟨_,rfl,?_⟩;have HO181:=ad_ (Kd.R_lower ho0 (below_size belg_));replace BK175:=bkb_ BK175 hb;replace HB:=hbb_ hb;clear hb ho0))
      go_ret2
      exact ⟨_,ret_,by (with_reducible repeat (first | apply Kd.R_alloc | apply Kd.R_drewN | apply Kd.R_drew));exact HO181.out,belg_⟩
 ·simp only [Option.some.injEq,Prod.mk.injEq] at H
  obtain ⟨rfl,rfl⟩:=H
  go_enter Tryz.func9,Tryz.ntmps9
  go_wp2_with (first | ((with_reducible refine gate_dst (N:=3) rfl ?_);refine bx_ 3 29 ?_;intro gb175 hg w19 hbox hb;have BK175:=ad_ (hbox);have GW175:=gw_ w hg;have GE175:=GW175;replace HB:=hbb_ hb;clear hb hbox hg;have hcz20_:=cells13_ BK175.out) | ((with_reducible refine gate_callee (f:=11) rfl ?_);refine gl_ 10 Tryz.func11 (series_Right.calls k a0_0 a0_1 a0_2 a0_3 a0_4 a0_5 a0_6 _ _ l0_7 _ _ l0_8 _ _ l0_9 _ _ l0_10 _ _ l0_11 _ _ l0_12 false _ ?_ ?_ ?_ ?_ ?_ ?_ ?_ ?_ ?_ ?_ ?_ ?_ A4.out) ?_;(iterate 12 exact sc_);rintro e w21 ⟨rfl,hb⟩;refine ⟨_,rfl,?_⟩;replace BK175:=bkb_ BK175 hb;replace HB:=hbb_ hb;clear hb))
  go_ret2
  exact ⟨_,ret_,by first | exact Kd.R_nil _ _ _ _ _ | exact Kd.N_nil _ _ _ _ _ | exact Kd.V_nil _ _ _ _ _ | exact Kd.Q_nil _ _ _ _ _ | exact Kd.S_nil _ _ _ _ _,belg_⟩
def series_Series_instance_1.f (a0_0 a0_1 a0_2:Int) (a0_3:Bool) (a1:Int):Option (Int):=if a0_0 < a1 then (some (-1)) else (if a0_0 > a1 then (some 1) else (some 0))
set_option maxHeartbeats 8000000 in
set_option maxRecDepth 100000 in
theorem series_Series_instance_1.calls (a0_0 a0_1 a0_2:Int) (a0_3:Bool) (a1 r:Int) (w:World) (h:series_Series_instance_1.f a0_0 a0_1 a0_2 a0_3 a1=some r) :
  Calls Tryz.prog 58 #[.agg #[.int .i64 a0_0,.int .i64 a0_1,.int .i64 a0_2,.bool a0_3],.int .i64 a1] w fun e w'=>e = .returned (.int .i64 r)∧Below w.heap.size w w':=by
 have hu64:=Tryz.underlying64;have HB:=ad_ (Below.refl w.heap.size w);have H:(if a0_0 < a1 then (some (-1)) else (if a0_0 > a1 then (some 1) else (some 0)))=some r:=h;clear h
 replace H:=dc_ H;rcases H with ⟨H,c3b0⟩|⟨H,c3b0⟩
 ·obtain rfl:=Option.some.inj H
  go_enter Tryz.func58,Tryz.ntmps58
  go_wp2_with (first | ((with_reducible refine gate_dst (N:=2) rfl ?_);refine bx_ 2 64 ?_;intro gb183 hg w4 hbox hb;have BK183:=ad_ (hbox);have GW183:=gw_ w hg;have GE183:=GW183;replace HB:=hbb_ hb;clear hb hbox hg;have hcz5_:=cells4_ BK183.out))
  go_ret
  exact ⟨ret_,belg_⟩
 ·replace H:=dg_ H;rcases H with ⟨H,c6b0⟩|⟨H,c6b0⟩
  ·obtain rfl:=Option.some.inj H
   go_enter Tryz.func58,Tryz.ntmps58
   go_wp2_with (first | ((with_reducible refine gate_dst (N:=2) rfl ?_);refine bx_ 2 64 ?_;intro gb183 hg w7 hbox hb;have BK183:=ad_ (hbox);have GW183:=gw_ w hg;have GE183:=GW183;replace HB:=hbb_ hb;clear hb hbox hg;have hcz8_:=cells4_ BK183.out))
   go_ret
   exact ⟨ret_,belg_⟩
  ·obtain rfl:=Option.some.inj H
   go_enter Tryz.func58,Tryz.ntmps58
   go_wp2_with (first | ((with_reducible refine gate_dst (N:=2) rfl ?_);refine bx_ 2 64 ?_;intro gb183 hg w9 hbox hb;have BK183:=ad_ (hbox);have GW183:=gw_ w hg;have GE183:=GW183;replace HB:=hbb_ hb;clear hb hbox hg;have hcz10_:=cells4_ BK183.out))
   go_ret
   exact ⟨ret_,belg_⟩
def series_Change_int64.l0:Nat→List (S64)→Int→Int→Int→Int→Option (Int×Bool)
 | 0,_,_,_,_,_=>none
 | k + 1,x0,x1,x8,x9,x10=>if x9 < x10 then (if 0≤(wrap64 ((IntKind.u64.wrap (wrap64 (x9 + x10))) / 2)) then (if (wrap64 ((IntKind.u64.wrap (wrap64 (x9 + x10))) / 2)) < (x0.length:Int) then ((series_Series_instance_1.f ((rd_T64 x0 (wrap64 ((IntKind.u64.wrap (wrap64 (x9 + x10))) / 2))).f0) ((rd_T64 x0 (wrap64 ((IntKind.u64.wrap (wrap64 (x9 + x10))) / 2))).f1) ((rd_T64 x0 (wrap64 ((IntKind.u64.wrap (wrap64 (x9 + x10))) / 2))).f2) ((rd_T64 x0 (wrap64 ((IntKind.u64.wrap (wrap64 (x9 + x10))) / 2))).f3) x1).bind fun t185=>(if t185 < 0 then (series_Change_int64.l0 k x0 x1 x8 (wrap64 ((wrap64 ((IntKind.u64.wrap (wrap64 (x9 + x10))) / 2)) + 1)) x10) else (series_Change_int64.l0 k x0 x1 x8 x9 (wrap64 ((IntKind.u64.wrap (wrap64 (x9 + x10))) / 2))))) else (none)) else (none)) else (if x9 < x8 then (if 0≤x9 then (if x9 < (x0.length:Int) then ((series_Series_instance_1.f ((rd_T64 x0 x9).f0) ((rd_T64 x0 x9).f1) ((rd_T64 x0 x9).f2) ((rd_T64 x0 x9).f3) x1).bind fun t187=>(some (x9,(t187 == 0)))) else (none)) else (none)) else (some (x9,false)))
def series_Change_int64.f (k:Nat) (l0:List (S64)) (a1:Int)  : Option (Int×Bool):=series_Change_int64.l0 k l0 a1 (l0.length:Int) 0 (l0.length:Int)
set_option maxHeartbeats 8000000 in
set_option maxRecDepth 100000 in
theorem series_Change_int64.calls (k:Nat) (A0:Option Addr) (c0:Nat) (l0:List (S64)) (a1:Int)  (r1:Int) (r2:Bool) (w:World) (hr0:Kd.C k64 w A0 l0.length l0) (hc0:l0.length≤c0) (h:series_Change_int64.f k l0 a1=some (r1,r2)) :
  Calls Tryz.prog 57 #[.slice A0 l0.length c0,.int .i64 a1,.func (.func 58) #[] #[]] w fun e w'=>e = .returned (.tuple #[.int .i64 r1,.bool r2])∧Below w.heap.size w w':=by
 have hu64:=Tryz.underlying64;have HR0:=Aside0.mk hr0;have HC0:=Aside0.mk hc0;clear hr0 hc0;have HB:=ad_ (Below.refl w.heap.size w);have H:(series_Change_int64.l0 k l0 a1 (l0.length:Int) 0 (l0.length:Int))=some (r1,r2):=h;clear h;have H':=ad_ H;clear H
 go_enter Tryz.func57,Tryz.ntmps57
 go_wp2
 go_loopg [9,10] k (fun kq v9 v10 w'=>∃ (x9_1:Int) (x10_1:Int),v9 = .int .i64 x9_1∧v10 = .int .i64 x10_1∧Aside0 (series_Change_int64.l0 kq l0 a1 (l0.length:Int) x9_1 x10_1=some (r1,r2))∧Aside0 (kq≤k)∧Aside0 (Below w.heap.size w w'))
 case atStart=>exact ⟨(0),((l0.length:Int)),val_,val_,H',⟨Nat.le_refl _⟩,⟨bel_⟩⟩
 case round =>
  clear H';obtain ⟨x9_1,x10_1,rfl,rfl,HA,HK1,HB⟩:=hrel
  cases gk with
  | zero=>exact absurd HA.out (by simp [series_Change_int64.l0])
  | succ k1 =>
   have H:=HA.out;clear HA
   simp only [series_Change_int64.l0] at H
   replace H:=dc_ H;rcases H with ⟨H,c4b0⟩|⟨H,c4b0⟩
   ·obtain ⟨ji5,hji5⟩:∃ j_:Int,(wrap64 ((IntKind.u64.wrap (wrap64 (x9_1 + x10_1))) / 2))=j_:=⟨_,rfl⟩
    replace H:(if 0≤(ji5) then (if (ji5) < (l0.length:Int) then ((series_Series_instance_1.f ((rd_T64 l0 (ji5)).f0) ((rd_T64 l0 (ji5)).f1) ((rd_T64 l0 (ji5)).f2) ((rd_T64 l0 (ji5)).f3) a1).bind fun t185=>(if t185 < 0 then (series_Change_int64.l0 k1 l0 a1 (l0.length:Int) (wrap64 ((ji5) + 1)) x10_1) else (series_Change_int64.l0 k1 l0 a1 (l0.length:Int) x9_1 ji5))) else (none)) else (none))=some (r1,r2):=by first | (rw [hji5] at H;exact H) | (simp only [hji5] at H ⊢;exact H)
    have hji5w:(IntKind.i64.wrap ((IntKind.u64.wrap (wrap64 (x9_1 + x10_1))) / 2))=ji5:=(i64_w _).trans hji5
    replace H:=ind_ H;obtain ⟨c6b0,H⟩:=H
    replace H:=ind_ H;obtain ⟨c7b0,H⟩:=H;obtain ⟨t185,A80,H⟩:=bnd_ H
    try dsimp only at H
    have A8:=ad_ A80;clear A80
    replace H:=dc_ H;rcases H with ⟨H,c9b0⟩|⟨H,c9b0⟩
    ·have H':=ad_ H;clear H;have p184:0≤((ji5):Int):=dec_;have q184:(ji5) < (l0.length:Int):=dec_;obtain ⟨ad184,e184,hx184_0,hx184_1,hx184_2,hx184_3⟩:=at_T64 HR0.out (ji5) p184 q184
     cases e184
     replace hx184_0:=(HB.out.cell (World.block_lt_of_cell? w _ hx184_0)).trans hx184_0;replace hx184_1:=(HB.out.cell (World.block_lt_of_cell? w _ hx184_1)).trans hx184_1;replace hx184_2:=(HB.out.cell (World.block_lt_of_cell? w _ hx184_2)).trans hx184_2;replace hx184_3:=(HB.out.cell (World.block_lt_of_cell? w _ hx184_3)).trans hx184_3;replace p184:=eq_true p184;replace q184:=eq_true q184
     go_wp2_with (first | (go_at_call 58;(with_reducible refine (series_Series_instance_1.calls ((rd_T64 l0 (ji5)).f0) ((rd_T64 l0 (ji5)).f1) ((rd_T64 l0 (ji5)).f2) ((rd_T64 l0 (ji5)).f3) a1 t185 _ A8.out).mono ?_);rintro e w10 ⟨rfl,hb⟩;replace HB:=hbb_ hb;clear hb))
     go_roundg k1
     case measure=>have:=HK1.out;omega
     case rel=>exact ⟨(wrap64 ((ji5) + 1)),(x10_1),(by first | rfl | (simp;done) | (simp only [← hji5] <;> (first | rfl | simp)) | (simp [*];done)),val_,H',⟨by have:=HK1.out;omega⟩,⟨bel_⟩⟩
    ·have H':=ad_ H;clear H;have p184:0≤((ji5):Int):=dec_;have q184:(ji5) < (l0.length:Int):=dec_;obtain ⟨ad184,e184,hx184_0,hx184_1,hx184_2,hx184_3⟩:=at_T64 HR0.out (ji5) p184 q184
     cases e184
     replace hx184_0:=(HB.out.cell (World.block_lt_of_cell? w _ hx184_0)).trans hx184_0;replace hx184_1:=(HB.out.cell (World.block_lt_of_cell? w _ hx184_1)).trans hx184_1;replace hx184_2:=(HB.out.cell (World.block_lt_of_cell? w _ hx184_2)).trans hx184_2;replace hx184_3:=(HB.out.cell (World.block_lt_of_cell? w _ hx184_3)).trans hx184_3;replace p184:=eq_true p184;replace q184:=eq_true q184
     go_wp2_with (first | (go_at_call 58;(with_reducible refine (series_Series_instance_1.calls ((rd_T64 l0 (ji5)).f0) ((rd_T64 l0 (ji5)).f1) ((rd_T64 l0 (ji5)).f2) ((rd_T64 l0 (ji5)).f3) a1 t185 _ A8.out).mono ?_);rintro e w11 ⟨rfl,hb⟩;replace HB:=hbb_ hb;clear hb))
     go_roundg k1
     case measure=>have:=HK1.out;omega
     case rel=>exact ⟨(x9_1),(ji5),val_,(by first | rfl | (simp;done) | (simp only [← hji5] <;> (first | rfl | simp)) | (simp [*];done)),H',⟨by have:=HK1.out;omega⟩,⟨bel_⟩⟩
   ·replace H:=dc_ H;rcases H with ⟨H,c12b0⟩|⟨H,c12b0⟩
    ·replace H:=ind_ H;obtain ⟨c13b0,H⟩:=H
     replace H:=ind_ H;obtain ⟨c14b0,H⟩:=H;obtain ⟨t187,A150,H⟩:=bnd_ H
     try dsimp only at H
     have A15:=ad_ A150;clear A150
     simp only [Option.some.injEq,Prod.mk.injEq] at H
     obtain ⟨rfl,rfl⟩:=H;have p186:0≤(x9_1:Int):=dec_;have q186:x9_1 < (l0.length:Int):=dec_;obtain ⟨ad186,e186,hx186_0,hx186_1,hx186_2,hx186_3⟩:=at_T64 HR0.out x9_1 p186 q186
     cases e186
     replace hx186_0:=(HB.out.cell (World.block_lt_of_cell? w _ hx186_0)).trans hx186_0;replace hx186_1:=(HB.out.cell (World.block_lt_of_cell? w _ hx186_1)).trans hx186_1;replace hx186_2:=(HB.out.cell (World.block_lt_of_cell? w _ hx186_2)).trans hx186_2;replace hx186_3:=(HB.out.cell (World.block_lt_of_cell? w _ hx186_3)).trans hx186_3;replace p186:=eq_true p186;replace q186:=eq_true q186
     go_wp2_with (first | (go_at_call 58;(with_reducible refine (series_Series_instance_1.calls ((rd_T64 l0 x9_1).f0) ((rd_T64 l0 x9_1).f1) ((rd_T64 l0 x9_1).f2) ((rd_T64 l0 x9_1).f3) a1 t187 _ A15.out).mono ?_);rintro e w16 ⟨rfl,hb⟩;replace HB:=hbb_ hb;clear hb))
     go_ret2
     exact ⟨ret_,bel_⟩
    ·simp only [Option.some.injEq,Prod.mk.injEq] at H
     obtain ⟨rfl,rfl⟩:=H
     go_wp2
     go_ret2
     exact ⟨ret_,bel_⟩
def series_Series_instance.f (k:Nat) (a0_0 a0_1:Int) (a0_2:Bool) (a0_3 a0_4:Int) (a0_5 a0_6:Int) (l0_7 l0_8:List Int) (l0_9:List (S91)) (l0_10 l0_11:List Int) (l0_12:List (S64)) (a1:Int):Option (Int×Int×Int×Bool×Bool):=(series_Change_int64.f k l0_12 a1).bind fun bt190=>(if bt190.2=true then (if 0≤bt190.1 then (if bt190.1 < (l0_12.length:Int) then (some (a1,(rd_T64 l0_12 bt190.1).f1,wrap64 (((rd_T64 l0_12 bt190.1).f1) + ((rd_T64 l0_12 bt190.1).f2)),true,!((rd_T64 l0_12 bt190.1).f3))) else (none)) else (none)) else (some (a1,a1,wrap64 (a1 + a0_1),false,true)))
def series_Series_instance.T5:Bool×List (List Nat×List Nat):=(true,[([],[]),([],[]),([1],[1]),([],[]),([3],[3]),([],[]),([5],[5]),([4,6],[4,6]),([0,2,7],[0,2,7]),([],[]),([9],[9]),([10],[10]),([8,0,1,2,3,4,5,6,7,8],[8]),([11,12,0,1,2,3,4,5,6,7,8,9,10,11,12],[11])])
def series_Series_instance.B5:List Nat:=[0,0,2,0,8,0,32,120,255,0,512,1536,511,8191]
theorem series_Series_instance.tab5:rtab .any (opsOf Tryz.f42 5)=series_Series_instance.T5:=by kernel_rfl
theorem series_Series_instance.bits5:waitsOk series_Series_instance.T5.2 series_Series_instance.B5=true:=by kernel_rfl
set_option maxHeartbeats 8000000 in
set_option maxRecDepth 100000 in
theorem series_Series_instance.calls (k:Nat) (a0_0 a0_1:Int) (a0_2:Bool) (a0_3 a0_4:Int) (a0_5 a0_6:Int) (A0_7:Option Addr) (c0_7:Nat) (l0_7:List Int) (A0_8:Option Addr) (c0_8:Nat) (l0_8:List Int) (A0_9:Option Addr) (c0_9:Nat) (l0_9:List (S91)) (A0_10:Option Addr) (c0_10:Nat) (l0_10:List Int) (A0_11:Option Addr) (c0_11:Nat) (l0_11:List Int) (A0_12:Option Addr) (c0_12:Nat) (l0_12:List (S64)) (a1 r1:Int) (r2 r3:Int) (r4 r5:Bool) (w:World) (hr0_7:Kd.C (Kd.int .i64) w A0_7 l0_7.length l0_7) (hc0_7:l0_7.length≤c0_7) (hr0_8:Kd.C (Kd.int .i64) w A0_8 l0_8.length l0_8) (hc0_8:l0_8.length≤c0_8) (hr0_9:Kd.C k91 w A0_9 l0_9.length l0_9) (hc0_9:l0_9.length≤c0_9) (hr0_10:Kd.C (Kd.int .i64) w A0_10 l0_10.length l0_10) (hc0_10:l0_10.length≤c0_10) (hr0_11:Kd.C (Kd.int .i64) w A0_11 l0_11.length l0_11) (hc0_11:l0_11.length≤c0_11) (hr0_12:Kd.C k64 w A0_12 l0_12.length l0_12) (hc0_12:l0_12.length≤c0_12) (h:series_Series_instance.f k a0_0 a0_1 a0_2 a0_3 a0_4 a0_5 a0_6 l0_7 l0_8 l0_9 l0_10 l0_11 l0_12 a1=some (r1,r2,r3,r4,r5)) :
  Calls Tryz.prog 42 #[.agg #[.int .i64 a0_0,.int .i64 a0_1,.bool a0_2,.int .i64 a0_3,.int .i64 a0_4,.int .i64 a0_5,.int .i64 a0_6,.slice A0_7 l0_7.length c0_7,.slice A0_8 l0_8.length c0_8,.slice A0_9 l0_9.length c0_9,.slice A0_10 l0_10.length c0_10,.slice A0_11 l0_11.length c0_11,.slice A0_12 l0_12.length c0_12],.int .i64 a1] w fun e w'=>e = .returned (.tuple #[.agg #[.int .i64 r1,.int .i64 r2,.int .i64 r3,.bool r4],.bool r5])∧Below w.heap.size w w':=by
 have hu29:=Tryz.underlying29;have hu55:=Tryz.underlying55;have hu64:=Tryz.underlying64;have HR0_7:=Aside0.mk hr0_7;have HC0_7:=Aside0.mk hc0_7;clear hr0_7 hc0_7;have HR0_8:=Aside0.mk hr0_8;have HC0_8:=Aside0.mk hc0_8;clear hr0_8 hc0_8;have HR0_9:=Aside0.mk hr0_9;have HC0_9:=Aside0.mk hc0_9;clear hr0_9 hc0_9;have HR0_10:=Aside0.mk hr0_10;have HC0_10:=Aside0.mk hc0_10;clear hr0_10 hc0_10;have HR0_11:=Aside0.mk hr0_11;have HC0_11:=Aside0.mk hc0_11;clear hr0_11 hc0_11;have HR0_12:=Aside0.mk hr0_12;have HC0_12:=Aside0.mk hc0_12;clear hr0_12 hc0_12;have HB:=ad_ (Below.refl w.heap.size w);have H:((series_Change_int64.f k l0_12 a1).bind fun bt190=>(if bt190.2=true then (if 0≤bt190.1 then (if bt190.1 < (l0_12.length:Int) then (some (a1,(rd_T64 l0_12 bt190.1).f1,wrap64 (((rd_T64 l0_12 bt190.1).f1) + ((rd_T64 l0_12 bt190.1).f2)),true,!((rd_T64 l0_12 bt190.1).f3))) else (none)) else (none)) else (some (a1,a1,wrap64 (a1 + a0_1),false,true))))=some (r1,r2,r3,r4,r5):=h;clear h;replace H:=Option.bind_eq_some_iff.mp H;obtain ⟨⟨t190,t191⟩,A30,H⟩:=H
 try dsimp only at H
 have A3:=ad_ A30;clear A30
 replace H:=db_ H;rcases H with ⟨rfl,H⟩|⟨rfl,H⟩
 ·replace H:=ind_ H;obtain ⟨c5b0,H⟩:=H
  replace H:=ind_ H;obtain ⟨c6b0,H⟩:=H
  simp only [Option.some.injEq,Prod.mk.injEq] at H
  obtain ⟨rfl,rfl,rfl,rfl,rfl⟩:=H
  go_enter Tryz.func42,Tryz.ntmps42
  try go_wp2_with (first | ((with_reducible refine gate_dst (N:=2) rfl ?_);refine bx_ 2 29 ?_;intro gb188 hg w7 hbox hb;have BK188:=ad_ (hbox);have GW188:=gw_ w hg;have GE188:=GW188;replace HB:=hbb_ hb;clear hb hbox hg) | ((with_reducible refine gate_dst (N:=4) rfl ?_);refine bx_ 4 55 ?_;intro gb189 hg w8 hbox hb;have BK189:=ad_ (hbox);have GW189:=gw_ w hg;have GE189:=GW189;replace HB:=hbb_ hb;have NB188_189:=nlt_ hg BK188;have NB189_188:=ngt_ hg BK188;replace BK188:=bkb_ BK188 hb;clear hb hbox hg;have hnb9:=NB188_189.out;have hnc9:=NB189_188.out;have hcz10_:=cells13_ BK188.out) | ((with_reducible refine gate_callee (f:=57) rfl ?_);refine gl_ 13 Tryz.func57 (series_Change_int64.calls k _ _ l0_12 a1  t190 true _ ?_ ?_ A3.out) ?_;(iterate 2 exact sc_);rintro e w11 ⟨rfl,hb⟩;refine ⟨_,rfl,?_⟩;replace BK188:=bkb_ BK188 hb;replace BK189:=bkb_ BK189 hb;replace HB:=hbb_ hb;clear hb;have hcz12_:=cells13_ BK188.out;have p192:0≤(t190:Int):=dec_;have q192:t190 < (l0_12.length:Int):=dec_;obtain ⟨ad192,e192,hx192_0,hx192_1,hx192_2,hx192_3⟩:=at_T64 HR0_12.out t190 p192 q192;cases e192;replace hx192_0:=(HB.out.cell (World.block_lt_of_cell? w _ hx192_0)).trans hx192_0;replace hx192_1:=(HB.out.cell (World.block_lt_of_cell? w _ hx192_1)).trans hx192_1;replace hx192_2:=(HB.out.cell (World.block_lt_of_cell? w _ hx192_2)).trans hx192_2;replace hx192_3:=(HB.out.cell (World.block_lt_of_cell? w _ hx192_3)).trans hx192_3;replace p192:=eq_true p192;replace q192:=eq_true q192) | ((with_reducible refine gate_dst (N:=8) rfl ?_);refine bx_ 8 64 ?_;intro gb193 hg w13 hbox hb;have BK193:=ad_ (hbox);have GW193:=gw_ w hg;have GE193:=GW193;replace HB:=hbb_ hb;have NB188_193:=nlt_ hg BK188;have NB193_188:=ngt_ hg BK188;replace BK188:=bkb_ BK188 hb;have NB189_193:=nlt_ hg BK189;have NB193_189:=ngt_ hg BK189;replace BK189:=bkb_ BK189 hb;clear hb hbox hg;have hnb14:=NB193_188.out;have hnc14:=NB188_193.out;have hnb15:=NB193_189.out;have hnc15:=NB189_193.out;have hcz16_:=cells4_ BK193.out))
  have n0_:Aside0 (((((w13.setCell ⟨gb193,0,none⟩ (.int .i64 ((rd_T64 l0_12 t190).f0))).setCell ⟨gb193,1,none⟩ (.int .i64 ((rd_T64 l0_12 t190).f1))).setCell ⟨gb193,2,none⟩ (.int .i64 ((rd_T64 l0_12 t190).f2))).setCell ⟨gb193,3,none⟩ (.bool ((rd_T64 l0_12 t190).f3))).heap[gb188]? = some (.cells #[.int .i64 a0_0,.int .i64 a0_1,.bool a0_2,.int .i64 a0_3,.int .i64 a0_4,.int .i64 a0_5,.int .i64 a0_6,.slice A0_7 l0_7.length c0_7,.slice A0_8 l0_8.length c0_8,.slice A0_9 l0_9.length c0_9,.slice A0_10 l0_10.length c0_10,.slice A0_11 l0_11.length c0_11,.slice (some ad192) l0_12.length c0_12] 29 (0,0))):=⟨blf_ BK188.out⟩;have n1_:Aside0 (((((w13.setCell ⟨gb193,0,none⟩ (.int .i64 ((rd_T64 l0_12 t190).f0))).setCell ⟨gb193,1,none⟩ (.int .i64 ((rd_T64 l0_12 t190).f1))).setCell ⟨gb193,2,none⟩ (.int .i64 ((rd_T64 l0_12 t190).f2))).setCell ⟨gb193,3,none⟩ (.bool ((rd_T64 l0_12 t190).f3))).heap[gb189]? = some (.cells #[.int .i64 0,.int .i64 0,.int .i64 0,.bool false] 55 (0,0))):=⟨blf_ BK189.out⟩;have n2_:Aside0 (((((w13.setCell ⟨gb193,0,none⟩ (.int .i64 ((rd_T64 l0_12 t190).f0))).setCell ⟨gb193,1,none⟩ (.int .i64 ((rd_T64 l0_12 t190).f1))).setCell ⟨gb193,2,none⟩ (.int .i64 ((rd_T64 l0_12 t190).f2))).setCell ⟨gb193,3,none⟩ (.bool ((rd_T64 l0_12 t190).f3))).heap[gb193]? = some (.cells #[.int .i64 ((rd_T64 l0_12 t190).f0),.int .i64 ((rd_T64 l0_12 t190).f1),.int .i64 ((rd_T64 l0_12 t190).f2),.bool ((rd_T64 l0_12 t190).f3)] 64 (0,0))):=⟨put_ BK193⟩;have n3_:Aside0 (Below w.heap.size w ((((w13.setCell ⟨gb193,0,none⟩ (.int .i64 ((rd_T64 l0_12 t190).f0))).setCell ⟨gb193,1,none⟩ (.int .i64 ((rd_T64 l0_12 t190).f1))).setCell ⟨gb193,2,none⟩ (.int .i64 ((rd_T64 l0_12 t190).f2))).setCell ⟨gb193,3,none⟩ (.bool ((rd_T64 l0_12 t190).f3)))):=⟨belg_⟩
  (try clear BK188)
  (try clear BK189)
  (try clear BK193)
  (try clear HB)
  generalize ((((w13.setCell ⟨gb193,0,none⟩ (.int .i64 ((rd_T64 l0_12 t190).f0))).setCell ⟨gb193,1,none⟩ (.int .i64 ((rd_T64 l0_12 t190).f1))).setCell ⟨gb193,2,none⟩ (.int .i64 ((rd_T64 l0_12 t190).f2))).setCell ⟨gb193,3,none⟩ (.bool ((rd_T64 l0_12 t190).f3)))=w17 at n0_ n1_ n2_ n3_ ⊢
  have BK188:=n0_;have BK189:=n1_;have BK193:=n2_;have HB:=n3_;clear n0_ n1_ n2_ n3_;have n0_:=ad_ (blk_drew BK188.out);have n1_:=ad_ (blk_drew BK189.out);have n2_:=ad_ (blk_drew BK193.out);have n3_:=ad_ (below_drew1 HB.out);clear BK188;clear BK189;clear BK193;clear HB;have BK188:=n0_;have BK189:=n1_;have BK193:=n2_;have HB:=n3_;clear n0_ n1_ n2_ n3_
  refine start_ (n:=14) (S:=fun w'=>w'.cell? ⟨gb193,0,none⟩=some (.int .i64 ((rd_T64 l0_12 t190).f0))∧w'.cell? ⟨gb193,1,none⟩=some (.int .i64 ((rd_T64 l0_12 t190).f1))∧w'.cell? ⟨gb193,2,none⟩=some (.int .i64 ((rd_T64 l0_12 t190).f2))∧w'.cell? ⟨gb193,3,none⟩=some (.bool ((rd_T64 l0_12 t190).f3))) (ds:=[]) (.replicate 14 false) (by kernel_rfl) rfl rfl ⟨bc_ BK193,bc_ BK193,bc_ BK193,bc_ BK193⟩ (fun hHeld=>?_);refine with_tabW series_Series_instance.tab5 series_Series_instance.bits5 (fun HT_ HW_=>?_)
  generalize w17.drew=w18 at BK188 BK189 BK193 HB hHeld ⊢
  refine pu_ 14 1 0 30 ?_;refine pu_ 14 3 1 31 ?_;refine pu_ 14 11 3 33 ?_;refine pu_ 14 43 5 35 ?_;refine pu_ 14 555 9 39 ?_;refine tk_ 14 559 2 32 ?_;refine tk_ 14 575 4 34 ?_;refine tk_ 14 639 6 36 ?_;refine pu_ 14 767 7 37 ?_;refine pu_ 14 1023 8 38 ?_;refine tk_ 14 2047 10 40 ?_;refine pu_ 14 4095 11 41 ?_
  refine one_ (i:=12) (N:=none) #[true,true,true,true,true,true,true,true,true,true,true,true,true,false] rfl rfl (one_of HT_.out (by kernel_rfl)) (by decide) (fun K hK=>?_)
  have hs19:w18.cell? ⟨gb189,0,none⟩=some (.int .i64 0):=bc_ BK189;have hfs19:=blk_frozen BK189.out 0;have hns19_0:=NB188_189.out;have hns19_2:=NB193_189.out;have hms19_0:=NB189_188.out;have hms19_2:=NB189_193.out;have hs20:w18.cell? ⟨gb189,1,none⟩=some (.int .i64 0):=bc_ BK189;have hfs20:=blk_frozen BK189.out 1;have hns20_0:=NB188_189.out;have hns20_2:=NB193_189.out;have hms20_0:=NB189_188.out;have hms20_2:=NB189_193.out;have hs21:w18.cell? ⟨gb189,2,none⟩=some (.int .i64 0):=bc_ BK189;have hfs21:=blk_frozen BK189.out 2;have hns21_0:=NB188_189.out;have hns21_2:=NB193_189.out;have hms21_0:=NB189_188.out;have hms21_2:=NB189_193.out;have hs22:w18.cell? ⟨gb189,3,none⟩=some (.bool false):=bc_ BK189;have hfs22:=blk_frozen BK189.out 3;have hns22_0:=NB188_189.out;have hns22_2:=NB193_189.out;have hms22_0:=NB189_188.out;have hms22_2:=NB189_193.out
  refine skip_ (w1:=?_) (by rfl) rfl ?_ ?_
  rotate_left
  ·go_simp
   rfl
  refine hK.out _ _ ⟨(cfs_ NB193_189 (hHeld.1)),(cfs_ NB193_189 (hHeld.2.1)),(cfs_ NB193_189 (hHeld.2.2.1)),(cfs_ NB193_189 (hHeld.2.2.2))⟩ (fun hHeld=>?_)
  clear hK K
  refine pu_ 14 16383 13 5 ?_
  refine done_ (done_of HT_.out (by kernel_rfl)) ?_
  try go_wp2
  refine bodyPost_ret (results_ct rfl _ _ gb189 55 #[.int .i64 a1,.int .i64 ((rd_T64 l0_12 t190).f1),.int .i64 (wrap64 (((rd_T64 l0_12 t190).f1) + ((rd_T64 l0_12 t190).f2))),.bool true] (0,0) _ rfl (put_ BK189) Tryz.underlying55 rfl (by kernel_rfl)) rfl ?_
  exact ⟨ret_,belg_⟩
 ·simp only [Option.some.injEq,Prod.mk.injEq] at H
  obtain ⟨rfl,rfl,rfl,rfl,rfl⟩:=H
  go_enter Tryz.func42,Tryz.ntmps42
  go_wp2_with (first | ((with_reducible refine gate_dst (N:=2) rfl ?_);refine bx_ 2 29 ?_;intro gb188 hg w23 hbox hb;have BK188:=ad_ (hbox);have GW188:=gw_ w hg;have GE188:=GW188;replace HB:=hbb_ hb;clear hb hbox hg) | ((with_reducible refine gate_dst (N:=4) rfl ?_);refine bx_ 4 55 ?_;intro gb189 hg w24 hbox hb;have BK189:=ad_ (hbox);have GW189:=gw_ w hg;have GE189:=GW189;replace HB:=hbb_ hb;have NB188_189:=nlt_ hg BK188;have NB189_188:=ngt_ hg BK188;replace BK188:=bkb_ BK188 hb;clear hb hbox hg;have hnb25:=NB188_189.out;have hnc25:=NB189_188.out;have hcz26_:=cells13_ BK188.out) | ((with_reducible refine gate_callee (f:=57) rfl ?_);refine gl_ 13 Tryz.func57 (series_Change_int64.calls k _ _ l0_12 a1  t190 false _ ?_ ?_ A3.out) ?_;(iterate 2 exact sc_);rintro e w27 ⟨rfl,hb⟩;refine ⟨_,rfl,?_⟩;replace BK188:=bkb_ BK188 hb;replace BK189:=bkb_ BK189 hb;replace HB:=hbb_ hb;clear hb;have hcz28_:=cells13_ BK188.out;have hcz29_:=cells4_ BK189.out))
  refine bodyPost_ret (results_ct rfl _ _ gb189 55 #[.int .i64 a1,.int .i64 a1,.int .i64 (wrap64 (a1 + a0_1)),.bool false] (0,0) _ rfl (put_ BK189) Tryz.underlying55 rfl (by kernel_rfl)) rfl ?_
  exact ⟨ret_,belg_⟩
end Go.Proofs.YtkgkblmeafhkfaaGreat.PH

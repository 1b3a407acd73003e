-- Written by a program of the session (wip/tools).
import Derived.Test.YtkgkblmeafhkfaaGreatPHx0
import Derived.Test.YtkgkblmeafhkfaaGreatPHx8
namespace Go.Proofs.YtkgkblmeafhkfaaGreat.PH
open Go.RowKit Go.Proofs.YtkgkblmeafhkfaaGreatW.PrintWords Go.Proofs.YtkgkblmeafhkfaaGreatW.PrintLast Go.Proofs.YtkgkblmeafhkfaaGreatW.PrintMore
attribute [local go_sem] max2_int min2_int max_two min_two max_three min_three max_four min_four   -- for this text's walks alone
set_option linter.unusedVariables false
set_option linter.unusedSimpArgs false

mutual
def when_Days.j0:Nat→Int→Int→Int→Bool→Option (Int×Int)
 | 0,_,_,_,_=>none
 | k + 1,x0,x1,x2,x34=>if x34=true then (some (0,110)) else ((when_before.f x0).bind fun t152=>(when_Days.l0 k x0 (wrap64 ((wrap64 (t152 + x2)) - 1)) x1 0))
def when_Days.l0:Nat→Int→Int→Int→Int→Option (Int×Int)
 | 0,_,_,_,_=>none
 | k + 1,x0,x8,x40,x41=>if x41 < x40 then (if x41 > 0 then ((when_month.f x0 x41).bind fun t153=>(when_Days.l0 k x0 (wrap64 (x8 + t153)) x40 (wrap64 (x41 + 1)))) else (when_Days.l0 k x0 x8 x40 (wrap64 (x41 + 1)))) else (some (x8,0))
end
def when_Days.f (k:Nat) (a0 a1 a2:Int):Option (Int×Int):=if a0 < 1970 then (when_Days.j0 k a0 a1 a2 true) else (if a0 > 9999 then (when_Days.j0 k a0 a1 a2 true) else (if a1 < 1 then (when_Days.j0 k a0 a1 a2 true) else (if a1 > 12 then (when_Days.j0 k a0 a1 a2 true) else (if a2 < 1 then (when_Days.j0 k a0 a1 a2 true) else ((when_month.f a0 a1).bind fun t151=>(when_Days.j0 k a0 a1 a2 (decide (a2 > t151))))))))
set_option maxHeartbeats 8000000 in
set_option maxRecDepth 100000 in
theorem when_Days.calls (k:Nat) (a0 a1:Int) (a2 r1 r2:Int) (w:World) (h:when_Days.f k a0 a1 a2=some (r1,r2)) :
  Calls Tryz.prog 124 #[.int .i64 a0,.int .i64 a1,.int .i64 a2] w fun e w'=>e = .returned (.tuple #[.int .i64 r1,.int .i64 r2])∧Below w.heap.size w w':=by
 have HB:=ad_ (Below.refl w.heap.size w);have H:(if a0 < 1970 then (when_Days.j0 k a0 a1 a2 true) else (if a0 > 9999 then (when_Days.j0 k a0 a1 a2 true) else (if a1 < 1 then (when_Days.j0 k a0 a1 a2 true) else (if a1 > 12 then (when_Days.j0 k a0 a1 a2 true) else (if a2 < 1 then (when_Days.j0 k a0 a1 a2 true) else ((when_month.f a0 a1).bind fun t151=>(when_Days.j0 k a0 a1 a2 (decide (a2 > t151)))))))))=some (r1,r2):=h;clear h;have HC4:=Aside0.mk H;clear H
 go_enter Tryz.func124,Tryz.ntmps124
 go_upto_region 1 with (fail)
 go_cut [34] (fun v34 wc=>∃ (kq:Nat) (x34_3:Bool),v34 = .bool x34_3∧Aside0 (when_Days.j0 kq a0 a1 a2 x34_3=some (r1,r2))∧Aside0 (kq≤k)∧Aside0 (Below w.heap.size w wc))
 case first =>
  have H:=HC4.out;clear HC4
  replace H:=dc_ H;rcases H with ⟨H,c5b0⟩|⟨H,c5b0⟩
  ·(first | rw [c5b0] | (simp only [i64_w,i32_w];rw [c5b0]) | skip)
   have H':=ad_ H;clear H
   go_wp2
   go_meet
   case rel=>exact ⟨_,(true),val_,H',⟨by first | omega | exact Nat.le_refl _⟩,⟨bel_⟩⟩
  ·(first | rw [c5b0] | (simp only [i64_w,i32_w];rw [c5b0]) | skip)
   replace H:=dg_ H;rcases H with ⟨H,c6b0⟩|⟨H,c6b0⟩
   ·have H':=ad_ H;clear H
    go_wp2
    go_meet
    case rel=>exact ⟨_,(true),val_,H',⟨by first | omega | exact Nat.le_refl _⟩,⟨bel_⟩⟩
   ·replace H:=dc_ H;rcases H with ⟨H,c7b0⟩|⟨H,c7b0⟩
    ·have H':=ad_ H;clear H
     go_wp2
     go_meet
     case rel=>exact ⟨_,(true),val_,H',⟨by first | omega | exact Nat.le_refl _⟩,⟨bel_⟩⟩
    ·replace H:=dg_ H;rcases H with ⟨H,c8b0⟩|⟨H,c8b0⟩
     ·have H':=ad_ H;clear H
      go_wp2
      go_meet
      case rel=>exact ⟨_,(true),val_,H',⟨by first | omega | exact Nat.le_refl _⟩,⟨bel_⟩⟩
     ·replace H:=dc_ H;rcases H with ⟨H,c9b0⟩|⟨H,c9b0⟩
      ·have H':=ad_ H;clear H
       go_wp2
       go_meet
       case rel=>exact ⟨_,(true),val_,H',⟨by first | omega | exact Nat.le_refl _⟩,⟨bel_⟩⟩
      ·obtain ⟨t151,A100,H⟩:=bnd_ H
       try dsimp only at H
       have A10:=ad_ A100;clear A100;have H':=ad_ H;clear H
       go_wp2_with (first | (go_at_call 115;(with_reducible refine (when_month.calls a0 a1 t151 _ A10.out).mono ?_);rintro e w11 ⟨rfl,hb⟩;replace HB:=hbb_ hb;clear hb))
       go_meet
       case rel=>exact ⟨_,(decide (a2 > t151)),val_,H',⟨by first | omega | exact Nat.le_refl _⟩,⟨bel_⟩⟩
 case rest =>
  clear HC4;obtain ⟨kq,x34_3,rfl,HA,HJ3,HB⟩:=hcut
  cases kq with
  | zero=>exact absurd HA.out (by simp [when_Days.j0])
  | succ kj3 =>
   have H:=HA.out;clear HA
   simp only [when_Days.j0] at H
   replace H:=db_ H;rcases H with ⟨rfl,H⟩|⟨rfl,H⟩
   ·simp only [Option.some.injEq,Prod.mk.injEq] at H
    obtain ⟨rfl,rfl⟩:=H
    go_wp2
    go_ret2
    exact ⟨ret_,bel_⟩
   ·obtain ⟨t152,A130,H⟩:=bnd_ H
    try dsimp only at H
    have A13:=ad_ A130;clear A130;have H':=ad_ H;clear H
    go_wp2_with (first | ((with_reducible refine gate_callee (f:=114) rfl ?_);refine gl_ 36 Tryz.func114 (when_before.calls a0 t152 _ A13.out) ?_;rintro e w' ⟨rfl,⟨nd,rfl⟩⟩;refine ⟨_,rfl,?_⟩))
    go_loopg [8,41] kj3 (fun kq v8 v41 w'=>∃ (x8_2:Int) (x41_2:Int),v8 = .int .i64 x8_2∧v41 = .int .i64 x41_2∧Aside0 (when_Days.l0 kq a0 x8_2 a1 x41_2=some (r1,r2))∧Aside0 (kq≤kj3)∧Aside0 (Below w.heap.size w w'))
    case atStart=>exact ⟨(wrap64 ((wrap64 (t152 + a2)) - 1)),(0),val_,val_,H',⟨Nat.le_refl _⟩,⟨bel_⟩⟩
    case round =>
     clear H';obtain ⟨x8_2,x41_2,rfl,rfl,HA,HK2,HB⟩:=hrel
     cases gk with
     | zero=>exact absurd HA.out (by simp [when_Days.l0])
     | succ k2 =>
      have H:=HA.out;clear HA
      simp only [when_Days.l0] at H
      replace H:=dc_ H;rcases H with ⟨H,c14b0⟩|⟨H,c14b0⟩
      ·replace H:=dg_ H;rcases H with ⟨H,c15b0⟩|⟨H,c15b0⟩
       ·obtain ⟨t153,A160,H⟩:=bnd_ H
        try dsimp only at H
        have A16:=ad_ A160;clear A160;have H':=ad_ H;clear H
        go_wp2_with (first | ((with_reducible refine gate_callee (f:=115) rfl ?_);refine gl_ 49 Tryz.func115 (when_month.calls a0 x41_2 t153 _ A16.out) ?_;rintro e w17 ⟨rfl,hb⟩;refine ⟨_,rfl,?_⟩;replace HB:=hbb_ hb;clear hb))
        go_roundg k2
        case measure=>have:=HJ3.out;have:=HK2.out;omega
        case rel=>exact ⟨(wrap64 (x8_2 + t153)),(wrap64 (x41_2 + 1)),val_,val_,H',⟨by have:=HJ3.out;have:=HK2.out;omega⟩,⟨bel_⟩⟩
       ·have H':=ad_ H;clear H
        go_wp2
        go_roundg k2
        case measure=>have:=HJ3.out;have:=HK2.out;omega
        case rel=>exact ⟨(x8_2),(wrap64 (x41_2 + 1)),val_,val_,H',⟨by have:=HJ3.out;have:=HK2.out;omega⟩,⟨bel_⟩⟩
      ·simp only [Option.some.injEq,Prod.mk.injEq] at H
       obtain ⟨rfl,rfl⟩:=H
       go_wp2
       go_ret2
       exact ⟨ret_,bel_⟩
def recur_length.l0:Nat→Int→Int→Int→Option (Int)
 | 0,_,_,_=>none
 | k + 1,x0,x1,x5=>if x5 > 28 then ((when_Days.f k x0 x1 x5).bind fun bt154=>(if bt154.2=0 then (some x5) else (recur_length.l0 k x0 x1 (wrap64 (x5 - 1))))) else (some 28)
def recur_length.f (k:Nat) (a0 a1:Int):Option (Int):=recur_length.l0 k a0 a1 31
set_option maxHeartbeats 8000000 in
set_option maxRecDepth 100000 in
theorem recur_length.calls (k:Nat) (a0 a1 r:Int) (w:World) (h:recur_length.f k a0 a1=some r) :
  Calls Tryz.prog 118 #[.int .i64 a0,.int .i64 a1] w fun e w'=>e = .returned (.int .i64 r)∧Below w.heap.size w w':=by
 have HB:=ad_ (Below.refl w.heap.size w);have H:(recur_length.l0 k a0 a1 31)=some r:=h;clear h;have H':=ad_ H;clear H
 go_enter Tryz.func118,Tryz.ntmps118
 go_wp2
 go_loopg [5] k (fun kq v5 w'=>∃ (x5_1:Int),v5 = .int .i64 x5_1∧Aside0 (recur_length.l0 kq a0 a1 x5_1=some r)∧Aside0 (kq≤k)∧Aside0 (Below w.heap.size w w'))
 case atStart=>exact ⟨(31),val_,H',⟨Nat.le_refl _⟩,⟨bel_⟩⟩
 case round =>
  clear H';obtain ⟨x5_1,rfl,HA,HK1,HB⟩:=hrel
  cases gk with
  | zero=>exact absurd HA.out (by simp [recur_length.l0])
  | succ k1 =>
   have H:=HA.out;clear HA
   simp only [recur_length.l0] at H
   replace H:=dg_ H;rcases H with ⟨H,c3b0⟩|⟨H,c3b0⟩
   ·replace H:=Option.bind_eq_some_iff.mp H;obtain ⟨⟨t154,t155⟩,A40,H⟩:=H
    try dsimp only at H
    have A4:=ad_ A40;clear A40
    replace H:=de_ H;rcases H with ⟨H,-,c5b0,c5b1⟩|⟨H,c5,c5b0,c5b1⟩
    ·obtain rfl:=Option.some.inj H
     go_wp2_with (first | ((with_reducible refine gate_callee (f:=124) rfl ?_);refine gl_ 16 Tryz.func124 (when_Days.calls k1 a0 a1 x5_1 t154 t155 _ A4.out) ?_;rintro e w6 ⟨rfl,hb⟩;refine ⟨_,rfl,?_⟩;replace HB:=hbb_ hb;clear hb))
     go_ret
     exact ⟨ret_,bel_⟩
    ·have H':=ad_ H;clear H
     go_wp2_with (first | ((with_reducible refine gate_callee (f:=124) rfl ?_);refine gl_ 16 Tryz.func124 (when_Days.calls k1 a0 a1 x5_1 t154 t155 _ A4.out) ?_;rintro e w7 ⟨rfl,hb⟩;refine ⟨_,rfl,?_⟩;replace HB:=hbb_ hb;clear hb))
     go_roundg k1
     case measure=>have:=HK1.out;omega
     case rel=>exact ⟨(wrap64 (x5_1 - 1)),val_,H',⟨by have:=HK1.out;omega⟩,⟨bel_⟩⟩
   ·obtain rfl:=Option.some.inj H
    go_wp2
    go_ret
    exact ⟨ret_,bel_⟩
def recur_Rule_may.fitsB (a b c:Int) (x:S91):Bool:=x.f0 == a && (x.f1 == 0 || x.f1 == b || x.f1 == c)
set_option maxHeartbeats 4000000 in
theorem recur_Rule_may.fits_in (a b c:Int) (x:S91) (w:World):Calls Tryz.prog 120 #[.agg #[.int .i64 a,.int .i64 b,.int .i64 c],.agg #[.int .i64 x.f0,.int .i64 x.f1]] w fun e w'=>e = .returned (.bool (recur_Rule_may.fitsB a b c x))∧Below w.heap.size w w':=by
 have HB:=ad_ (Below.refl w.heap.size w)
 unfold recur_Rule_may.fitsB
 go_enter Tryz.func120,Tryz.ntmps120
 go_wp2
 all_goals go_ret
 all_goals refine ⟨?_,bel_⟩
 all_goals simp_all
set_option maxHeartbeats 4000000 in
theorem recur_Rule_may.index_in (a b c:Int) (A0:Option Addr) (c0:Nat) (l0:List S91) (w:World) (hr0:Kd.C k91 w A0 l0.length l0) (hc0:l0.length≤c0) (hn:l0.length < 4611686018427387904) :
  Calls Tryz.prog 125 #[.slice A0 l0.length c0,.func (.func 120) #[.agg #[.int .i64 a,.int .i64 b,.int .i64 c]] #[]] w fun e w'=>(∃ r,e = .returned (.int .i64 r)∧decide (0≤r)=l0.any (recur_Rule_may.fitsB a b c))∧Below w.heap.size w w':=by
 have HR:=Aside0.mk hr0;clear hr0
 go_enter Tryz.func125,Tryz.ntmps125
 go_wp2
 go_loopw [8] (fun v8 w'=>∃ i:Nat,v8 = .int .i64 (i:Int)∧i≤l0.length∧(l0.drop i).any (recur_Rule_may.fitsB a b c)=l0.any (recur_Rule_may.fitsB a b c)∧Aside0 (Below w.heap.size w w')) (fun v8 _=>l0.length - (intOf v8).toNat)
 case atStart=>exact ⟨0,rfl,Nat.zero_le _,rfl,⟨Below.refl _ _⟩⟩
 case round =>
  obtain ⟨i,rfl,hi,ha,HB⟩:=hrel
  by_cases hlt:i < l0.length
  ·have hlen:=(Kd.C_len HR.out)
   have p0:(0:Int)≤(i:Int):=by omega
   have q0:(i:Int) < (l0.length:Int):=by omega
   obtain ⟨ad,e0,hx0,hx1⟩:=at_T91 HR.out (i:Int) p0 q0
   cases e0
   rw [Int.toNat_natCast] at hx0 hx1;replace hx0:=(HB.out.cell (World.block_lt_of_cell? w _ hx0)).trans hx0;replace hx1:=(HB.out.cell (World.block_lt_of_cell? w _ hx1)).trans hx1
   have hget:rd_T91 l0 (i:Int)=l0[i]:=by simp [rd_T91,hlt]
   have hd:l0.drop i=l0[i] :: l0.drop (i + 1):=List.drop_eq_getElem_cons hlt;rw [hget] at hx0 hx1
   cases hf:recur_Rule_may.fitsB a b c l0[i] with
   | true =>
    go_wp2_with (go_at_call 120;(with_reducible refine (recur_Rule_may.fits_in a b c l0[i] _).mono ?_);rintro e w1 ⟨rfl,hb⟩;rw [hf])
    go_ret
    refine ⟨⟨_,rfl,?_⟩,HB.out.trans (hb.mono HB.out.size)⟩
    rw [← ha,hd,List.any_cons,hf]
    simp
   | false =>
    go_wp2_with (go_at_call 120;(with_reducible refine (recur_Rule_may.fits_in a b c l0[i] _).mono ?_);rintro e w1 ⟨rfl,hb⟩;rw [hf])
    have ew:wrap64 ((i:Int) + 1)=((i + 1:Nat):Int):=by unfold wrap64;omega
    go_roundw
    case rel=>exact ⟨i + 1,(by first | rfl | (rw [ew]) | (simp;done)),by omega,by rw [← ha,hd,List.any_cons,hf];rfl,⟨HB.out.trans (hb.mono HB.out.size)⟩⟩
    case measure=>(try simp only [ew]);simp only [intOf];omega
  ·obtain rfl:i=l0.length:=by omega
   go_wp2
   go_ret
   refine ⟨⟨_,rfl,?_⟩,HB.out⟩
   rw [← ha,List.drop_length]
   rfl
set_option maxHeartbeats 4000000 in
theorem recur_Rule_may.contains_in (a b c:Int) (A0:Option Addr) (c0:Nat) (l0:List S91) (w:World) (hr0:Kd.C k91 w A0 l0.length l0) (hc0:l0.length≤c0) (hn:l0.length < 4611686018427387904) :
  Calls Tryz.prog 119 #[.slice A0 l0.length c0,.func (.func 120) #[.agg #[.int .i64 a,.int .i64 b,.int .i64 c]] #[]] w fun e w'=>e = .returned (.bool (l0.any (recur_Rule_may.fitsB a b c)))∧Below w.heap.size w w':=by
 have HR:=Aside0.mk hr0;clear hr0
 go_enter Tryz.func119,Tryz.ntmps119
 go_wp2_with (go_at_call 125;(with_reducible refine (recur_Rule_may.index_in a b c A0 c0 l0 _ HR.out hc0 hn).mono ?_);rintro e w1 ⟨⟨r,rfl,hr⟩,hb⟩)
 go_ret
 refine ⟨?_,hb⟩
 rw [← hr]
 rfl
/-- What recur.may tells. -/
def recur_Rule_may.g (k:Nat) (l5:List Int) (l6:List S91) (y m d wd first:Int):Option Bool :=
 (recur_length.f k y m).bind fun n =>
  if l5.length=0∧l6.length=0 then some (d == first) else
  (if l5.length=0 then some true else (slices_Contains_int_int.f k l5 d).bind fun t=>if t=true then some true else slices_Contains_int_int.f k l5 (wrap64 (wrap64 (d - n) - 1))).bind fun ok =>
  if ok=true then (if l6.length=0 then some true else if l6.length < 4611686018427387904 then some (l6.any (recur_Rule_may.fitsB wd (wrap64 ((wrap64 (d + 6)).tdiv 7)) (wrap64 (-wrap64 (wrap64 ((wrap64 (n - d)).tdiv 7) + 1))))) else none) else some false
set_option maxHeartbeats 8000000 in
set_option maxRecDepth 100000 in
theorem recur_Rule_may.in_ (k:Nat) (r0 r1 r2 r3:Int) (A4 A5 A6:Option Addr) (n4 c4 c5 c6:Nat) (l5:List Int) (l6:List S91) (y m d wd first:Int) (r:Bool) (w:World) (hr5:Kd.C (Kd.int .i64) w A5 l5.length l5) (hc5:l5.length≤c5) (hr6:Kd.C k91 w A6 l6.length l6) (hc6:l6.length≤c6)
  (h:recur_Rule_may.g k l5 l6 y m d wd first=some r) :
  Calls Tryz.prog 108 #[.agg #[.int .i64 r0,.int .i64 r1,.int .i64 r2,.int .i64 r3,.slice A4 n4 c4,.slice A5 l5.length c5,.slice A6 l6.length c6],.int .i64 y,.int .i64 m,.int .i64 d,.int .i64 wd,.int .i64 first] w fun e w'=>e = .returned (.bool r)∧Below w.heap.size w w':=by
 have HR5:=Aside0.mk hr5;have HR6:=Aside0.mk hr6;clear hr5 hr6
 unfold recur_Rule_may.g at h
 obtain ⟨n,hn0,h⟩:=Option.bind_eq_some_iff.mp h;have HN:=Aside0.mk hn0;clear hn0
 by_cases e5:l5.length=0
 ·obtain rfl:l5 = []:=List.length_eq_zero_iff.mp e5
  by_cases e6:l6.length=0
  ·obtain rfl:l6 = []:=List.length_eq_zero_iff.mp e6;rw [if_pos ⟨rfl,rfl⟩] at h;obtain rfl:=Option.some.inj h;clear h
   go_enter Tryz.func108,Tryz.ntmps108
   go_wp2_with (first | (go_at_call 118;((with_reducible refine (recur_length.calls k y m n _ HN.out).mono ?_);rintro e w1 ⟨rfl,hb⟩;have hq5:=(hb.cell (p:=⟨w.heap.size,5,none⟩) (by simp)).trans ((blk_cell (blk_new w _) 5).trans rfl);have hq6:=(hb.cell (p:=⟨w.heap.size,6,none⟩) (by simp)).trans ((blk_cell (blk_new w _) 6).trans rfl);have HB1:Aside0 (Below w.heap.size w w1):=⟨(below_alloc (Below.refl _ _) _).trans (hb.mono (by simp))⟩;have HL:Aside0 (w.heap.size < w1.heap.size):=⟨by have:=hb.size;simp at this;omega⟩;clear hb)))
   go_ret
   exact ⟨(by first | (simp_all;done) | rfl | (simp;done) | (simp [*];done)),(by repeat (first | (with_reducible first | exact HB1.out | apply below_alloc | apply pw_below_drewN | apply below_drew1) | exact HB1.out))⟩
  ·rw [if_neg (fun h=>e6 h.2)] at h
   simp only [List.length_nil,if_true,Option.bind_some,if_neg e6] at h
   by_cases hlt:l6.length < 4611686018427387904
   ·rw [if_pos hlt] at h;obtain rfl:=Option.some.inj h;clear h
    go_enter Tryz.func108,Tryz.ntmps108
    go_wp2_with (first | (go_at_call 118;((with_reducible refine (recur_length.calls k y m n _ HN.out).mono ?_);rintro e w1 ⟨rfl,hb⟩;have hq5:=(hb.cell (p:=⟨w.heap.size,5,none⟩) (by simp)).trans ((blk_cell (blk_new w _) 5).trans rfl);have hq6:=(hb.cell (p:=⟨w.heap.size,6,none⟩) (by simp)).trans ((blk_cell (blk_new w _) 6).trans rfl);have hq6a:∀ o,(w1.alloc o).cell? ⟨w.heap.size,6,none⟩=some (.slice A6 l6.length c6):=(fun o=>((below_alloc (Below.refl w1.heap.size w1) o).cell (p:=⟨w.heap.size,6,none⟩) (by have:=hb.size;simp at this ⊢;omega)).trans hq6);have HB1:Aside0 (Below w.heap.size w w1):=⟨(below_alloc (Below.refl _ _) _).trans (hb.mono (by simp))⟩;have HL:Aside0 (w.heap.size < w1.heap.size):=⟨by have:=hb.size;simp at this;omega⟩;clear hb)) | (go_at_call 119;((with_reducible refine (recur_Rule_may.contains_in wd (wrap64 ((wrap64 (d + 6)).tdiv 7)) (wrap64 (-wrap64 (wrap64 ((wrap64 (n - d)).tdiv 7) + 1))) A6 c6 l6 _ ?s1 hc6 hlt).mono ?_);(case s1=>exact Kd.C_below HR6.out (by repeat (first | (with_reducible first | exact HB1.out | apply below_alloc | apply pw_below_drewN | apply below_drew1) | exact HB1.out)));rintro e w2 ⟨rfl,hb2⟩)))
    go_ret
    refine ⟨val_,?_⟩
    have hz:=HB1.out.size;exact Below.trans (by repeat (first | (with_reducible first | exact HB1.out | apply below_alloc | apply pw_below_drewN | apply below_drew1) | exact HB1.out)) (hb2.mono (by first | (simp;omega) | (simp at *;omega)))
   ·rw [if_neg hlt] at h;cases h
 ·rw [if_neg (fun h=>e5 h.1),if_neg e5] at h;obtain ⟨ok,hk,h⟩:=Option.bind_eq_some_iff.mp h;obtain ⟨t,ht0,hk⟩:=Option.bind_eq_some_iff.mp hk;have HT:=Aside0.mk ht0;clear ht0
  cases t with
  | true =>
   rw [if_pos rfl] at hk;obtain rfl:=Option.some.inj hk;clear hk;rw [if_pos rfl] at h
   by_cases e6:l6.length=0
   ·obtain rfl:l6 = []:=List.length_eq_zero_iff.mp e6;obtain rfl:=Option.some.inj h
    go_enter Tryz.func108,Tryz.ntmps108
    go_wp2_with (first | (go_at_call 118;((with_reducible refine (recur_length.calls k y m n _ HN.out).mono ?_);rintro e w1 ⟨rfl,hb⟩;have hq5:=(hb.cell (p:=⟨w.heap.size,5,none⟩) (by simp)).trans ((blk_cell (blk_new w _) 5).trans rfl);have hq6:=(hb.cell (p:=⟨w.heap.size,6,none⟩) (by simp)).trans ((blk_cell (blk_new w _) 6).trans rfl);have HB1:Aside0 (Below w.heap.size w w1):=⟨(below_alloc (Below.refl _ _) _).trans (hb.mono (by simp))⟩;have HL:Aside0 (w.heap.size < w1.heap.size):=⟨by have:=hb.size;simp at this;omega⟩;clear hb)) | (go_at_call 106;(with_reducible refine (slices_Contains_int_int.calls k _ _ l5 d true _ ?s1 ?s2 HT.out).mono ?_);(case s1=>exact Kd.C_below HR5.out (by repeat (first | (with_reducible first | exact HB1.out | apply below_alloc | apply pw_below_drewN | apply below_drew1) | exact HB1.out)));(case s2=>exact hc5);rintro e w' ⟨rfl,hd⟩;have hb:=hd.below;clear hd;replace hq5:=(hb.cell (p:=⟨w.heap.size,5,none⟩) HL.out).trans hq5;replace hq6:=(hb.cell (p:=⟨w.heap.size,6,none⟩) HL.out).trans hq6;have hs:=hb.size;have HL':=ad_ (Nat.lt_of_lt_of_le HL.out hs);clear hs;replace HB1:=ad_ (HB1.out.trans (hb.mono HB1.out.size));clear hb;clear HL;have HL:=HL';clear HL'))
    go_ret
    exact ⟨(by first | (simp_all;done) | rfl | (simp;done) | (simp [*];done)),(by repeat (first | (with_reducible first | exact HB1.out | apply below_alloc | apply pw_below_drewN | apply below_drew1) | exact HB1.out))⟩
   ·rw [if_neg e6] at h
    by_cases hlt:l6.length < 4611686018427387904
    ·rw [if_pos hlt] at h;obtain rfl:=Option.some.inj h;clear h
     go_enter Tryz.func108,Tryz.ntmps108
     go_wp2_with (first | (go_at_call 118;((with_reducible refine (recur_length.calls k y m n _ HN.out).mono ?_);rintro e w1 ⟨rfl,hb⟩;have hq5:=(hb.cell (p:=⟨w.heap.size,5,none⟩) (by simp)).trans ((blk_cell (blk_new w _) 5).trans rfl);have hq6:=(hb.cell (p:=⟨w.heap.size,6,none⟩) (by simp)).trans ((blk_cell (blk_new w _) 6).trans rfl);have hq6a:∀ o,(w1.alloc o).cell? ⟨w.heap.size,6,none⟩=some (.slice A6 l6.length c6):=(fun o=>((below_alloc (Below.refl w1.heap.size w1) o).cell (p:=⟨w.heap.size,6,none⟩) (by have:=hb.size;simp at this ⊢;omega)).trans hq6);have HB1:Aside0 (Below w.heap.size w w1):=⟨(below_alloc (Below.refl _ _) _).trans (hb.mono (by simp))⟩;have HL:Aside0 (w.heap.size < w1.heap.size):=⟨by have:=hb.size;simp at this;omega⟩;clear hb)) | (go_at_call 106;(with_reducible refine (slices_Contains_int_int.calls k _ _ l5 d true _ ?s1 ?s2 HT.out).mono ?_);(case s1=>exact Kd.C_below HR5.out (by repeat (first | (with_reducible first | exact HB1.out | apply below_alloc | apply pw_below_drewN | apply below_drew1) | exact HB1.out)));(case s2=>exact hc5);rintro e w' ⟨rfl,hd⟩;have hb:=hd.below;clear hd;replace hq5:=(hb.cell (p:=⟨w.heap.size,5,none⟩) HL.out).trans hq5;replace hq6:=(hb.cell (p:=⟨w.heap.size,6,none⟩) HL.out).trans hq6;have hs:=hb.size;have HL':=ad_ (Nat.lt_of_lt_of_le HL.out hs);clear hs;replace HB1:=ad_ (HB1.out.trans (hb.mono HB1.out.size));clear hb;clear HL;have HL:=HL';clear HL';clear hq6a;have hq6a:∀ o,(w'.alloc o).cell? ⟨w.heap.size,6,none⟩=some (.slice A6 l6.length c6):=(fun o=>((below_alloc (Below.refl w'.heap.size w') o).cell (p:=⟨w.heap.size,6,none⟩) HL.out).trans hq6)) | (go_at_call 119;((with_reducible refine (recur_Rule_may.contains_in wd (wrap64 ((wrap64 (d + 6)).tdiv 7)) (wrap64 (-wrap64 (wrap64 ((wrap64 (n - d)).tdiv 7) + 1))) A6 c6 l6 _ ?s1 hc6 hlt).mono ?_);(case s1=>exact Kd.C_below HR6.out (by repeat (first | (with_reducible first | exact HB1.out | apply below_alloc | apply pw_below_drewN | apply below_drew1) | exact HB1.out)));rintro e w2 ⟨rfl,hb2⟩)))
     go_ret
     refine ⟨val_,?_⟩
     have hz:=HB1.out.size;exact Below.trans (by repeat (first | (with_reducible first | exact HB1.out | apply below_alloc | apply pw_below_drewN | apply below_drew1) | exact HB1.out)) (hb2.mono (by first | (simp;omega) | (simp at *;omega)))
    ·rw [if_neg hlt] at h;cases h
  | false =>
   rw [if_neg (by decide)] at hk;have HK:=Aside0.mk hk;clear hk
   cases ok with
   | true =>
    rw [if_pos rfl] at h
    by_cases e6:l6.length=0
    ·obtain rfl:l6 = []:=List.length_eq_zero_iff.mp e6;obtain rfl:=Option.some.inj h
     go_enter Tryz.func108,Tryz.ntmps108
     go_wp2_with (first | (go_at_call 118;((with_reducible refine (recur_length.calls k y m n _ HN.out).mono ?_);rintro e w1 ⟨rfl,hb⟩;have hq5:=(hb.cell (p:=⟨w.heap.size,5,none⟩) (by simp)).trans ((blk_cell (blk_new w _) 5).trans rfl);have hq6:=(hb.cell (p:=⟨w.heap.size,6,none⟩) (by simp)).trans ((blk_cell (blk_new w _) 6).trans rfl);have HB1:Aside0 (Below w.heap.size w w1):=⟨(below_alloc (Below.refl _ _) _).trans (hb.mono (by simp))⟩;have HL:Aside0 (w.heap.size < w1.heap.size):=⟨by have:=hb.size;simp at this;omega⟩;clear hb)) | (go_at_call 106;(with_reducible refine (slices_Contains_int_int.calls k _ _ l5 d false _ ?s1 ?s2 HT.out).mono ?_);(case s1=>exact Kd.C_below HR5.out (by repeat (first | (with_reducible first | exact HB1.out | apply below_alloc | apply pw_below_drewN | apply below_drew1) | exact HB1.out)));(case s2=>exact hc5);rintro e w' ⟨rfl,hd⟩;have hb:=hd.below;clear hd;replace hq5:=(hb.cell (p:=⟨w.heap.size,5,none⟩) HL.out).trans hq5;replace hq6:=(hb.cell (p:=⟨w.heap.size,6,none⟩) HL.out).trans hq6;have hs:=hb.size;have HL':=ad_ (Nat.lt_of_lt_of_le HL.out hs);clear hs;replace HB1:=ad_ (HB1.out.trans (hb.mono HB1.out.size));clear hb;clear HL;have HL:=HL';clear HL') | (go_at_call 106;(with_reducible refine (slices_Contains_int_int.calls k _ _ l5 (wrap64 (wrap64 (d - n) - 1)) true _ ?s1 ?s2 HK.out).mono ?_);(case s1=>exact Kd.C_below HR5.out (by repeat (first | (with_reducible first | exact HB1.out | apply below_alloc | apply pw_below_drewN | apply below_drew1) | exact HB1.out)));(case s2=>exact hc5);rintro e w' ⟨rfl,hd⟩;have hb:=hd.below;clear hd;replace hq5:=(hb.cell (p:=⟨w.heap.size,5,none⟩) HL.out).trans hq5;replace hq6:=(hb.cell (p:=⟨w.heap.size,6,none⟩) HL.out).trans hq6;have hs:=hb.size;have HL':=ad_ (Nat.lt_of_lt_of_le HL.out hs);clear hs;replace HB1:=ad_ (HB1.out.trans (hb.mono HB1.out.size));clear hb;clear HL;have HL:=HL';clear HL'))
     go_ret
     exact ⟨(by first | (simp_all;done) | rfl | (simp;done) | (simp [*];done)),(by repeat (first | (with_reducible first | exact HB1.out | apply below_alloc | apply pw_below_drewN | apply below_drew1) | exact HB1.out))⟩
    ·rw [if_neg e6] at h
     by_cases hlt:l6.length < 4611686018427387904
     ·rw [if_pos hlt] at h;obtain rfl:=Option.some.inj h;clear h
      go_enter Tryz.func108,Tryz.ntmps108
      go_wp2_with (first | (go_at_call 118;((with_reducible refine (recur_length.calls k y m n _ HN.out).mono ?_);rintro e w1 ⟨rfl,hb⟩;have hq5:=(hb.cell (p:=⟨w.heap.size,5,none⟩) (by simp)).trans ((blk_cell (blk_new w _) 5).trans rfl);have hq6:=(hb.cell (p:=⟨w.heap.size,6,none⟩) (by simp)).trans ((blk_cell (blk_new w _) 6).trans rfl);have hq6a:∀ o,(w1.alloc o).cell? ⟨w.heap.size,6,none⟩=some (.slice A6 l6.length c6):=(fun o=>((below_alloc (Below.refl w1.heap.size w1) o).cell (p:=⟨w.heap.size,6,none⟩) (by have:=hb.size;simp at this ⊢;omega)).trans hq6);have HB1:Aside0 (Below w.heap.size w w1):=⟨(below_alloc (Below.refl _ _) _).trans (hb.mono (by simp))⟩;have HL:Aside0 (w.heap.size < w1.heap.size):=⟨by have:=hb.size;simp at this;omega⟩;clear hb)) | (go_at_call 106;(with_reducible refine (slices_Contains_int_int.calls k _ _ l5 d false _ ?s1 ?s2 HT.out).mono ?_);(case s1=>exact Kd.C_below HR5.out (by repeat (first | (with_reducible first | exact HB1.out | apply below_alloc | apply pw_below_drewN | apply below_drew1) | exact HB1.out)));(case s2=>exact hc5);rintro e w' ⟨rfl,hd⟩;have hb:=hd.below;clear hd;replace hq5:=(hb.cell (p:=⟨w.heap.size,5,none⟩) HL.out).trans hq5;replace hq6:=(hb.cell (p:=⟨w.heap.size,6,none⟩) HL.out).trans hq6;have hs:=hb.size;have HL':=ad_ (Nat.lt_of_lt_of_le HL.out hs);clear hs;replace HB1:=ad_ (HB1.out.trans (hb.mono HB1.out.size));clear hb;clear HL;have HL:=HL';clear HL';clear hq6a;have hq6a:∀ o,(w'.alloc o).cell? ⟨w.heap.size,6,none⟩=some (.slice A6 l6.length c6):=(fun o=>((below_alloc (Below.refl w'.heap.size w') o).cell (p:=⟨w.heap.size,6,none⟩) HL.out).trans hq6)) | (go_at_call 106;(with_reducible refine (slices_Contains_int_int.calls k _ _ l5 (wrap64 (wrap64 (d - n) - 1)) true _ ?s1 ?s2 HK.out).mono ?_);(case s1=>exact Kd.C_below HR5.out (by repeat (first | (with_reducible first | exact HB1.out | apply below_alloc | apply pw_below_drewN | apply below_drew1) | exact HB1.out)));(case s2=>exact hc5);rintro e w' ⟨rfl,hd⟩;have hb:=hd.below;clear hd;replace hq5:=(hb.cell (p:=⟨w.heap.size,5,none⟩) HL.out).trans hq5;replace hq6:=(hb.cell (p:=⟨w.heap.size,6,none⟩) HL.out).trans hq6;have hs:=hb.size;have HL':=ad_ (Nat.lt_of_lt_of_le HL.out hs);clear hs;replace HB1:=ad_ (HB1.out.trans (hb.mono HB1.out.size));clear hb;clear HL;have HL:=HL';clear HL';clear hq6a;have hq6a:∀ o,(w'.alloc o).cell? ⟨w.heap.size,6,none⟩=some (.slice A6 l6.length c6):=(fun o=>((below_alloc (Below.refl w'.heap.size w') o).cell (p:=⟨w.heap.size,6,none⟩) HL.out).trans hq6)) | (go_at_call 119;((with_reducible refine (recur_Rule_may.contains_in wd (wrap64 ((wrap64 (d + 6)).tdiv 7)) (wrap64 (-wrap64 (wrap64 ((wrap64 (n - d)).tdiv 7) + 1))) A6 c6 l6 _ ?s1 hc6 hlt).mono ?_);(case s1=>exact Kd.C_below HR6.out (by repeat (first | (with_reducible first | exact HB1.out | apply below_alloc | apply pw_below_drewN | apply below_drew1) | exact HB1.out)));rintro e w2 ⟨rfl,hb2⟩)))
      go_ret
      refine ⟨val_,?_⟩
      have hz:=HB1.out.size;exact Below.trans (by repeat (first | (with_reducible first | exact HB1.out | apply below_alloc | apply pw_below_drewN | apply below_drew1) | exact HB1.out)) (hb2.mono (by first | (simp;omega) | (simp at *;omega)))
     ·rw [if_neg hlt] at h;cases h
   | false =>
    rw [if_neg (by decide)] at h;obtain rfl:=Option.some.inj h;clear h
    go_enter Tryz.func108,Tryz.ntmps108
    go_wp2_with (first | (go_at_call 118;((with_reducible refine (recur_length.calls k y m n _ HN.out).mono ?_);rintro e w1 ⟨rfl,hb⟩;have hq5:=(hb.cell (p:=⟨w.heap.size,5,none⟩) (by simp)).trans ((blk_cell (blk_new w _) 5).trans rfl);have hq6:=(hb.cell (p:=⟨w.heap.size,6,none⟩) (by simp)).trans ((blk_cell (blk_new w _) 6).trans rfl);have hq6a:∀ o,(w1.alloc o).cell? ⟨w.heap.size,6,none⟩=some (.slice A6 l6.length c6):=(fun o=>((below_alloc (Below.refl w1.heap.size w1) o).cell (p:=⟨w.heap.size,6,none⟩) (by have:=hb.size;simp at this ⊢;omega)).trans hq6);have HB1:Aside0 (Below w.heap.size w w1):=⟨(below_alloc (Below.refl _ _) _).trans (hb.mono (by simp))⟩;have HL:Aside0 (w.heap.size < w1.heap.size):=⟨by have:=hb.size;simp at this;omega⟩;clear hb)) | (go_at_call 106;(with_reducible refine (slices_Contains_int_int.calls k _ _ l5 d false _ ?s1 ?s2 HT.out).mono ?_);(case s1=>exact Kd.C_below HR5.out (by repeat (first | (with_reducible first | exact HB1.out | apply below_alloc | apply pw_below_drewN | apply below_drew1) | exact HB1.out)));(case s2=>exact hc5);rintro e w' ⟨rfl,hd⟩;have hb:=hd.below;clear hd;replace hq5:=(hb.cell (p:=⟨w.heap.size,5,none⟩) HL.out).trans hq5;replace hq6:=(hb.cell (p:=⟨w.heap.size,6,none⟩) HL.out).trans hq6;have hs:=hb.size;have HL':=ad_ (Nat.lt_of_lt_of_le HL.out hs);clear hs;replace HB1:=ad_ (HB1.out.trans (hb.mono HB1.out.size));clear hb;clear HL;have HL:=HL';clear HL';clear hq6a;have hq6a:∀ o,(w'.alloc o).cell? ⟨w.heap.size,6,none⟩=some (.slice A6 l6.length c6):=(fun o=>((below_alloc (Below.refl w'.heap.size w') o).cell (p:=⟨w.heap.size,6,none⟩) HL.out).trans hq6)) | (go_at_call 106;(with_reducible refine (slices_Contains_int_int.calls k _ _ l5 (wrap64 (wrap64 (d - n) - 1)) false _ ?s1 ?s2 HK.out).mono ?_);(case s1=>exact Kd.C_below HR5.out (by repeat (first | (with_reducible first | exact HB1.out | apply below_alloc | apply pw_below_drewN | apply below_drew1) | exact HB1.out)));(case s2=>exact hc5);rintro e w' ⟨rfl,hd⟩;have hb:=hd.below;clear hd;replace hq5:=(hb.cell (p:=⟨w.heap.size,5,none⟩) HL.out).trans hq5;replace hq6:=(hb.cell (p:=⟨w.heap.size,6,none⟩) HL.out).trans hq6;have hs:=hb.size;have HL':=ad_ (Nat.lt_of_lt_of_le HL.out hs);clear hs;replace HB1:=ad_ (HB1.out.trans (hb.mono HB1.out.size));clear hb;clear HL;have HL:=HL';clear HL';clear hq6a;have hq6a:∀ o,(w'.alloc o).cell? ⟨w.heap.size,6,none⟩=some (.slice A6 l6.length c6):=(fun o=>((below_alloc (Below.refl w'.heap.size w') o).cell (p:=⟨w.heap.size,6,none⟩) HL.out).trans hq6)))
    go_ret
    exact ⟨(by first | (simp_all;done) | rfl | (simp;done) | (simp [*];done)),(by repeat (first | (with_reducible first | exact HB1.out | apply below_alloc | apply pw_below_drewN | apply below_drew1) | exact HB1.out))⟩
def recur_Rule_may.f (k:Nat) (_ _ _ _:Int) (_ l5:List Int) (l6:List S91) (y m d wd first:Int):Option Bool:=recur_Rule_may.g k l5 l6 y m d wd first
theorem recur_Rule_may.calls (k:Nat) (a0_0 a0_1:Int) (a0_2 a0_3:Int) (A0_4:Option Addr) (c0_4:Nat) (l0_4:List Int) (A0_5:Option Addr) (c0_5:Nat) (l0_5:List Int) (A0_6:Option Addr) (c0_6:Nat) (l0_6:List (S91)) (a1 a2 a3 a4 a5:Int) (r:Bool) (w:World) (_hr0_4:Kd.C (Kd.int .i64) w A0_4 l0_4.length l0_4) (_hc0_4:l0_4.length≤c0_4) (hr0_5:Kd.C (Kd.int .i64) w A0_5 l0_5.length l0_5) (hc0_5:l0_5.length≤c0_5) (hr0_6:Kd.C k91 w A0_6 l0_6.length l0_6) (hc0_6:l0_6.length≤c0_6) (h:recur_Rule_may.f k a0_0 a0_1 a0_2 a0_3 l0_4 l0_5 l0_6 a1 a2 a3 a4 a5=some r) :
  Calls Tryz.prog 108 #[.agg #[.int .i64 a0_0,.int .i64 a0_1,.int .i64 a0_2,.int .i64 a0_3,.slice A0_4 l0_4.length c0_4,.slice A0_5 l0_5.length c0_5,.slice A0_6 l0_6.length c0_6],.int .i64 a1,.int .i64 a2,.int .i64 a3,.int .i64 a4,.int .i64 a5] w fun e w'=>e = .returned (.bool r)∧Below w.heap.size w w' :=
 recur_Rule_may.in_ k a0_0 a0_1 a0_2 a0_3 A0_4 A0_5 A0_6 _ c0_4 c0_5 c0_6 l0_5 l0_6 a1 a2 a3 a4 a5 r w hr0_5 hc0_5 hr0_6 hc0_6 h
end Go.Proofs.YtkgkblmeafhkfaaGreat.PH

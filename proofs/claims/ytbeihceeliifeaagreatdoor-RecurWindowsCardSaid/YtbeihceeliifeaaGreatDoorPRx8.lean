-- Written by a program of the session (wip/tools).
import Derived.Test.YtbeihceeliifeaaGreatDoorPRx0
import Derived.Test.YtbeihceeliifeaaGreatDoorPRx7
namespace Go.Proofs.YtbeihceeliifeaaGreatDoor.PR
open Go.RowKit Go.Proofs.YtbeihceeliifeaaGreatDoorW.PrintWords Go.Proofs.YtbeihceeliifeaaGreatDoorW.PrintLast Go.Proofs.YtbeihceeliifeaaGreatDoorW.PrintMore
attribute [local go_sem] max2_int min2_int max_two min_two max_three min_three max_four min_four   -- for this text's walks alone
set_option linter.unusedVariables false
set_option linter.unusedSimpArgs false

/-! ### recur_number: function 50 -/
/-- A number is told where it is one, written so. -/
def recur_number.f (a0:ByteArray):Option (Int×Bool) :=
 match Go.Lib.atoi a0.data.toList with
 | none=>none
 | some n=>if a0.size < 9∧(-1000≤n∧n≤1000)∧(⟨(Go.Lib.itoa n).toArray⟩:ByteArray)=a0 then some (n,true) else none
theorem recur_number.calls (a0:ByteArray) (r1:Int) (r2:Bool) (w:World) (h:recur_number.f a0=some (r1,r2)) (hG:Read.Glob w:=by exact Read.Glob.below HG.out bel_) :
  Calls Tryz.prog 50 #[.string a0] w fun e w'=>e = .returned (.tuple #[.int .i64 r1,.bool r2])∧Below w.heap.size w w':=by
 unfold recur_number.f at h
 split at h
 ·cases h
 ·rename_i n hn
  split at h
  ·rename_i c
   obtain ⟨rfl,rfl⟩:=Prod.mk.inj (Option.some.inj h);exact Read.number_main a0 n c.1 hn c.2.1 c.2.2 w hG
  ·cases h

/-! ### recur_weekday: function 73 -/
def recur_weekday.f (a0:Int):Option ByteArray:=if 0≤a0∧a0 < 7 then some (Read.weekT a0) else none
theorem recur_weekday.calls (a0:Int) (r:ByteArray) (w:World) (h:recur_weekday.f a0=some r) :
  Calls Tryz.prog 73 #[.int .i64 a0] w fun e w'=>e = .returned (.string r)∧Below w.heap.size w w':=by
 unfold recur_weekday.f at h
 split at h
 ·rename_i c
  obtain rfl:=Option.some.inj h;exact Read.weekday_main a0 c w
 ·cases h

/-! ### strings_CutPrefix: function 74 -/
def strings_CutPrefix.f (a0 a1:ByteArray):Option (ByteArray×Bool):=some (⟨(Go.Lib.trimPrefix a0.data.toList a1.data.toList).toArray⟩,Go.Lib.hasPrefix a0.data.toList a1.data.toList)
theorem strings_CutPrefix.calls (a0 a1:ByteArray) (r1:ByteArray) (r2:Bool) (w:World) (h:strings_CutPrefix.f a0 a1=some (r1,r2)) :
  Calls Tryz.prog 74 #[.string a0,.string a1] w fun e w'=>e = .returned (.tuple #[.string r1,.bool r2])∧∃ nd,w' = w.drewN nd:=by
 obtain ⟨rfl,rfl⟩:=Prod.mk.inj (Option.some.inj h)
 exact (Read.cut_main a0 a1 w).mono fun e w' h=>⟨h.1,0,h.2⟩

/-! ### recur_Weekday_75: function 75 -/
def recur_Weekday_75.f (l:List S53):Option (List S53):=if l.length≤1 then some l else none
theorem recur_Weekday_75.calls (P0_:Nat→Prop) (u9000_:Value) (l0:List S53) (r:List S53) (w0 w:World) (hB:Below w0.heap.size w0 w) (ho0:Kd.R k53 53 w w0.heap.size P0_ u9000_ l0) (h:recur_Weekday_75.f l0=some r) :
  Calls Tryz.prog 75 #[u9000_,.func (.func 33) #[] #[]] w fun e w'=>e = .returned (.tuple #[])∧Kd.R k53 53 w' w0.heap.size (fun k_=>(P0_ k_∨w.heap.size≤k_)) u9000_ r∧Below w0.heap.size w0 w'∧Kept w w' (fun k_=>P0_ k_):=by
 unfold recur_Weekday_75.f at h
 split at h
 ·rename_i c
  obtain rfl:=Option.some.inj h;obtain ⟨A,cap,rfl⟩:=Kd.R_slice ho0
  refine (Read.sort_small A l0.length cap _ c w).mono ?_
  rintro e w' ⟨rfl,hb⟩;exact ⟨rfl,Kd.R_mono (Kd.R_below ho0 hb) (fun _ h=>.inl h),hB.trans (hb.mono hB.size),⟨hb.size,fun k hk _=>hb.block k hk⟩⟩
 ·cases h

/-! ### recur_week: function 53 -/
mutual
def recur_week.l0:Nat→List (S53)→List ByteArray→Int→Int→Option ((List (S53))×Bool)
 | 0,_,_,_,_=>none
 | k + 1,x4,x13,x14,x15=>if x15 < x14 then (if 0≤x15 then (if x15 < (x13.length:Int) then (if ((rdOf ByteArray.empty x13 x15).size:Int) < 2 then (some (([]:List (S53)),false)) else (recur_week.l1 k x4 (rdOf ByteArray.empty x13 x15) x13 x14 x15 0 (-1) 0)) else (none)) else (none)) else ((recur_Weekday_75.f x4).bind fun t160=>(some (t160,true)))
def recur_week.l1:Nat→List (S53)→ByteArray→List ByteArray→Int→Int→Int→Int→Int→Option ((List (S53))×Bool)
 | 0,_,_,_,_,_,_,_,_=>none
 | k + 1,x4,x6,x13,x14,x15,x23,x163000,x163001=>if x23 < 7 then ((recur_weekday.f x23).bind fun t163=>(if 0≤(wrap64 ((x6.size:Int) - 2)) then (if (wrap64 ((x6.size:Int) - 2))≤(x6.size:Int) then (if t163.toList=(x6.extract ((wrap64 ((x6.size:Int) - 2)):Int).toNat x6.size).toList then (recur_week.l1 k x4 x6 x13 x14 x15 (wrap64 (x23 + 1)) x23 x163001) else (recur_week.l1 k x4 x6 x13 x14 x15 (wrap64 (x23 + 1)) x163000 x163001)) else (none)) else (none))) else (if 0≤(wrap64 ((x6.size:Int) - 2)) then (if (wrap64 ((x6.size:Int) - 2))≤(x6.size:Int) then (if (x6.extract 0 ((wrap64 ((x6.size:Int) - 2)):Int).toNat).toList=([]:List UInt8) then (if x4.length < 8796093022208 then (recur_week.l0 k (x4 ++ [(⟨x163000,x163001⟩:S53)]) x13 x14 (wrap64 (x15 + 1))) else (none)) else ((strings_CutPrefix.f (x6.extract 0 ((wrap64 ((x6.size:Int) - 2)):Int).toNat) (⟨#[43]⟩:ByteArray)).bind fun bt167=>((recur_number.f bt167.1).bind fun bt169=>(if bt169.2=true then (if bt169.1=0 then (some (([]:List (S53)),false)) else (if 0 < (x6.size:Int) then (if (bt x6 0)=43 then (if bt169.1 < 0 then (some (([]:List (S53)),false)) else (if x4.length < 8796093022208 then (recur_week.l0 k (x4 ++ [(⟨x163000,bt169.1⟩:S53)]) x13 x14 (wrap64 (x15 + 1))) else (none))) else (if x4.length < 8796093022208 then (recur_week.l0 k (x4 ++ [(⟨x163000,bt169.1⟩:S53)]) x13 x14 (wrap64 (x15 + 1))) else (none))) else (none))) else (some (([]:List (S53)),false)))))) else (none)) else (none))
end
def recur_week.f (k:Nat) (a0:ByteArray):Option ((List (S53))×Bool):=(strings_Split.f a0 (⟨#[44]⟩:ByteArray)).bind fun t157=>(recur_week.l0 k ([]:List (S53)) t157 (t157.length:Int) 0)
def recur_week.T11:Bool×List (List Nat×List Nat):=(true,[([],[]),([0],[0]),([],[]),([],[]),([3],[3]),([4],[4]),([2,5],[2,5]),([1,6],[1,6])])
def recur_week.B11:List Nat:=[0,1,0,0,8,24,60,127]
theorem recur_week.tab11:rtab .any (opsOf Tryz.f53 11)=recur_week.T11:=by kernel_rfl
theorem recur_week.bits11:waitsOk recur_week.T11.2 recur_week.B11=true:=by kernel_rfl
set_option maxHeartbeats 8000000 in
set_option maxRecDepth 100000 in
theorem recur_week.calls (k:Nat) (a0:ByteArray) (r1:List (S53)) (r2:Bool) (w:World) (h:recur_week.f k a0=some (r1,r2)) (hG:Read.Glob w:=by exact Read.Glob.below HG.out bel_) :
  Calls Tryz.prog 53 #[.string a0] w fun e w'=>∃ v0_:Value,e = .returned (.tuple #[v0_,.bool r2])∧Kd.R k53 53 w' w.heap.size (fun _=>True) v0_ r1∧Below w.heap.size w w':=by
 have hu53:=Tryz.underlying53;have HB:=ad_ (Below.refl w.heap.size w);have HG:=Aside0.mk hG;clear hG;have H:((strings_Split.f a0 (⟨#[44]⟩:ByteArray)).bind fun t157=>(recur_week.l0 k ([]:List (S53)) t157 (t157.length:Int) 0))=some (r1,r2):=h;clear h;obtain ⟨t157,A20,H⟩:=bnd_ H
 try dsimp only at H
 have A2:=ad_ A20;clear A20;have H':=ad_ H;clear H
 go_enter Tryz.func53,Tryz.ntmps53
 go_wp2_with (first | ((with_reducible refine gate_callee (f:=28) rfl ?_);refine goesL_ (some 13) rfl rfl Tryz.func28 (by kernel_rfl) rfl #[.string a0,.string (⟨#[44]⟩:ByteArray)] rfl arg_ ?_;(with_reducible refine (strings_Split.calls a0 (⟨#[44]⟩:ByteArray) t157 _ A2.out).mono ?_);rintro e w3 ⟨v158,rfl,ho0,hb⟩;refine ⟨_,rfl,?_⟩;have HO159:=ad_ (Kd.R_lower ho0 (below_size bel_));replace HB:=hbb_ hb;(try clear hb);(try clear hb2);(try clear hk);(try clear hi);(try clear ho0);obtain ⟨Ao4,co4,eo4⟩:=Kd.R_slice HO159.out;subst eo4))
 go_loopg [4,15] k (fun kq v4 v15 w'=>∃ (x4_1:List (S53)) (x15_1:Int),v15 = .int .i64 x15_1∧Aside0 (recur_week.l0 kq x4_1 t157 (t157.length:Int) x15_1=some (r1,r2))∧Aside0 (kq≤k)∧Aside0 (Kd.R k53 53 w' w.heap.size (fun _=>True) v4 x4_1)∧Aside0 (Kd.R Kd.string 9 w' w.heap.size (fun _=>True) (.slice Ao4 t157.length co4) t157)∧Aside0 (Below w.heap.size w w'))
 case atStart=>exact ⟨(([]:List (S53))),(0),val_,H',⟨Nat.le_refl _⟩,⟨by first | exact Kd.R_nil _ _ _ _ _ | exact Kd.N_nil _ _ _ _ _ | exact Kd.V_nil _ _ _ _ _ | exact Kd.Q_nil _ _ _ _ _ | exact Kd.S_nil _ _ _ _ _⟩,⟨rod_ HO159⟩,⟨bel_⟩⟩
 case round =>
  clear H';(try clear c2);(try clear p2);obtain ⟨x4_1,x15_1,rfl,HA,HK1,HO_4,HO_13,HB⟩:=hrel
  cases gk with
  | zero=>exact absurd HA.out (by simp [recur_week.l0])
  | succ k1 =>
   have H:=HA.out;clear HA
   simp only [recur_week.l0] at H
   by_cases c5:x15_1 < (t157.length:Int)
   ·rw [if_pos c5] at H;have c5b0:decide (x15_1 < (t157.length:Int))=true:=decide_eq_true c5;clear c5
    by_cases c6:0≤x15_1
    ·rw [if_pos c6] at H;have c6b0:decide (0≤x15_1)=true:=decide_eq_true c6;clear c6
     by_cases c7:x15_1 < (t157.length:Int)
     ·rw [if_pos c7] at H;have c7b0:decide (x15_1 < (t157.length:Int))=true:=decide_eq_true c7;clear c7
      by_cases c8:((rdOf ByteArray.empty t157 x15_1).size:Int) < 2
      ·rw [if_pos c8] at H;have c8b0:decide (((rdOf ByteArray.empty t157 x15_1).size:Int) < 2)=true:=decide_eq_true c8;have c8b1:decide ((rdOf ByteArray.empty t157 x15_1).size < 2)=true:=decide_eq_true (by omega);clear c8
       simp only [Option.some.injEq,Prod.mk.injEq] at H
       obtain ⟨rfl,rfl⟩:=H;have p161:0≤(x15_1:Int):=dec_;have q161:x15_1 < (t157.length:Int):=dec_;obtain ⟨ad161,e161,hx161_0⟩:=Kd.at_string (Kd.R_reads' HO_13.out).2.2 x15_1 p161 q161
       cases e161
       replace p161:=eq_true p161;replace q161:=eq_true q161
       go_wp2
       go_ret2
       exact ⟨_,ret_,by first | exact Kd.R_nil _ _ _ _ _ | exact Kd.N_nil _ _ _ _ _ | exact Kd.V_nil _ _ _ _ _ | exact Kd.Q_nil _ _ _ _ _ | exact Kd.S_nil _ _ _ _ _,bel_⟩
      ·rw [if_neg c8] at H;have c8b0:decide (((rdOf ByteArray.empty t157 x15_1).size:Int) < 2)=false:=decide_eq_false c8;have c8b1:decide ((rdOf ByteArray.empty t157 x15_1).size < 2)=false:=decide_eq_false (by omega);clear c8;have H':=ad_ H;clear H;have p161:0≤(x15_1:Int):=dec_;have q161:x15_1 < (t157.length:Int):=dec_;obtain ⟨ad161,e161,hx161_0⟩:=Kd.at_string (Kd.R_reads' HO_13.out).2.2 x15_1 p161 q161
       cases e161
       replace p161:=eq_true p161;replace q161:=eq_true q161
       go_wp2_with (first | ((with_reducible refine gate_dst (N:=7) rfl ?_);refine box_event ?hg (N:=7) ?hd (cs:=#[.int .i64 0,.int .i64 0]) (t:=53) ?hr ?_;(case hd=>rfl);(case hg=>rfl);(case hr=>first | (go_simp;done) | (go_simp;rfl));intro gb162 hg w9 hbox hb;replace HO_4:=ad_ (Kd.R_below (Kd.R_elderB (rod_ HO_4) gb162 (Nat.le_of_eq hg.symm)) hb);replace HO_13:=ad_ (Kd.R_below (rod_ HO_13) hb);have BK162:=ad_ (hbox);have GW162:=ad_ ((by rw [hg];exact (below_size bel_):w.heap.size≤gb162));have GE162:=ad_ ((by rw [hg];exact (below_size bel_):w.heap.size≤gb162));replace HB:=hbb_ hb;clear hb hbox hg;have hcz10_:=cells2_ BK162.out))
       go_loopg [23] k1 (fun kq v23 w'=>∃ (x23_2:Int) (x163000_2:Int),v23 = .int .i64 x23_2∧Aside0 (recur_week.l1 kq x4_1 (rdOf ByteArray.empty t157 x15_1) t157 (t157.length:Int) x15_1 x23_2 x163000_2 0=some (r1,r2))∧Aside0 (kq≤k1)∧Aside0 (Kd.R k53 53 w' w.heap.size (fun k_=>k_≠gb162) u4 x4_1)∧Aside0 (Kd.R Kd.string 9 w' w.heap.size (fun _=>True) (.slice (some ad161) t157.length co4) t157)∧Aside0 (w'.heap[gb162]? = some (.cells #[.int .i64 x163000_2,.int .i64 0] 53 (0,0)))∧Aside0 (Below w.heap.size w w'))
       case atStart=>exact ⟨(0),((-1)),val_,H',⟨Nat.le_refl _⟩,⟨by (with_reducible repeat (first | apply Kd.R_alloc | apply Kd.R_drewN | apply Kd.R_drew));exact Kd.R_mono (rfar_ (Kd.R_mono HO_4.out (fun k_ hk=>(⟨hk,hk.2⟩:_∧k_≠gb162)))) (fun _ hk=>hk.1.2)⟩,⟨by (with_reducible repeat (first | apply Kd.R_alloc | apply Kd.R_drewN | apply Kd.R_drew));exact Kd.R_mono (rfar_ (Kd.R_types HO_13.out BK162.out (by decide))) (fun _ hk=>trivial)⟩,⟨by refine blo_ ?_;refine blk_put (cs:=#[.int .i64 (-1),.int .i64 0]) ?_ 1 _ rfl;refine blo_ ?_;refine blk_put (cs:=#[.int .i64 0,.int .i64 0]) ?_ 0 _ rfl;exact blo_ BK162.out⟩,⟨belg_⟩⟩
       case round =>
        clear H';(try clear p1);(try clear q1);(try clear hx1);(try clear c2);(try clear p2);(try clear c5);(try clear c5b0);(try clear c6);(try clear c6b0);(try clear c7);(try clear c7b0);(try clear c8);(try clear c8b0);(try clear c8b1);(try clear hcz10_);(try clear hx161_0);(try clear p161);(try clear p2);(try clear q161);obtain ⟨x23_2,x163000_2,rfl,HA,HK2,HO_4,HO_13,BK162,HB⟩:=hrel
        cases gk with
        | zero=>exact absurd HA.out (by simp [recur_week.l1])
        | succ k2 =>
         have H:=HA.out;clear HA
         simp only [recur_week.l1] at H
         by_cases c11:x23_2 < 7
         ·rw [if_pos c11] at H;have c11b0:decide (x23_2 < 7)=true:=decide_eq_true c11;clear c11;obtain ⟨t163,A120,H⟩:=bnd_ H
          try dsimp only at H
          have A12:=ad_ A120;clear A120;obtain ⟨ji13,hji13⟩:∃ j_:Int,(wrap64 (((rdOf ByteArray.empty t157 x15_1).size:Int) - 2))=j_:=⟨_,rfl⟩
          replace H:(if 0≤(ji13) then (if (ji13)≤((rdOf ByteArray.empty t157 x15_1).size:Int) then (if t163.toList=((rdOf ByteArray.empty t157 x15_1).extract ((ji13):Int).toNat (rdOf ByteArray.empty t157 x15_1).size).toList then (recur_week.l1 k2 x4_1 (rdOf ByteArray.empty t157 x15_1) t157 (t157.length:Int) x15_1 (wrap64 (x23_2 + 1)) x23_2 0) else (recur_week.l1 k2 x4_1 (rdOf ByteArray.empty t157 x15_1) t157 (t157.length:Int) x15_1 (wrap64 (x23_2 + 1)) x163000_2 0)) else (none)) else (none))=some (r1,r2):=by first | (rw [hji13] at H;exact H) | (simp only [hji13] at H ⊢;exact H)
          (try rw [hji13] at A12)
          have hji13w:(IntKind.i64.wrap (((rdOf ByteArray.empty t157 x15_1).size:Int) - 2))=ji13:=(i64_w _).trans hji13
          by_cases c14:0≤(ji13)
          ·rw [if_pos c14] at H;have c14b0:=eq_true c14;have c14b1:decide (0≤(ji13))=true:=decide_eq_true c14;clear c14
           by_cases c15:(ji13)≤((rdOf ByteArray.empty t157 x15_1).size:Int)
           ·rw [if_pos c15] at H;have c15b0:=eq_true c15;have c15b1:decide ((ji13)≤((rdOf ByteArray.empty t157 x15_1).size:Int))=true:=decide_eq_true c15;clear c15
            by_cases c16:t163.toList=((rdOf ByteArray.empty t157 x15_1).extract ((ji13):Int).toNat (rdOf ByteArray.empty t157 x15_1).size).toList
            ·rw [if_pos c16] at H;have c16b0:(t163.toList == ((rdOf ByteArray.empty t157 x15_1).extract ((ji13):Int).toNat (rdOf ByteArray.empty t157 x15_1).size).toList)=true:=beq_iff_eq.mpr c16;have c16b1:(t163.toList != ((rdOf ByteArray.empty t157 x15_1).extract ((ji13):Int).toNat (rdOf ByteArray.empty t157 x15_1).size).toList)=false:=bne_eq_false_iff_eq.mpr c16;clear c16;have H':=ad_ H;clear H
             try go_wp2
             have n0_:=ad_ (Kd.R_drew HO_4.out);have n1_:=ad_ (Kd.R_drew HO_13.out);have n2_:=ad_ (blk_drew BK162.out);have n3_:=ad_ (below_drew1 HB.out);clear HO_4;clear HO_13;clear BK162;clear HB;have HO_4:=n0_;have HO_13:=n1_;have BK162:=n2_;have HB:=n3_;clear n0_ n1_ n2_ n3_
             refine start_ (n:=8) (S:=fun w'=>True) (ds:=[]) (.replicate 8 false) (by kernel_rfl) rfl rfl trivial (fun hHeld=>?_);refine with_tabW recur_week.tab11 recur_week.bits11 (fun HT_ HW_=>?_)
             generalize wr.drew=w17 at HO_4 HO_13 BK162 HB hHeld ⊢
             refine pure_ (i:=0) (N:=some 26) (v:=?_) (a':=?_) #[true,false,false,false,false,false,false,false] rfl rfl (any_of HT_.out (by kernel_rfl)) (fun _ _ _ h=>h) (Or.inl ⟨by rfl,?_⟩) ?_ ?_
             rotate_left
             ·intro w'
              go_simp
              with_reducible rfl
             rotate_left
             ·simp only [Act.put,List.setIfInBounds_toArray,List.set_cons_zero,List.set_cons_succ,i64_w,i32_w]
              rfl
             refine pure_ (i:=2) (N:=some 28) (v:=?_) (a':=?_) #[true,false,true,false,false,false,false,false] rfl rfl (any_of HT_.out (by kernel_rfl)) (fun _ _ _ h=>h) (Or.inl ⟨by rfl,?_⟩) ?_ ?_
             rotate_left
             ·intro w'
              go_simp
              with_reducible rfl
             rotate_left
             ·simp only [Act.put,List.setIfInBounds_toArray,List.set_cons_zero,List.set_cons_succ,i64_w,i32_w]
              rfl
             refine pure_ (i:=3) (N:=some 29) (v:=?_) (a':=?_) #[true,false,true,true,false,false,false,false] rfl rfl (any_of HT_.out (by kernel_rfl)) (fun _ _ _ h=>h) (Or.inl ⟨by rfl,?_⟩) ?_ ?_
             rotate_left
             ·intro w'
              go_simp
              with_reducible rfl
             rotate_left
             ·simp only [Act.put,List.setIfInBounds_toArray,List.set_cons_zero,List.set_cons_succ,i64_w,i32_w]
              rfl
             refine pure_ (i:=4) (N:=some 30) (v:=?_) (a':=?_) #[true,false,true,true,true,false,false,false] rfl rfl (any_of HT_.out (by kernel_rfl)) (fun _ _ _ h=>h) (Or.inl ⟨by rfl,?_⟩) ?_ ?_
             rotate_left
             ·intro w'
              go_simp
              with_reducible rfl
             rotate_left
             ·simp only [Act.put,List.setIfInBounds_toArray,List.set_cons_zero,List.set_cons_succ,i64_w,i32_w]
              rfl
             refine pure_ (i:=5) (N:=some 31) (v:=?_) (a':=?_) #[true,false,true,true,true,true,false,false] rfl rfl (any_of HT_.out (by kernel_rfl)) (fun _ _ _ h=>h) (Or.inl ⟨by rfl,?_⟩) ?_ ?_
             rotate_left
             ·intro w'
              go_simp
              with_reducible rfl
             rotate_left
             ·simp only [Act.put,List.setIfInBounds_toArray,List.set_cons_zero,List.set_cons_succ,i64_w,i32_w]
              rfl
             refine pure_ (i:=6) (N:=some 32) (v:=?_) (a':=?_) #[true,false,true,true,true,true,true,false] rfl rfl (any_of HT_.out (by kernel_rfl)) (fun _ _ _ h=>h) (Or.inl ⟨by rfl,?_⟩) ?_ ?_
             rotate_left
             ·intro w'
              go_simp
              with_reducible rfl
             rotate_left
             ·simp only [Act.put,List.setIfInBounds_toArray,List.set_cons_zero,List.set_cons_succ,i64_w,i32_w]
              rfl
             refine one_ (i:=1) (N:=some 27) #[true,true,true,true,true,true,true,false] rfl rfl (one_of HT_.out (by kernel_rfl)) (by decide) (fun K hK=>?_)
             refine goes_ Tryz.func73 (by kernel_rfl) rfl #[.int .i64 x23_2] (by rfl) rfl rfl arg_ ?_
             with_reducible refine (recur_weekday.calls x23_2 t163 _ A12.out).mono ?_
             rintro e w18 ⟨rfl,hb⟩
             refine ⟨_,rfl,?_⟩
             have n0_:=ad_ (Kd.R_below (rod_ HO_4) hb);have n1_:=ad_ (Kd.R_below (rod_ HO_13) hb);have n2_:=ad_ (blk_below (g:=gb162) (o:=.cells #[.int .i64 x163000_2,.int .i64 0] 53 (0,0)) (blo_ BK162.out) hb);have n3_:=hbb_ hb;clear HO_4;clear HO_13;clear BK162;clear HB;have HO_4:=n0_;have HO_13:=n1_;have BK162:=n2_;have HB:=n3_;clear n0_ n1_ n2_ n3_
             (try clear hb)
             (try clear hb2)
             (try clear hk)
             (try clear hi)
             refine hK.out _ _ trivial (fun hHeld=>?_)
             clear hK K
             refine norm_ (a':=?_) ?_ ?_
             rotate_left
             ·show Act.put _ (some 27) _=_
              simp only [Act.put,List.setIfInBounds_toArray,List.set_cons_zero,List.set_cons_succ,i64_w,i32_w]
              rfl
             refine pure_ (i:=7) (N:=some 33) (v:=?_) (a':=?_) (.replicate 8 true) rfl rfl (any_of HT_.out (by kernel_rfl)) (fun _ _ _ h=>h) (Or.inl ⟨by rfl,?_⟩) ?_ ?_
             rotate_left
             ·intro w'
              go_simp
              with_reducible rfl
             rotate_left
             ·simp only [Act.put,List.setIfInBounds_toArray,List.set_cons_zero,List.set_cons_succ,i64_w,i32_w]
              rfl
             refine done_ (done_of HT_.out (by kernel_rfl)) ?_
             have hcz19_:=cells2_ BK162.out
             try go_wp2
             go_roundg k2
             case measure=>have:=HK1.out;have:=HK2.out;omega
             case rel=>exact ⟨(wrap64 (x23_2 + 1)),(x23_2),val_,H',⟨by have:=HK1.out;have:=HK2.out;omega⟩,⟨by (with_reducible repeat (first | apply Kd.R_alloc | apply Kd.R_drewN | apply Kd.R_drew));exact Kd.R_mono (rfar_ (Kd.R_mono HO_4.out (fun k_ hk=>(⟨hk,hk⟩:_∧k_≠gb162)))) (fun _ hk=>hk.1)⟩,⟨by (with_reducible repeat (first | apply Kd.R_alloc | apply Kd.R_drewN | apply Kd.R_drew));exact Kd.R_mono (rfar_ (Kd.R_types HO_13.out BK162.out (by decide))) (fun _ hk=>trivial)⟩,⟨by refine blo_ ?_;refine blk_put (cs:=#[.int .i64 x163000_2,.int .i64 0]) ?_ 0 _ rfl;exact blo_ BK162.out⟩,⟨belg_⟩⟩
            ·rw [if_neg c16] at H;have c16b0:(t163.toList == ((rdOf ByteArray.empty t157 x15_1).extract ((ji13):Int).toNat (rdOf ByteArray.empty t157 x15_1).size).toList)=false:=beq_eq_false_iff_ne.mpr c16;have c16b1:(t163.toList != ((rdOf ByteArray.empty t157 x15_1).extract ((ji13):Int).toNat (rdOf ByteArray.empty t157 x15_1).size).toList)=true:=bne_iff_ne.mpr c16;have H':=ad_ H;clear H
             try go_wp2
             have n0_:=ad_ (Kd.R_drew HO_4.out);have n1_:=ad_ (Kd.R_drew HO_13.out);have n2_:=ad_ (blk_drew BK162.out);have n3_:=ad_ (below_drew1 HB.out);clear HO_4;clear HO_13;clear BK162;clear HB;have HO_4:=n0_;have HO_13:=n1_;have BK162:=n2_;have HB:=n3_;clear n0_ n1_ n2_ n3_
             refine start_ (n:=8) (S:=fun w'=>True) (ds:=[]) (.replicate 8 false) (by kernel_rfl) rfl rfl trivial (fun hHeld=>?_);refine with_tabW recur_week.tab11 recur_week.bits11 (fun HT_ HW_=>?_)
             generalize wr.drew=w20 at HO_4 HO_13 BK162 HB hHeld ⊢
             refine pure_ (i:=0) (N:=some 26) (v:=?_) (a':=?_) #[true,false,false,false,false,false,false,false] rfl rfl (any_of HT_.out (by kernel_rfl)) (fun _ _ _ h=>h) (Or.inl ⟨by rfl,?_⟩) ?_ ?_
             rotate_left
             ·intro w'
              go_simp
              with_reducible rfl
             rotate_left
             ·simp only [Act.put,List.setIfInBounds_toArray,List.set_cons_zero,List.set_cons_succ,i64_w,i32_w]
              rfl
             refine pure_ (i:=2) (N:=some 28) (v:=?_) (a':=?_) #[true,false,true,false,false,false,false,false] rfl rfl (any_of HT_.out (by kernel_rfl)) (fun _ _ _ h=>h) (Or.inl ⟨by rfl,?_⟩) ?_ ?_
             rotate_left
             ·intro w'
              go_simp
              with_reducible rfl
             rotate_left
             ·simp only [Act.put,List.setIfInBounds_toArray,List.set_cons_zero,List.set_cons_succ,i64_w,i32_w]
              rfl
             refine pure_ (i:=3) (N:=some 29) (v:=?_) (a':=?_) #[true,false,true,true,false,false,false,false] rfl rfl (any_of HT_.out (by kernel_rfl)) (fun _ _ _ h=>h) (Or.inl ⟨by rfl,?_⟩) ?_ ?_
             rotate_left
             ·intro w'
              go_simp
              with_reducible rfl
             rotate_left
             ·simp only [Act.put,List.setIfInBounds_toArray,List.set_cons_zero,List.set_cons_succ,i64_w,i32_w]
              rfl
             refine pure_ (i:=4) (N:=some 30) (v:=?_) (a':=?_) #[true,false,true,true,true,false,false,false] rfl rfl (any_of HT_.out (by kernel_rfl)) (fun _ _ _ h=>h) (Or.inl ⟨by rfl,?_⟩) ?_ ?_
             rotate_left
             ·intro w'
              go_simp
              with_reducible rfl
             rotate_left
             ·simp only [Act.put,List.setIfInBounds_toArray,List.set_cons_zero,List.set_cons_succ,i64_w,i32_w]
              rfl
             refine pure_ (i:=5) (N:=some 31) (v:=?_) (a':=?_) #[true,false,true,true,true,true,false,false] rfl rfl (any_of HT_.out (by kernel_rfl)) (fun _ _ _ h=>h) (Or.inl ⟨by rfl,?_⟩) ?_ ?_
             rotate_left
             ·intro w'
              go_simp
              with_reducible rfl
             rotate_left
             ·simp only [Act.put,List.setIfInBounds_toArray,List.set_cons_zero,List.set_cons_succ,i64_w,i32_w]
              rfl
             refine pure_ (i:=6) (N:=some 32) (v:=?_) (a':=?_) #[true,false,true,true,true,true,true,false] rfl rfl (any_of HT_.out (by kernel_rfl)) (fun _ _ _ h=>h) (Or.inl ⟨by rfl,?_⟩) ?_ ?_
             rotate_left
             ·intro w'
              go_simp
              with_reducible rfl
             rotate_left
             ·simp only [Act.put,List.setIfInBounds_toArray,List.set_cons_zero,List.set_cons_succ,i64_w,i32_w]
              rfl
             refine one_ (i:=1) (N:=some 27) #[true,true,true,true,true,true,true,false] rfl rfl (one_of HT_.out (by kernel_rfl)) (by decide) (fun K hK=>?_)
             refine goes_ Tryz.func73 (by kernel_rfl) rfl #[.int .i64 x23_2] (by rfl) rfl rfl arg_ ?_
             with_reducible refine (recur_weekday.calls x23_2 t163 _ A12.out).mono ?_
             rintro e w21 ⟨rfl,hb⟩
             refine ⟨_,rfl,?_⟩
             have n0_:=ad_ (Kd.R_below (rod_ HO_4) hb);have n1_:=ad_ (Kd.R_below (rod_ HO_13) hb);have n2_:=ad_ (blk_below (g:=gb162) (o:=.cells #[.int .i64 x163000_2,.int .i64 0] 53 (0,0)) (blo_ BK162.out) hb);have n3_:=hbb_ hb;clear HO_4;clear HO_13;clear BK162;clear HB;have HO_4:=n0_;have HO_13:=n1_;have BK162:=n2_;have HB:=n3_;clear n0_ n1_ n2_ n3_
             (try clear hb)
             (try clear hb2)
             (try clear hk)
             (try clear hi)
             refine hK.out _ _ trivial (fun hHeld=>?_)
             clear hK K
             refine norm_ (a':=?_) ?_ ?_
             rotate_left
             ·show Act.put _ (some 27) _=_
              simp only [Act.put,List.setIfInBounds_toArray,List.set_cons_zero,List.set_cons_succ,i64_w,i32_w]
              rfl
             refine pure_ (i:=7) (N:=some 33) (v:=?_) (a':=?_) (.replicate 8 true) rfl rfl (any_of HT_.out (by kernel_rfl)) (fun _ _ _ h=>h) (Or.inl ⟨by rfl,?_⟩) ?_ ?_
             rotate_left
             ·intro w'
              go_simp
              with_reducible rfl
             rotate_left
             ·simp only [Act.put,List.setIfInBounds_toArray,List.set_cons_zero,List.set_cons_succ,i64_w,i32_w]
              rfl
             refine done_ (done_of HT_.out (by kernel_rfl)) ?_
             try go_wp2
             go_roundg k2
             case measure=>have:=HK1.out;have:=HK2.out;omega
             case rel=>exact ⟨(wrap64 (x23_2 + 1)),(x163000_2),val_,H',⟨by have:=HK1.out;have:=HK2.out;omega⟩,⟨rod_ HO_4⟩,⟨rod_ HO_13⟩,⟨blo_ BK162.out⟩,⟨belg_⟩⟩
           ·rw [if_neg c15] at H;exact absurd H (by simp)
          ·rw [if_neg c14] at H;exact absurd H (by simp)
         ·rw [if_neg c11] at H;have c11b0:decide (x23_2 < 7)=false:=decide_eq_false c11;clear c11;obtain ⟨ji22,hji22⟩:∃ j_:Int,(wrap64 (((rdOf ByteArray.empty t157 x15_1).size:Int) - 2))=j_:=⟨_,rfl⟩
          replace H:(if 0≤(ji22) then (if (ji22)≤((rdOf ByteArray.empty t157 x15_1).size:Int) then (if ((rdOf ByteArray.empty t157 x15_1).extract 0 ((ji22):Int).toNat).toList=([]:List UInt8) then (if x4_1.length < 8796093022208 then (recur_week.l0 k2 (x4_1 ++ [(⟨x163000_2,0⟩:S53)]) t157 (t157.length:Int) (wrap64 (x15_1 + 1))) else (none)) else ((strings_CutPrefix.f ((rdOf ByteArray.empty t157 x15_1).extract 0 ((ji22):Int).toNat) (⟨#[43]⟩:ByteArray)).bind fun bt167=>((recur_number.f bt167.1).bind fun bt169=>(if bt169.2=true then (if bt169.1=0 then (some (([]:List (S53)),false)) else (if 0 < ((rdOf ByteArray.empty t157 x15_1).size:Int) then (if (bt (rdOf ByteArray.empty t157 x15_1) 0)=43 then (if bt169.1 < 0 then (some (([]:List (S53)),false)) else (if x4_1.length < 8796093022208 then (recur_week.l0 k2 (x4_1 ++ [(⟨x163000_2,bt169.1⟩:S53)]) t157 (t157.length:Int) (wrap64 (x15_1 + 1))) else (none))) else (if x4_1.length < 8796093022208 then (recur_week.l0 k2 (x4_1 ++ [(⟨x163000_2,bt169.1⟩:S53)]) t157 (t157.length:Int) (wrap64 (x15_1 + 1))) else (none))) else (none))) else (some (([]:List (S53)),false)))))) else (none)) else (none))=some (r1,r2):=by first | (rw [hji22] at H;exact H) | (simp only [hji22] at H ⊢;exact H)
          have hji22w:(IntKind.i64.wrap (((rdOf ByteArray.empty t157 x15_1).size:Int) - 2))=ji22:=(i64_w _).trans hji22
          by_cases c23:0≤(ji22)
          ·rw [if_pos c23] at H;have c23b0:=eq_true c23;have c23b1:decide (0≤(ji22))=true:=decide_eq_true c23;clear c23
           by_cases c24:(ji22)≤((rdOf ByteArray.empty t157 x15_1).size:Int)
           ·rw [if_pos c24] at H;have c24b0:=eq_true c24;have c24b1:decide ((ji22)≤((rdOf ByteArray.empty t157 x15_1).size:Int))=true:=decide_eq_true c24;clear c24
            by_cases c25:((rdOf ByteArray.empty t157 x15_1).extract 0 ((ji22):Int).toNat).toList=([]:List UInt8)
            ·rw [if_pos c25] at H;have c25b0:(((rdOf ByteArray.empty t157 x15_1).extract 0 ((ji22):Int).toNat).toList == ([]:List UInt8))=true:=beq_iff_eq.mpr c25;have c25b1:(((rdOf ByteArray.empty t157 x15_1).extract 0 ((ji22):Int).toNat).toList != ([]:List UInt8))=false:=bne_eq_false_iff_eq.mpr c25;clear c25
             by_cases c26:x4_1.length < 8796093022208
             ·rw [if_pos c26] at H;have LMc26:=Aside0.mk c26;clear c26;obtain ⟨y164,hy164⟩:∃ y_:List (S53),y_=(x4_1 ++ [(⟨x163000_2,0⟩:S53)]):=⟨_,rfl⟩
              replace H:(recur_week.l0 k2 y164 t157 (t157.length:Int) (wrap64 (x15_1 + 1)))=some (r1,r2):=by first | (rw [hy164];with_reducible exact H) | (have H2_:=(Option.bind_some _ _).symm.trans H;rw [hy164];with_reducible exact H2_) | (have H2_:=(Option.bind_some _ _).symm.trans H;with_reducible exact H2_) | with_reducible exact H | (rw [hy164];exact H) | exact H
              have Ny164:=Aside0.mk hy164;clear hy164;have H':=ad_ H;clear H;have hcz27_:=cells2_ BK162.out
              go_wp2_with (first | ((with_reducible refine gate_builtin (b:=.append) (xs:=#[.tmp 71,.tmp 73]) rfl ?_);at_builtin;refine Kd.R_append k53 (w0:=w) w.heap.size rfl (.tmp 71) (.tmp 73) 23 53 (.agg #[(.int .i64 0),(.int .i64 0)]) 16 rfl Tryz.underlying23 info53 rfl (by decide) (by omega) u4 x4_1 (⟨x163000_2,0⟩:S53) [.int .i64 x163000_2,.int .i64 0] (fun k_=>k_≠gb162) (fun _=>False) rfl rfl ?aP (fun _ hk=>hk.elim) ?aF ?aO ?aB ?aS ?aL ?_;(case aP=>exact k53_mkM _ _ _ (⟨x163000_2,0⟩:S53));(case aB=>exact belg_);(case aF=>exact (fun k_ hk=>Kd.freshB (g:=gb162) (o:=.cells #[.int .i64 x163000_2,.int .i64 0] 53 (0,0)) (blo_ BK162.out) k_ hk));(case aO=>exact (rod_ HO_4));(case aS=>exact (below_size belg_));(case aL=>have:=LMc26.out;omega);intro v165 w28 ho hb hg hat;rw [← Ny164.out] at ho;replace HO_13:=ad_ (Kd.R_over' (rod_ HO_13) (Kd.R_typed (rod_ HO_4)) (by decide) hg);replace BK162:=ad_ (blk_grown (g:=gb162) (o:=.cells #[.int .i64 x163000_2,.int .i64 0] 53 (0,0)) (blo_ BK162.out) hg (Kd.R_away HO_4.out (fun _ hk=>hk)));replace HB:=ad_ (hb);have HO166:=ad_ (ho);clear HO_4;clear ho hb hg hat))
              go_roundg k2
              case measure=>have:=HK1.out;have:=HK2.out;omega
              case rel=>exact ⟨(y164),(wrap64 (x15_1 + 1)),val_,H',⟨by have:=HK1.out;have:=HK2.out;omega⟩,⟨by (with_reducible repeat (first | apply Kd.R_alloc | apply Kd.R_drewN | apply Kd.R_drew));exact Kd.R_mono HO166.out (fun _ hk=>trivial)⟩,⟨rod_ HO_13⟩,⟨belg_⟩⟩
             ·rw [if_neg c26] at H;exact absurd H (by simp)
            ·rw [if_neg c25] at H;have c25b0:(((rdOf ByteArray.empty t157 x15_1).extract 0 ((ji22):Int).toNat).toList == ([]:List UInt8))=false:=beq_eq_false_iff_ne.mpr c25;have c25b1:(((rdOf ByteArray.empty t157 x15_1).extract 0 ((ji22):Int).toNat).toList != ([]:List UInt8))=true:=bne_iff_ne.mpr c25;replace H:=Option.bind_eq_some_iff.mp H;obtain ⟨⟨t167,t168⟩,A290,H⟩:=H
             try dsimp only at H
             have A29:=ad_ A290;clear A290;replace H:=Option.bind_eq_some_iff.mp H;obtain ⟨⟨t169,t170⟩,A300,H⟩:=H
             try dsimp only at H
             have A30:=ad_ A300;clear A300
             by_cases c31:t170=true
             ·subst c31;replace H:=ifp_ H
              by_cases c32:t169=0
              ·rw [if_pos c32] at H;have c32b0:(t169 == 0)=true:=beq_iff_eq.mpr c32;have c32b1:(t169 != 0)=false:=bne_eq_false_iff_eq.mpr c32;clear c32
               simp only [Option.some.injEq,Prod.mk.injEq] at H
               obtain ⟨rfl,rfl⟩:=H
               go_wp2_with (first | ((with_reducible refine gate_callee (f:=74) rfl ?_);refine goesL_ (some 46) rfl rfl Tryz.func74 (by kernel_rfl) rfl #[.string ((rdOf ByteArray.empty t157 x15_1).extract 0 ((ji22):Int).toNat),.string (⟨#[43]⟩:ByteArray)] rfl (by (try simp only [List.map_toArray,List.map_cons,List.map_nil]);first | done | (simp only [hji22];rfl) | rfl | (simp only [List.length_drop,List.length_take];rfl)) ?_;(with_reducible refine (strings_CutPrefix.calls ((rdOf ByteArray.empty t157 x15_1).extract 0 ((ji22):Int).toNat) (⟨#[43]⟩:ByteArray) t167 t168 _ A29.out).mono ?_);rintro e w' ⟨rfl,⟨nd,rfl⟩⟩;refine ⟨_,rfl,?_⟩) | ((with_reducible refine gate_callee (f:=50) rfl ?_);refine goesL_ (some 51) rfl rfl Tryz.func50 (by kernel_rfl) rfl #[.string t167] rfl arg_ ?_;(with_reducible refine (recur_number.calls t167 t169 true _ A30.out).mono ?_);rintro e w33 ⟨rfl,hb⟩;refine ⟨_,rfl,?_⟩;replace HO_4:=ad_ (Kd.R_below (rod_ HO_4) hb);replace HO_13:=ad_ (Kd.R_below (rod_ HO_13) hb);replace BK162:=ad_ (blk_below (g:=gb162) (o:=.cells #[.int .i64 x163000_2,.int .i64 0] 53 (0,0)) (blo_ BK162.out) hb);replace HB:=hbb_ hb;clear hb))
               go_ret2
               exact ⟨_,by first | rfl | (simp [errW_none,errW_some] <;> rfl) | (simp only [← hji22];first | rfl | (simp [errW_none,errW_some] <;> rfl)) | (simp [*,errW_none,errW_some] <;> rfl),by first | exact Kd.R_nil _ _ _ _ _ | exact Kd.N_nil _ _ _ _ _ | exact Kd.V_nil _ _ _ _ _ | exact Kd.Q_nil _ _ _ _ _ | exact Kd.S_nil _ _ _ _ _,belg_⟩
              ·rw [if_neg c32] at H;have c32b0:(t169 == 0)=false:=beq_eq_false_iff_ne.mpr c32;have c32b1:(t169 != 0)=true:=bne_iff_ne.mpr c32
               by_cases c34:0 < ((rdOf ByteArray.empty t157 x15_1).size:Int)
               ·rw [if_pos c34] at H;have c34b0:decide (0 < ((rdOf ByteArray.empty t157 x15_1).size:Int))=true:=decide_eq_true c34;have c34b1:decide (0 < (rdOf ByteArray.empty t157 x15_1).size)=true:=decide_eq_true (by omega);clear c34
                by_cases c36:(bt (rdOf ByteArray.empty t157 x15_1) 0)=43
                ·rw [if_pos c36] at H;have c36b0:((bt (rdOf ByteArray.empty t157 x15_1) 0) == 43)=true:=beq_iff_eq.mpr c36;have c36b1:((bt (rdOf ByteArray.empty t157 x15_1) 0) != 43)=false:=bne_eq_false_iff_eq.mpr c36;clear c36
                 by_cases c37:t169 < 0
                 ·rw [if_pos c37] at H;have c37b0:decide (t169 < 0)=true:=decide_eq_true c37;clear c37
                  simp only [Option.some.injEq,Prod.mk.injEq] at H
                  obtain ⟨rfl,rfl⟩:=H
                  go_wp2_with (first | ((with_reducible refine gate_callee (f:=74) rfl ?_);refine goesL_ (some 46) rfl rfl Tryz.func74 (by kernel_rfl) rfl #[.string ((rdOf ByteArray.empty t157 x15_1).extract 0 ((ji22):Int).toNat),.string (⟨#[43]⟩:ByteArray)] rfl (by (try simp only [List.map_toArray,List.map_cons,List.map_nil]);first | done | (simp only [hji22];rfl) | rfl | (simp only [List.length_drop,List.length_take];rfl)) ?_;(with_reducible refine (strings_CutPrefix.calls ((rdOf ByteArray.empty t157 x15_1).extract 0 ((ji22):Int).toNat) (⟨#[43]⟩:ByteArray) t167 t168 _ A29.out).mono ?_);rintro e w' ⟨rfl,⟨nd,rfl⟩⟩;refine ⟨_,rfl,?_⟩) | ((with_reducible refine gate_callee (f:=50) rfl ?_);refine goesL_ (some 51) rfl rfl Tryz.func50 (by kernel_rfl) rfl #[.string t167] rfl arg_ ?_;(with_reducible refine (recur_number.calls t167 t169 true _ A30.out).mono ?_);rintro e w38 ⟨rfl,hb⟩;refine ⟨_,rfl,?_⟩;replace HO_4:=ad_ (Kd.R_below (rod_ HO_4) hb);replace HO_13:=ad_ (Kd.R_below (rod_ HO_13) hb);replace BK162:=ad_ (blk_below (g:=gb162) (o:=.cells #[.int .i64 x163000_2,.int .i64 0] 53 (0,0)) (blo_ BK162.out) hb);replace HB:=hbb_ hb;clear hb;have p35:0≤(0:Int):=(by omega);have q35:0 < (rdOf ByteArray.empty t157 x15_1).size:=(by have:(0:Int) < ((rdOf ByteArray.empty t157 x15_1).size:Int):=dec_;omega);have hx35:∀ h:0 < (rdOf ByteArray.empty t157 x15_1).size,(((rdOf ByteArray.empty t157 x15_1)[0]'h).toNat:Int)=bt (rdOf ByteArray.empty t157 x15_1) 0:=bt_at (rdOf ByteArray.empty t157 x15_1) 0;clear p35;have qi35:(0 < ((rdOf ByteArray.empty t157 x15_1).size:Int))=True:=eq_true (dec_);replace q35:=eq_true q35))
                  go_ret2
                  exact ⟨_,by first | rfl | (simp [errW_none,errW_some] <;> rfl) | (simp only [← hji22];first | rfl | (simp [errW_none,errW_some] <;> rfl)) | (simp [*,errW_none,errW_some] <;> rfl),by first | exact Kd.R_nil _ _ _ _ _ | exact Kd.N_nil _ _ _ _ _ | exact Kd.V_nil _ _ _ _ _ | exact Kd.Q_nil _ _ _ _ _ | exact Kd.S_nil _ _ _ _ _,belg_⟩
                 ·rw [if_neg c37] at H;have c37b0:decide (t169 < 0)=false:=decide_eq_false c37;clear c37
                  by_cases c39:x4_1.length < 8796093022208
                  ·rw [if_pos c39] at H;have LMc39:=Aside0.mk c39;clear c39;obtain ⟨y171,hy171⟩:∃ y_:List (S53),y_=(x4_1 ++ [(⟨x163000_2,t169⟩:S53)]):=⟨_,rfl⟩
                   replace H:(recur_week.l0 k2 y171 t157 (t157.length:Int) (wrap64 (x15_1 + 1)))=some (r1,r2):=by first | (rw [hy171];with_reducible exact H) | (have H2_:=(Option.bind_some _ _).symm.trans H;rw [hy171];with_reducible exact H2_) | (have H2_:=(Option.bind_some _ _).symm.trans H;with_reducible exact H2_) | with_reducible exact H | (rw [hy171];exact H) | exact H
                   have Ny171:=Aside0.mk hy171;clear hy171;have H':=ad_ H;clear H
                   go_wp2_with (first | ((with_reducible refine gate_callee (f:=74) rfl ?_);refine goesL_ (some 46) rfl rfl Tryz.func74 (by kernel_rfl) rfl #[.string ((rdOf ByteArray.empty t157 x15_1).extract 0 ((ji22):Int).toNat),.string (⟨#[43]⟩:ByteArray)] rfl (by (try simp only [List.map_toArray,List.map_cons,List.map_nil]);first | done | (simp only [hji22];rfl) | rfl | (simp only [List.length_drop,List.length_take];rfl)) ?_;(with_reducible refine (strings_CutPrefix.calls ((rdOf ByteArray.empty t157 x15_1).extract 0 ((ji22):Int).toNat) (⟨#[43]⟩:ByteArray) t167 t168 _ A29.out).mono ?_);rintro e w' ⟨rfl,⟨nd,rfl⟩⟩;refine ⟨_,rfl,?_⟩;(try (rw [drewN_self wr];generalize hq_:World.drewN wr _=wr;have n0_:Aside0 (Kd.R Kd.string 9 wr w.heap.size (fun _=>True) (.slice (some ad161) t157.length co4) t157):=⟨by rw [← hq_];exact (rod_ HO_13)⟩;have n1_:Aside0 (Kd.R k53 53 wr w.heap.size (fun k_=>k_≠gb162) u4 x4_1):=⟨by rw [← hq_];exact (rod_ HO_4)⟩;have n2_:Aside0 (wr.heap[gb162]? = some (.cells #[.int .i64 x163000_2,.int .i64 0] 53 (0,0))):=⟨by rw [← hq_];exact (blo_ BK162.out)⟩;have n3_:Aside0 (Below w.heap.size w wr):=⟨by rw [← hq_];exact belg_⟩;clear HO_13 HO_4 BK162 HB hq_;have HO_13:=n0_;have HO_4:=n1_;have BK162:=n2_;have HB:=n3_;clear n0_ n1_ n2_ n3_))) | ((with_reducible refine gate_callee (f:=50) rfl ?_);refine goesL_ (some 51) rfl rfl Tryz.func50 (by kernel_rfl) rfl #[.string t167] rfl arg_ ?_;(with_reducible refine (recur_number.calls t167 t169 true _ A30.out).mono ?_);rintro e w40 ⟨rfl,hb⟩;refine ⟨_,rfl,?_⟩;replace HO_4:=ad_ (Kd.R_below (rod_ HO_4) hb);replace HO_13:=ad_ (Kd.R_below (rod_ HO_13) hb);replace BK162:=ad_ (blk_below (g:=gb162) (o:=.cells #[.int .i64 x163000_2,.int .i64 0] 53 (0,0)) (blo_ BK162.out) hb);replace HB:=hbb_ hb;clear hb;have p35:0≤(0:Int):=(by omega);have q35:0 < (rdOf ByteArray.empty t157 x15_1).size:=(by have:(0:Int) < ((rdOf ByteArray.empty t157 x15_1).size:Int):=dec_;omega);have hx35:∀ h:0 < (rdOf ByteArray.empty t157 x15_1).size,(((rdOf ByteArray.empty t157 x15_1)[0]'h).toNat:Int)=bt (rdOf ByteArray.empty t157 x15_1) 0:=bt_at (rdOf ByteArray.empty t157 x15_1) 0;clear p35;have qi35:(0 < ((rdOf ByteArray.empty t157 x15_1).size:Int))=True:=eq_true (dec_);replace q35:=eq_true q35;have hcz41_:=cells2_ BK162.out) | ((with_reducible refine gate_builtin (b:=.append) (xs:=#[.tmp 71,.tmp 73]) rfl ?_);at_builtin;refine Kd.R_append k53 (w0:=w) w.heap.size rfl (.tmp 71) (.tmp 73) 23 53 (.agg #[(.int .i64 0),(.int .i64 0)]) 16 rfl Tryz.underlying23 info53 rfl (by decide) (by omega) u4 x4_1 (⟨x163000_2,t169⟩:S53) [.int .i64 x163000_2,.int .i64 t169] (fun k_=>k_≠gb162) (fun _=>False) rfl (by first | (go_simp;done) | (go_simp;rfl)) ?aP (fun _ hk=>hk.elim) ?aF ?aO ?aB ?aS ?aL ?_;(case aP=>exact k53_mkM _ _ _ (⟨x163000_2,t169⟩:S53));(case aB=>exact belg_);(case aF=>exact (fun k_ hk=>Kd.freshB (g:=gb162) (o:=.cells #[.int .i64 x163000_2,.int .i64 t169] 53 (0,0)) (by refine blo_ ?_;refine blk_put (cs:=#[.int .i64 x163000_2,.int .i64 0]) ?_ 1 _ rfl;exact blo_ BK162.out) k_ hk));(case aO=>exact (by (with_reducible repeat (first | apply Kd.R_alloc | apply Kd.R_drewN | apply Kd.R_drew));exact Kd.R_mono (rfar_ (Kd.R_mono HO_4.out (fun k_ hk=>(⟨hk,hk⟩:_∧k_≠gb162)))) (fun _ hk=>hk.1)));(case aS=>exact (below_size belg_));(case aL=>have:=LMc39.out;omega);intro v172 w42 ho hb hg hat;rw [← Ny171.out] at ho;replace HO_13:=ad_ (Kd.R_over' (by (with_reducible repeat (first | apply Kd.R_alloc | apply Kd.R_drewN | apply Kd.R_drew));exact (Kd.R_mono (rfar_ (Kd.R_types HO_13.out BK162.out (by decide))) (fun _ h_=>h_.1))) (Kd.R_typed (by (with_reducible repeat (first | apply Kd.R_alloc | apply Kd.R_drewN | apply Kd.R_drew));exact (Kd.R_mono (rfar_ (Kd.R_mono HO_4.out (fun k_ hk=>(⟨hk,hk⟩:_∧k_≠gb162)))) (fun _ h_=>h_.1)))) (by decide) hg);replace BK162:=ad_ (blk_grown (g:=gb162) (o:=.cells #[.int .i64 x163000_2,.int .i64 t169] 53 (0,0)) (by refine blo_ ?_;refine blk_put (cs:=#[.int .i64 x163000_2,.int .i64 0]) ?_ 1 _ rfl;exact blo_ BK162.out) hg (Kd.R_away HO_4.out (fun _ hk=>hk)));replace HB:=ad_ (hb);have HO173:=ad_ (ho);clear HO_4;clear ho hb hg hat))
                   go_roundg k2
                   case measure=>have:=HK1.out;have:=HK2.out;omega
                   case rel=>exact ⟨(y171),(wrap64 (x15_1 + 1)),val_,H',⟨by have:=HK1.out;have:=HK2.out;omega⟩,⟨by (with_reducible repeat (first | apply Kd.R_alloc | apply Kd.R_drewN | apply Kd.R_drew));exact Kd.R_mono HO173.out (fun _ hk=>trivial)⟩,⟨rod_ HO_13⟩,⟨belg_⟩⟩
                  ·rw [if_neg c39] at H;exact absurd H (by simp)
                ·rw [if_neg c36] at H;have c36b0:((bt (rdOf ByteArray.empty t157 x15_1) 0) == 43)=false:=beq_eq_false_iff_ne.mpr c36;have c36b1:((bt (rdOf ByteArray.empty t157 x15_1) 0) != 43)=true:=bne_iff_ne.mpr c36
                 by_cases c43:x4_1.length < 8796093022208
                 ·rw [if_pos c43] at H;have LMc43:=Aside0.mk c43;clear c43;obtain ⟨y174,hy174⟩:∃ y_:List (S53),y_=(x4_1 ++ [(⟨x163000_2,t169⟩:S53)]):=⟨_,rfl⟩
                  replace H:(recur_week.l0 k2 y174 t157 (t157.length:Int) (wrap64 (x15_1 + 1)))=some (r1,r2):=by first | (rw [hy174];with_reducible exact H) | (have H2_:=(Option.bind_some _ _).symm.trans H;rw [hy174];with_reducible exact H2_) | (have H2_:=(Option.bind_some _ _).symm.trans H;with_reducible exact H2_) | with_reducible exact H | (rw [hy174];exact H) | exact H
                  have Ny174:=Aside0.mk hy174;clear hy174;have H':=ad_ H;clear H
                  go_wp2_with (first | ((with_reducible refine gate_callee (f:=74) rfl ?_);refine goesL_ (some 46) rfl rfl Tryz.func74 (by kernel_rfl) rfl #[.string ((rdOf ByteArray.empty t157 x15_1).extract 0 ((ji22):Int).toNat),.string (⟨#[43]⟩:ByteArray)] rfl (by (try simp only [List.map_toArray,List.map_cons,List.map_nil]);first | done | (simp only [hji22];rfl) | rfl | (simp only [List.length_drop,List.length_take];rfl)) ?_;(with_reducible refine (strings_CutPrefix.calls ((rdOf ByteArray.empty t157 x15_1).extract 0 ((ji22):Int).toNat) (⟨#[43]⟩:ByteArray) t167 t168 _ A29.out).mono ?_);rintro e w' ⟨rfl,⟨nd,rfl⟩⟩;refine ⟨_,rfl,?_⟩;(try (rw [drewN_self wr];generalize hq_:World.drewN wr _=wr;have n0_:Aside0 (Kd.R Kd.string 9 wr w.heap.size (fun _=>True) (.slice (some ad161) t157.length co4) t157):=⟨by rw [← hq_];exact (rod_ HO_13)⟩;have n1_:Aside0 (Kd.R k53 53 wr w.heap.size (fun k_=>k_≠gb162) u4 x4_1):=⟨by rw [← hq_];exact (rod_ HO_4)⟩;have n2_:Aside0 (wr.heap[gb162]? = some (.cells #[.int .i64 x163000_2,.int .i64 0] 53 (0,0))):=⟨by rw [← hq_];exact (blo_ BK162.out)⟩;have n3_:Aside0 (Below w.heap.size w wr):=⟨by rw [← hq_];exact belg_⟩;clear HO_13 HO_4 BK162 HB hq_;have HO_13:=n0_;have HO_4:=n1_;have BK162:=n2_;have HB:=n3_;clear n0_ n1_ n2_ n3_))) | ((with_reducible refine gate_callee (f:=50) rfl ?_);refine goesL_ (some 51) rfl rfl Tryz.func50 (by kernel_rfl) rfl #[.string t167] rfl arg_ ?_;(with_reducible refine (recur_number.calls t167 t169 true _ A30.out).mono ?_);rintro e w44 ⟨rfl,hb⟩;refine ⟨_,rfl,?_⟩;replace HO_4:=ad_ (Kd.R_below (rod_ HO_4) hb);replace HO_13:=ad_ (Kd.R_below (rod_ HO_13) hb);replace BK162:=ad_ (blk_below (g:=gb162) (o:=.cells #[.int .i64 x163000_2,.int .i64 0] 53 (0,0)) (blo_ BK162.out) hb);replace HB:=hbb_ hb;clear hb;have p35:0≤(0:Int):=(by omega);have q35:0 < (rdOf ByteArray.empty t157 x15_1).size:=(by have:(0:Int) < ((rdOf ByteArray.empty t157 x15_1).size:Int):=dec_;omega);have hx35:∀ h:0 < (rdOf ByteArray.empty t157 x15_1).size,(((rdOf ByteArray.empty t157 x15_1)[0]'h).toNat:Int)=bt (rdOf ByteArray.empty t157 x15_1) 0:=bt_at (rdOf ByteArray.empty t157 x15_1) 0;clear p35;have qi35:(0 < ((rdOf ByteArray.empty t157 x15_1).size:Int))=True:=eq_true (dec_);replace q35:=eq_true q35;have hcz45_:=cells2_ BK162.out) | ((with_reducible refine gate_builtin (b:=.append) (xs:=#[.tmp 71,.tmp 73]) rfl ?_);at_builtin;refine Kd.R_append k53 (w0:=w) w.heap.size rfl (.tmp 71) (.tmp 73) 23 53 (.agg #[(.int .i64 0),(.int .i64 0)]) 16 rfl Tryz.underlying23 info53 rfl (by decide) (by omega) u4 x4_1 (⟨x163000_2,t169⟩:S53) [.int .i64 x163000_2,.int .i64 t169] (fun k_=>k_≠gb162) (fun _=>False) rfl (by first | (go_simp;done) | (go_simp;rfl)) ?aP (fun _ hk=>hk.elim) ?aF ?aO ?aB ?aS ?aL ?_;(case aP=>exact k53_mkM _ _ _ (⟨x163000_2,t169⟩:S53));(case aB=>exact belg_);(case aF=>exact (fun k_ hk=>Kd.freshB (g:=gb162) (o:=.cells #[.int .i64 x163000_2,.int .i64 t169] 53 (0,0)) (by refine blo_ ?_;refine blk_put (cs:=#[.int .i64 x163000_2,.int .i64 0]) ?_ 1 _ rfl;exact blo_ BK162.out) k_ hk));(case aO=>exact (by (with_reducible repeat (first | apply Kd.R_alloc | apply Kd.R_drewN | apply Kd.R_drew));exact Kd.R_mono (rfar_ (Kd.R_mono HO_4.out (fun k_ hk=>(⟨hk,hk⟩:_∧k_≠gb162)))) (fun _ hk=>hk.1)));(case aS=>exact (below_size belg_));(case aL=>have:=LMc43.out;omega);intro v175 w46 ho hb hg hat;rw [← Ny174.out] at ho;replace HO_13:=ad_ (Kd.R_over' (by (with_reducible repeat (first | apply Kd.R_alloc | apply Kd.R_drewN | apply Kd.R_drew));exact (Kd.R_mono (rfar_ (Kd.R_types HO_13.out BK162.out (by decide))) (fun _ h_=>h_.1))) (Kd.R_typed (by (with_reducible repeat (first | apply Kd.R_alloc | apply Kd.R_drewN | apply Kd.R_drew));exact (Kd.R_mono (rfar_ (Kd.R_mono HO_4.out (fun k_ hk=>(⟨hk,hk⟩:_∧k_≠gb162)))) (fun _ h_=>h_.1)))) (by decide) hg);replace BK162:=ad_ (blk_grown (g:=gb162) (o:=.cells #[.int .i64 x163000_2,.int .i64 t169] 53 (0,0)) (by refine blo_ ?_;refine blk_put (cs:=#[.int .i64 x163000_2,.int .i64 0]) ?_ 1 _ rfl;exact blo_ BK162.out) hg (Kd.R_away HO_4.out (fun _ hk=>hk)));replace HB:=ad_ (hb);have HO176:=ad_ (ho);clear HO_4;clear ho hb hg hat))
                  go_roundg k2
                  case measure=>have:=HK1.out;have:=HK2.out;omega
                  case rel=>exact ⟨(y174),(wrap64 (x15_1 + 1)),val_,H',⟨by have:=HK1.out;have:=HK2.out;omega⟩,⟨by (with_reducible repeat (first | apply Kd.R_alloc | apply Kd.R_drewN | apply Kd.R_drew));exact Kd.R_mono HO176.out (fun _ hk=>trivial)⟩,⟨rod_ HO_13⟩,⟨belg_⟩⟩
                 ·rw [if_neg c43] at H;exact absurd H (by simp)
               ·rw [if_neg c34] at H;exact absurd H (by simp)
             ·replace c31:=Bool.eq_false_iff.mpr c31;subst c31;replace H:=ifn_ H
              simp only [Option.some.injEq,Prod.mk.injEq] at H
              obtain ⟨rfl,rfl⟩:=H
              go_wp2_with (first | ((with_reducible refine gate_callee (f:=74) rfl ?_);refine goesL_ (some 46) rfl rfl Tryz.func74 (by kernel_rfl) rfl #[.string ((rdOf ByteArray.empty t157 x15_1).extract 0 ((ji22):Int).toNat),.string (⟨#[43]⟩:ByteArray)] rfl (by (try simp only [List.map_toArray,List.map_cons,List.map_nil]);first | done | (simp only [hji22];rfl) | rfl | (simp only [List.length_drop,List.length_take];rfl)) ?_;(with_reducible refine (strings_CutPrefix.calls ((rdOf ByteArray.empty t157 x15_1).extract 0 ((ji22):Int).toNat) (⟨#[43]⟩:ByteArray) t167 t168 _ A29.out).mono ?_);rintro e w' ⟨rfl,⟨nd,rfl⟩⟩;refine ⟨_,rfl,?_⟩) | ((with_reducible refine gate_callee (f:=50) rfl ?_);refine goesL_ (some 51) rfl rfl Tryz.func50 (by kernel_rfl) rfl #[.string t167] rfl arg_ ?_;(with_reducible refine (recur_number.calls t167 t169 false _ A30.out).mono ?_);rintro e w47 ⟨rfl,hb⟩;refine ⟨_,rfl,?_⟩;replace HO_4:=ad_ (Kd.R_below (rod_ HO_4) hb);replace HO_13:=ad_ (Kd.R_below (rod_ HO_13) hb);replace BK162:=ad_ (blk_below (g:=gb162) (o:=.cells #[.int .i64 x163000_2,.int .i64 0] 53 (0,0)) (blo_ BK162.out) hb);replace HB:=hbb_ hb;clear hb))
              go_ret2
              exact ⟨_,by first | rfl | (simp [errW_none,errW_some] <;> rfl) | (simp only [← hji22];first | rfl | (simp [errW_none,errW_some] <;> rfl)) | (simp [*,errW_none,errW_some] <;> rfl),by first | exact Kd.R_nil _ _ _ _ _ | exact Kd.N_nil _ _ _ _ _ | exact Kd.V_nil _ _ _ _ _ | exact Kd.Q_nil _ _ _ _ _ | exact Kd.S_nil _ _ _ _ _,belg_⟩
           ·rw [if_neg c24] at H;exact absurd H (by simp)
          ·rw [if_neg c23] at H;exact absurd H (by simp)
     ·rw [if_neg c7] at H;exact absurd H (by simp)
    ·rw [if_neg c6] at H;exact absurd H (by simp)
   ·rw [if_neg c5] at H;have c5b0:decide (x15_1 < (t157.length:Int))=false:=decide_eq_false c5;clear c5;obtain ⟨t160,A480,H⟩:=bnd_ H
    try dsimp only at H
    have A48:=ad_ A480;clear A480
    simp only [Option.some.injEq,Prod.mk.injEq] at H
    obtain ⟨rfl,rfl⟩:=H;obtain ⟨Ao49,co49,eo49⟩:=Kd.R_slice HO_4.out;subst eo49
    go_wp2_with (first | ((with_reducible refine gate_callee (f:=75) rfl ?_);refine goesL_ (some 77) rfl rfl Tryz.func75 (by kernel_rfl) rfl #[.slice Ao49 x4_1.length co49,.func (.func 33) #[] #[]] rfl arg_ ?_;(with_reducible refine (recur_Weekday_75.calls (fun k_=>some k_=(.slice Ao49 x4_1.length co49:Value).ownBlock) (.slice Ao49 x4_1.length co49) x4_1  t160 w _ ?side1 ?side2 A48.out).mono ?_);(case side1=>repeat (first | (with_reducible first | exact HB.out | apply below_alloc | apply pw_below_drewN | apply below_drew1) | exact HB.out));(case side2=>exact Kd.R_tight rfl HO_4.out);rintro e w50 ⟨rfl,hy0,hb,hkp⟩;refine ⟨_,rfl,?_⟩;replace HO_13:=ad_ (Kd.R_mono (ok':=fun k_=>True) (Kd.R_keptB ((Kd.R_apart' HO_13.out (Kd.R_typed HO_4.out) (by decide))) hkp (fun k_ hk_ hs_=>(hk_.2) hs_)) (fun k_ hk_=>trivial));replace HO_4:=ad_ (Kd.R_reok rfl hy0 (fun k_ e_=>HO_4.out.1 k_ e_));replace HB:=ad_ (hb);(try clear hb);(try clear hkp);(try clear hy0)))
    go_ret2
    exact ⟨_,ret_,by (with_reducible repeat (first | apply Kd.R_alloc | apply Kd.R_drewN | apply Kd.R_drew));exact HO_4.out,bel_⟩

end Go.Proofs.YtbeihceeliifeaaGreatDoor.PR

-- Written by a program of the session (wip/tools).
import Derived.Test.YtkgkblmeafhkfaaGreatPHx0
import Derived.Test.YtkgkblmeafhkfaaGreatPHx10
namespace Go.Proofs.YtkgkblmeafhkfaaGreat.PH
open Go.RowKit Go.Proofs.YtkgkblmeafhkfaaGreatW.PrintWords Go.Proofs.YtkgkblmeafhkfaaGreatW.PrintLast Go.Proofs.YtkgkblmeafhkfaaGreatW.PrintMore
attribute [local go_sem] max2_int min2_int max_two min_two max_three min_three max_four min_four   -- for this text's walks alone
set_option linter.unusedVariables false
set_option linter.unusedSimpArgs false

mutual
def series_Series_originals.j0:Nat→Int→Int→Int→List Int→Int→Int→Bool→Int→Int→Int→Int→List Int→List Int→List (S91)→List Int→List Int→List (S64)→Option (List Int×Int)
 | 0,_,_,_,_,_,_,_,_,_,_,_,_,_,_,_,_,_=>none
 | k + 1,x1,x2,x7,x8,x310000,x310001,x310002,x310003,x310004,x310005,x310006,x310007,x310008,x310009,x310010,x310011,x310012=>(some (([x310000]:List Int):List Int)).bind fun y314=>(if y314.length + x310011.length < 17592186044416 then ((some (y314 ++ x310011:List Int)).bind fun y317=>(series_Series_originals.l0 k x1 x2 x7 x8 y317 (y317.length:Int) 0)) else (none))
def series_Series_originals.l0:Nat→Int→Int→Int→List Int→List Int→Int→Int→Option (List Int×Int)
 | 0,_,_,_,_,_,_,_=>none
 | k + 1,x1,x2,x7,x8,x40,x41,x42=>if x42 < x41 then (if 0≤x42 then (if x42 < (x40.length:Int) then (if (rd x40 x42) ≥ x1 then (if (rd x40 x42) < x2 then (if x8.length < 17592186044416 then (series_Series_originals.l0 k x1 x2 x7 (x8 ++ [rd x40 x42]) x40 x41 (wrap64 (x42 + 1))) else (none)) else (series_Series_originals.l0 k x1 x2 x7 x8 x40 x41 (wrap64 (x42 + 1)))) else (series_Series_originals.l0 k x1 x2 x7 x8 x40 x41 (wrap64 (x42 + 1)))) else (none)) else (none)) else (some (x8,0))
end
def series_Series_originals.pre (k:Nat) (a0_0 a0_1:Int) (a0_2:Bool) (a0_3 a0_4:Int) (a0_5 a0_6:Int) (l0_7 l0_8:List Int) (l0_9:List (S91)) (l0_10 l0_11:List Int) (l0_12:List (S64)) (a1 a2:Int):Option (List Int×Int):=if a0_2=true then ((recur_Expand.f k a0_3 a0_4 a0_5 a0_6 l0_7 l0_8 l0_9 a0_0 a1 a2 1000).bind fun bt310=>(if bt310.2=0 then (if (bt310.1.length:Int)=1000 then (some (([]:List Int),5)) else (series_Series_originals.j0 k a1 a2 0 bt310.1 a0_0 a0_1 a0_2 a0_3 a0_4 a0_5 a0_6 l0_7 l0_8 l0_9 l0_10 l0_11 l0_12)) else (some (([]:List Int),bt310.2)))) else (series_Series_originals.j0 k a1 a2 0 ([]:List Int) a0_0 a0_1 a0_2 a0_3 a0_4 a0_5 a0_6 l0_7 l0_8 l0_9 l0_10 l0_11 l0_12)
/-- What is left behind the map: those that are not left out, sorted, each once. -/
def series_Series_originals.tail (left out:List Int):Option (List Int×Int) :=
 if out.length < 4611686018427387904∧left.length < 4398046511104∧(∀ x∈out,wrap64 x=x)∧(∀ x∈left,wrap64 x=x) then some (Orig.dedup (Sort.isort (fun x y=>decide (x < y)) (out.filter fun x=>!left.contains x)),0) else none
def series_Series_originals.f (k:Nat) (a0_0 a0_1:Int) (a0_2:Bool) (a0_3 a0_4:Int) (a0_5 a0_6:Int) (l0_7 l0_8:List Int) (l0_9:List (S91)) (l0_10 l0_11:List Int) (l0_12:List (S64)) (a1 a2:Int):Option (List Int×Int) :=
 (series_Series_originals.pre k a0_0 a0_1 a0_2 a0_3 a0_4 a0_5 a0_6 l0_7 l0_8 l0_9 l0_10 l0_11 l0_12 a1 a2).bind fun p=>if p.2=0 then series_Series_originals.tail l0_10 p.1 else some p
theorem series_Series_originals.err {T:Option (List Int×Int)} {p1 r1:List Int} {p2 r2:Int} (h:(if p2=0 then T else some (p1,p2))=some (r1,r2)) (hn:p2≠0):p1=r1∧p2=r2:=by
 rw [if_neg hn] at h;exact Prod.mk.inj (Option.some.inj h)
theorem series_Series_originals.done {left out r1:List Int} {r2:Int} (h:(if (0:Int)=0 then series_Series_originals.tail left out else some (out,0))=some (r1,r2)) :
  out.length < 4611686018427387904∧left.length < 4398046511104∧(∀ x∈out,wrap64 x=x)∧(∀ x∈left,wrap64 x=x)∧r1=Orig.dedup (Sort.sortInts (out.filter fun x=>!left.contains x))∧r2=0:=by
 rw [if_pos rfl] at h
 unfold series_Series_originals.tail at h
 split at h
 ·rename_i c
  obtain ⟨e1,e2⟩:=Prod.mk.inj (Option.some.inj h);exact ⟨c.1,c.2.1,c.2.2.1,c.2.2.2,by rw [Sort.sortInts_eq];exact e1.symm,e2.symm⟩
 ·cases h
set_option maxHeartbeats 8000000 in
set_option maxRecDepth 100000 in
theorem series_Series_originals.calls (k:Nat) (a0_0 a0_1:Int) (a0_2:Bool) (a0_3 a0_4:Int) (a0_5 a0_6:Int) (A0_7:Option Addr) (c0_7:Nat) (l0_7:List Int) (A0_8:Option Addr) (c0_8:Nat) (l0_8:List Int) (A0_9:Option Addr) (c0_9:Nat) (l0_9:List (S91)) (A0_10:Option Addr) (c0_10:Nat) (l0_10:List Int) (A0_11:Option Addr) (c0_11:Nat) (l0_11:List Int) (A0_12:Option Addr) (c0_12:Nat) (l0_12:List (S64)) (a1 a2:Int) (r1:List Int) (r2:Int) (w:World) (hr0_7:Kd.C (Kd.int .i64) w A0_7 l0_7.length l0_7) (hc0_7:l0_7.length≤c0_7) (hr0_8:Kd.C (Kd.int .i64) w A0_8 l0_8.length l0_8) (hc0_8:l0_8.length≤c0_8) (hr0_9:Kd.C k91 w A0_9 l0_9.length l0_9) (hc0_9:l0_9.length≤c0_9) (hr0_10:Kd.C (Kd.int .i64) w A0_10 l0_10.length l0_10) (hc0_10:l0_10.length≤c0_10) (hr0_11:Kd.C (Kd.int .i64) w A0_11 l0_11.length l0_11) (hc0_11:l0_11.length≤c0_11) (hr0_12:Kd.C k64 w A0_12 l0_12.length l0_12) (hc0_12:l0_12.length≤c0_12) (h:series_Series_originals.f k a0_0 a0_1 a0_2 a0_3 a0_4 a0_5 a0_6 l0_7 l0_8 l0_9 l0_10 l0_11 l0_12 a1 a2=some (r1,r2)) :
  Calls Tryz.prog 27 #[.agg #[.int .i64 a0_0,.int .i64 a0_1,.bool a0_2,.int .i64 a0_3,.int .i64 a0_4,.int .i64 a0_5,.int .i64 a0_6,.slice A0_7 l0_7.length c0_7,.slice A0_8 l0_8.length c0_8,.slice A0_9 l0_9.length c0_9,.slice A0_10 l0_10.length c0_10,.slice A0_11 l0_11.length c0_11,.slice A0_12 l0_12.length c0_12],.int .i64 a1,.int .i64 a2] w fun e w'=>∃ v0_:Value,e = .returned (.tuple #[v0_,.int .i64 r2])∧Kd.R (Kd.int .i64) 2 w' w.heap.size (fun _=>True) v0_ r1∧Below w.heap.size w w':=by
 have hu29:=Tryz.underlying29;have hu25:=Tryz.underlying25;have HR0_7:=Aside0.mk hr0_7;have HC0_7:=Aside0.mk hc0_7;clear hr0_7 hc0_7;have HR0_8:=Aside0.mk hr0_8;have HC0_8:=Aside0.mk hc0_8;clear hr0_8 hc0_8;have HR0_9:=Aside0.mk hr0_9;have HC0_9:=Aside0.mk hc0_9;clear hr0_9 hc0_9;have HR0_10:=Aside0.mk hr0_10;have HC0_10:=Aside0.mk hc0_10;clear hr0_10 hc0_10;have HR0_11:=Aside0.mk hr0_11;have HC0_11:=Aside0.mk hc0_11;clear hr0_11 hc0_11;have HR0_12:=Aside0.mk hr0_12;have HC0_12:=Aside0.mk hc0_12;clear hr0_12 hc0_12;have HB:=ad_ (Below.refl w.heap.size w)
 unfold series_Series_originals.f at h
 obtain ⟨⟨p1,p2⟩,h,hT⟩:=Option.bind_eq_some_iff.mp h;have HT:Aside0 ((if p2=0 then series_Series_originals.tail l0_10 p1 else some (p1,p2))=some (r1,r2)):=⟨hT⟩;clear hT;have H:(if a0_2=true then ((recur_Expand.f k a0_3 a0_4 a0_5 a0_6 l0_7 l0_8 l0_9 a0_0 a1 a2 1000).bind fun bt310=>(if bt310.2=0 then (if (bt310.1.length:Int)=1000 then (some (([]:List Int),5)) else (series_Series_originals.j0 k a1 a2 0 bt310.1 a0_0 a0_1 a0_2 a0_3 a0_4 a0_5 a0_6 l0_7 l0_8 l0_9 l0_10 l0_11 l0_12)) else (some (([]:List Int),bt310.2)))) else (series_Series_originals.j0 k a1 a2 0 ([]:List Int) a0_0 a0_1 a0_2 a0_3 a0_4 a0_5 a0_6 l0_7 l0_8 l0_9 l0_10 l0_11 l0_12))=some (p1,p2):=h;clear h;have HC4:=Aside0.mk H;clear H
 go_enter Tryz.func27,Tryz.ntmps27
 go_upto_if 17 with (first | ((with_reducible refine gate_dst (N:=3) rfl ?_);refine bx_ 3 29 ?_;intro gb309 hg w5 hbox hb;have BK309:=ad_ (hbox);have GW309:=gw_ w hg;have GE309:=GW309;replace HB:=hbb_ hb;clear hb hbox hg;have hcz6_:=cells13_ BK309.out))
 (try simp only [Act.put,List.setIfInBounds_toArray,List.set_cons_zero,List.set_cons_succ])
 go_cut [7,8] (fun v7 v8 wc=>∃ (kq:Nat) (x7_3:Int) (x8_3:List Int),v7 = .int .i64 x7_3∧Aside0 (series_Series_originals.j0 kq a1 a2 x7_3 x8_3 a0_0 a0_1 a0_2 a0_3 a0_4 a0_5 a0_6 l0_7 l0_8 l0_9 l0_10 l0_11 l0_12=some (p1,p2))∧Aside0 (kq≤k)∧Aside0 (Kd.R (Kd.int .i64) 2 wc w.heap.size (fun _=>True) v8 x8_3)∧Aside0 (wc.heap[gb309]? = some (.cells #[.int .i64 a0_0,.int .i64 a0_1,.bool a0_2,.int .i64 a0_3,.int .i64 a0_4,.int .i64 a0_5,.int .i64 a0_6,(.slice A0_7 l0_7.length c0_7),(.slice A0_8 l0_8.length c0_8),(.slice A0_9 l0_9.length c0_9),(.slice A0_10 l0_10.length c0_10),(.slice A0_11 l0_11.length c0_11),(.slice A0_12 l0_12.length c0_12)] 29 (0,0)))∧Aside0 (Below w.heap.size w wc))
 case first =>
  have H:=HC4.out;clear HC4
  replace H:=db_ H;rcases H with ⟨rfl,H⟩|⟨rfl,H⟩
  ·replace H:=Option.bind_eq_some_iff.mp H;obtain ⟨⟨t310,t313⟩,A80,H⟩:=H
   try dsimp only at H
   have A8:=ad_ A80;clear A80
   replace H:=de_ H;rcases H with ⟨H,-,c9b0,c9b1⟩|⟨H,c9,c9b0,c9b1⟩
   ·(first | rw [c9b0] | (simp only [i64_w,i32_w];rw [c9b0]) | skip)
    replace H:=de_ H;rcases H with ⟨H,-,c10b0,c10b1⟩|⟨H,c10,c10b0,c10b1⟩
    ·simp only [Option.some.injEq,Prod.mk.injEq] at H
     obtain ⟨rfl,rfl⟩:=H;obtain ⟨e1_,e2_⟩:=series_Series_originals.err HT.out (by first | decide | exact beq_eq_false_iff_ne.mp (by assumption) | exact bne_iff_ne.mp (by assumption));subst e1_;subst e2_;clear HT;have hcz11_:=cells13_ BK309.out
     go_wp2_with (first | ((with_reducible refine gate_callee (f:=46) rfl ?_);refine gl_ 25 Tryz.func46 (recur_Expand.calls k a0_3 a0_4 a0_5 a0_6 _ _ l0_7 _ _ l0_8 _ _ l0_9 a0_0 a1 a2 1000 t310 t313 _ ?_ ?_ ?_ ?_ ?_ ?_ A8.out) ?_;(iterate 6 exact sc_);rintro e w12 ⟨v311,rfl,ho0,hb⟩;refine ⟨_,rfl,?_⟩;have HO312:=ad_ (Kd.R_lower ho0 (below_size belg_));replace BK309:=bkb_ BK309 hb;replace HB:=hbb_ hb;clear hb ho0;obtain ⟨Ao13,co13,eo13⟩:=Kd.R_slice HO312.out;subst eo13))
     go_ret2
     exact ⟨_,ret_,by first | exact Kd.R_nil _ _ _ _ _ | exact Kd.N_nil _ _ _ _ _ | exact Kd.V_nil _ _ _ _ _ | exact Kd.Q_nil _ _ _ _ _ | exact Kd.S_nil _ _ _ _ _,belg_⟩
    ·have H':=ad_ H;clear H;have hcz14_:=cells13_ BK309.out
     go_wp2_with (first | ((with_reducible refine gate_callee (f:=46) rfl ?_);refine gl_ 25 Tryz.func46 (recur_Expand.calls k a0_3 a0_4 a0_5 a0_6 _ _ l0_7 _ _ l0_8 _ _ l0_9 a0_0 a1 a2 1000 t310 t313 _ ?_ ?_ ?_ ?_ ?_ ?_ A8.out) ?_;(iterate 6 exact sc_);rintro e w15 ⟨v311,rfl,ho0,hb⟩;refine ⟨_,rfl,?_⟩;have HO312:=ad_ (Kd.R_lower ho0 (below_size belg_));replace BK309:=bkb_ BK309 hb;replace HB:=hbb_ hb;clear hb ho0;obtain ⟨Ao16,co16,eo16⟩:=Kd.R_slice HO312.out;subst eo16))
     go_meet
     case rel=>exact ⟨_,(0),(t310),val_,H',⟨by first | omega | exact Nat.le_refl _⟩,⟨rod_ HO312⟩,⟨blo_ BK309.out⟩,⟨belg_⟩⟩
   ·(first | rw [c9b0] | (simp only [i64_w,i32_w];rw [c9b0]) | skip)
    simp only [Option.some.injEq,Prod.mk.injEq] at H
    obtain ⟨rfl,rfl⟩:=H;obtain ⟨e1_,e2_⟩:=series_Series_originals.err HT.out (by first | decide | exact beq_eq_false_iff_ne.mp (by assumption) | exact bne_iff_ne.mp (by assumption));subst e1_;subst e2_;clear HT;have hcz17_:=cells13_ BK309.out
    go_wp2_with (first | ((with_reducible refine gate_callee (f:=46) rfl ?_);refine gl_ 25 Tryz.func46 (recur_Expand.calls k a0_3 a0_4 a0_5 a0_6 _ _ l0_7 _ _ l0_8 _ _ l0_9 a0_0 a1 a2 1000 t310 t313 _ ?_ ?_ ?_ ?_ ?_ ?_ A8.out) ?_;(iterate 6 exact sc_);rintro e w18 ⟨v311,rfl,ho0,hb⟩;refine ⟨_,rfl,?_⟩;have HO312:=ad_ (Kd.R_lower ho0 (below_size belg_));replace BK309:=bkb_ BK309 hb;replace HB:=hbb_ hb;clear hb ho0))
    go_ret2
    exact ⟨_,ret_,by first | exact Kd.R_nil _ _ _ _ _ | exact Kd.N_nil _ _ _ _ _ | exact Kd.V_nil _ _ _ _ _ | exact Kd.Q_nil _ _ _ _ _ | exact Kd.S_nil _ _ _ _ _,belg_⟩
  ·have H':=ad_ H;clear H
   go_wp2
   go_meet
   case rel=>exact ⟨_,(0),(([]:List Int)),val_,H',⟨by first | omega | exact Nat.le_refl _⟩,⟨by first | exact Kd.R_nil _ _ _ _ _ | exact Kd.N_nil _ _ _ _ _ | exact Kd.V_nil _ _ _ _ _ | exact Kd.Q_nil _ _ _ _ _ | exact Kd.S_nil _ _ _ _ _⟩,⟨blo_ BK309.out⟩,⟨belg_⟩⟩
 case rest =>
  clear HC4;clear hcz6_;(try clear p2);obtain ⟨kq,x7_3,x8_3,rfl,HA,HJ3,HO_8,BK309,HB⟩:=hcut
  cases kq with
  | zero=>exact absurd HA.out (by simp [series_Series_originals.j0])
  | succ kj3 =>
   have H:=HA.out;clear HA
   simp only [series_Series_originals.j0] at H
   obtain ⟨y314,hy314⟩:∃ y_:List Int,y_=(([a0_0]:List Int)):=⟨_,rfl⟩
   replace H:(if y314.length + l0_11.length < 17592186044416 then ((some (y314 ++ l0_11:List Int)).bind fun y317=>(series_Series_originals.l0 kj3 a1 a2 x7_3 x8_3 y317 (y317.length:Int) 0)) else (none))=some (p1,p2):=by first | (rw [hy314];with_reducible exact H) | (have H2_:=(Option.bind_some _ _).symm.trans H;rw [hy314];with_reducible exact H2_) | (have H2_:=(Option.bind_some _ _).symm.trans H;with_reducible exact H2_) | with_reducible exact H | (rw [hy314];exact H) | exact H
   have Ny314:=Aside0.mk hy314;clear hy314
   replace H:=in_ H;obtain ⟨c19,H⟩:=H;have LMc19:=Aside0.mk c19;clear c19;obtain ⟨y317,hy317⟩:∃ y_:List Int,y_=(y314 ++ l0_11):=⟨_,rfl⟩
   replace H:(series_Series_originals.l0 kj3 a1 a2 x7_3 x8_3 y317 (y317.length:Int) 0)=some (p1,p2):=by first | (rw [hy317];with_reducible exact H) | (have H2_:=(Option.bind_some _ _).symm.trans H;rw [hy317];with_reducible exact H2_) | (have H2_:=(Option.bind_some _ _).symm.trans H;with_reducible exact H2_) | with_reducible exact H | (rw [hy317];exact H) | exact H
   have Ny317:=Aside0.mk hy317;clear hy317;have H':=ad_ H;clear H;have hcz20_:=cells13_ BK309.out
   go_wp2_with (first | ((with_reducible refine gate_dst (N:=37) rfl ?_);refine Kd.R_lit (Kd.int .i64) _ 2 ?hg (N:=37) ?hd (xs:=([a0_0]:List Int)) (inner:=[.int .i64 a0_0]) (ok:=fun _=>True) (okp:=fun _=>True) ?hr ?hp (fun _ hk=>hk) trivial (Below.refl _ _) (Nat.le_refl _) (by simp) ?_;(case hd=>rfl);(case hg=>rfl);(case hr=>first | (go_simp;done) | (go_simp;rfl));(case hp=>exact (Reps.one (show Kd.M (Kd.int .i64) _ _ _ a0_0 [.int .i64 a0_0] from rfl) (Reps.none _ _)));intro v315 w21 ho22 hb hg_ hnew_;clear hg_ hnew_;(first | rw [← Ny314.out] at ho22 | (simp only [Int.reduceToNat] at ho22;rw [← Ny314.out] at ho22));have HO316:=ad_ (Kd.R_lower (Kd.R_new' ho22 (Kd.R_lt (rod_ HO_8))) (below_size belg_));replace HO_8:=ad_ (Kd.R_elder' (rod_ HO_8) (Kd.R_base ho22) hb);replace BK309:=bkb_ BK309 hb;replace HB:=hbb_ hb;clear hb ho22;have hcz23_:=cells13_ BK309.out) | ((with_reducible refine gate_builtin (b:=.append) (xs:=#[.tmp 37,.tmp 39]) rfl ?_);at_builtin;refine Kd.R_append_rows (Kd.int .i64) (w0:=w) w.heap.size rfl (.tmp 37) (.tmp 39) 26 2 (.int .i64 0) 8 rfl Tryz.underlying26 info2 rfl (by decide) (by omega) v315 y314 l0_11 _ _ _ (fun k_=>some k_≠(u8:Value).ownBlock) (fun _=>False) rfl rfl ?aO ?aR (fun _ _ h=>h) (fun _ h=>h.elim) ?aF ?aB ?aS ?aL ?_;(case aR=>exact cop_ (Kd.C_below HR0_11.out HB.out));(case aB=>exact belg_);(case aF=>exact (fun k_ hk=>Kd.fresh' (Kd.R_lt (rod_ HO_8)) k_ hk));(case aO=>exact (rmo_ HO316.out (fun _ hk=>hk.2)));(case aS=>exact (below_size belg_));(case aL=>have:=LMc19.out;omega);intro v318 w24 ho hb hg hat;rw [← Ny317.out] at ho;replace HO_8:=ad_ (Kd.R_after (ok:=(fun _=>True)) (rod_ HO_8) hg hat);replace BK309:=ad_ (blk_grown (g:=gb309) (blo_ BK309.out) hg (Kd.R_ne HO316.out BK309.out (by decide)));replace HB:=ad_ (hb);have HO319:=ad_ (ho);clear HO316;clear ho hb hg hat;obtain ⟨Ao25,co25,eo25⟩:=Kd.R_slice HO319.out;subst eo25))
   go_loopg [8,42] kj3 (fun kq v8 v42 w'=>∃ (x8_2:List Int) (x42_2:Int),v42 = .int .i64 x42_2∧Aside0 (series_Series_originals.l0 kq a1 a2 x7_3 x8_2 y317 (y317.length:Int) x42_2=some (p1,p2))∧Aside0 (kq≤kj3)∧Aside0 (Kd.R (Kd.int .i64) 2 w' w.heap.size (fun k_=>some k_≠((.slice Ao25 y317.length co25):Value).ownBlock) v8 x8_2)∧Aside0 (Kd.R (Kd.int .i64) 2 w' w.heap.size (fun k_=>some k_≠(v8:Value).ownBlock) (.slice Ao25 y317.length co25) y317)∧Aside0 (w'.heap[gb309]? = some (.cells #[.int .i64 a0_0,.int .i64 a0_1,.bool a0_2,.int .i64 a0_3,.int .i64 a0_4,.int .i64 a0_5,.int .i64 a0_6,(.slice A0_7 l0_7.length c0_7),(.slice A0_8 l0_8.length c0_8),(.slice A0_9 l0_9.length c0_9),(.slice A0_10 l0_10.length c0_10),(.slice A0_11 l0_11.length c0_11),(.slice A0_12 l0_12.length c0_12)] 29 (0,0)))∧Aside0 (Below w.heap.size w w'))
   case atStart=>exact ⟨(x8_3),(0),val_,H',⟨Nat.le_refl _⟩,⟨rmo_ HO_8.out (fun _ hk=>hk.2)⟩,⟨rod_ HO319⟩,⟨blo_ BK309.out⟩,⟨belg_⟩⟩
   case round =>
    clear H';clear hcz20_ hcz23_;obtain ⟨x8_2,x42_2,rfl,HA,HK2,HO_8,HO_40,BK309,HB⟩:=hrel
    cases gk with
    | zero=>exact absurd HA.out (by simp [series_Series_originals.l0])
    | succ k2 =>
     have H:=HA.out;clear HA
     simp only [series_Series_originals.l0] at H
     replace H:=dc_ H;rcases H with ⟨H,c26b0⟩|⟨H,c26b0⟩
     ·replace H:=ind_ H;obtain ⟨c27b0,H⟩:=H
      replace H:=ind_ H;obtain ⟨c28b0,H⟩:=H
      replace H:=dh_ H;rcases H with ⟨H,c29b0⟩|⟨H,c29b0⟩
      ·replace H:=dc_ H;rcases H with ⟨H,c30b0⟩|⟨H,c30b0⟩
       ·replace H:=in_ H;obtain ⟨c31,H⟩:=H;have LMc31:=Aside0.mk c31;clear c31;obtain ⟨y321,hy321⟩:∃ y_:List Int,y_=(x8_2 ++ [rd y317 x42_2]):=⟨_,rfl⟩
        replace H:(series_Series_originals.l0 k2 a1 a2 x7_3 y321 y317 (y317.length:Int) (wrap64 (x42_2 + 1)))=some (p1,p2):=by first | (rw [hy321];with_reducible exact H) | (have H2_:=(Option.bind_some _ _).symm.trans H;rw [hy321];with_reducible exact H2_) | (have H2_:=(Option.bind_some _ _).symm.trans H;with_reducible exact H2_) | with_reducible exact H | (rw [hy321];exact H) | exact H
        have Ny321:=Aside0.mk hy321;clear hy321;have H':=ad_ H;clear H;have p320:0≤(x42_2:Int):=dec_;have q320:x42_2 < (y317.length:Int):=dec_;obtain ⟨ad320,e320,hx320_0⟩:=Kd.at_int (Kd.R_reads' HO_40.out).2.2 x42_2 p320 q320
        cases e320
        replace p320:=eq_true p320;replace q320:=eq_true q320
        go_wp2_with (first | ((with_reducible refine gate_builtin (b:=.append) (xs:=#[.tmp 54,.tmp 56]) rfl ?_);at_builtin;refine Kd.R_append (Kd.int .i64) (w0:=w) w.heap.size rfl (.tmp 54) (.tmp 56) 26 2 (.int .i64 0) 8 rfl Tryz.underlying26 info2 rfl (by decide) (by omega) u8 x8_2 (rd y317 x42_2) [.int .i64 (rd y317 x42_2)] (fun k_=>some k_≠(.slice (some ad320) y317.length co25:Value).ownBlock) (fun _=>False) rfl rfl ?aP (fun _ hk=>hk.elim) ?aF ?aO ?aB ?aS ?aL ?_;(case aP=>exact rfl);(case aB=>exact belg_);(case aF=>exact (fun k_ hk=>Kd.fresh' (Kd.R_lt (rod_ HO_40)) k_ hk));(case aO=>exact (rod_ HO_8));(case aS=>exact (below_size belg_));(case aL=>have:=LMc31.out;omega);intro v322 w32 ho hb hg hat;rw [← Ny321.out] at ho;replace HO_40:=ad_ (Kd.R_after (ok:=(fun _=>True)) (rmo_ HO_40.out (fun _ hk=>⟨trivial,hk⟩)) hg hat);replace BK309:=ad_ (blk_grown (g:=gb309) (blo_ BK309.out) hg (Kd.R_ne HO_8.out BK309.out (by decide)));replace HB:=ad_ (hb);have HO323:=ad_ (ho);clear HO_8;clear ho hb hg hat))
        go_roundg k2
        case measure=>have:=HJ3.out;have:=HK2.out;omega
        case rel=>exact ⟨(y321),(wrap64 (x42_2 + 1)),val_,H',⟨by have:=HJ3.out;have:=HK2.out;omega⟩,⟨rod_ HO323⟩,⟨rmo_ HO_40.out (fun _ hk=>hk.2)⟩,⟨blo_ BK309.out⟩,⟨belg_⟩⟩
       ·have H':=ad_ H;clear H;have p320:0≤(x42_2:Int):=dec_;have q320:x42_2 < (y317.length:Int):=dec_;obtain ⟨ad320,e320,hx320_0⟩:=Kd.at_int (Kd.R_reads' HO_40.out).2.2 x42_2 p320 q320
        cases e320
        replace p320:=eq_true p320;replace q320:=eq_true q320
        go_wp2
        go_roundg k2
        case measure=>have:=HJ3.out;have:=HK2.out;omega
        case rel=>exact ⟨(x8_2),(wrap64 (x42_2 + 1)),val_,H',⟨by have:=HJ3.out;have:=HK2.out;omega⟩,⟨rod_ HO_8⟩,⟨rod_ HO_40⟩,⟨blo_ BK309.out⟩,⟨belg_⟩⟩
      ·have H':=ad_ H;clear H;have p320:0≤(x42_2:Int):=dec_;have q320:x42_2 < (y317.length:Int):=dec_;obtain ⟨ad320,e320,hx320_0⟩:=Kd.at_int (Kd.R_reads' HO_40.out).2.2 x42_2 p320 q320
       cases e320
       replace p320:=eq_true p320;replace q320:=eq_true q320
       go_wp2
       go_roundg k2
       case measure=>have:=HJ3.out;have:=HK2.out;omega
       case rel=>exact ⟨(x8_2),(wrap64 (x42_2 + 1)),val_,H',⟨by have:=HJ3.out;have:=HK2.out;omega⟩,⟨rod_ HO_8⟩,⟨rod_ HO_40⟩,⟨blo_ BK309.out⟩,⟨belg_⟩⟩
     ·simp only [Option.some.injEq,Prod.mk.injEq] at H
      obtain ⟨rfl,rfl⟩:=H;obtain ⟨d1,d2,d3,d4,e1_,e2_⟩:=series_Series_originals.done HT.out;clear HT;subst e2_;have D1:=Aside0.mk d1;have D2:=Aside0.mk d2;have D3:=Aside0.mk d3;have D4:=Aside0.mk d4;have E1:=Aside0.mk e1_;clear d1 d2 d3 d4 e1_;have hmm:=@run_makeMap Tryz.prog
      have hmf:∀ (fn:Fn) (first cap:Array Value) (w:World),(Instr.makeFunc fn first cap).run Tryz.prog w = .ok (.func fn first cap) w:=fun _ _ _ _=>rfl
      clear HO_40
      have hcL:∀ o o',((wr.alloc o).alloc o').cell? ⟨gb309,10,none⟩=some (.slice A0_10 l0_10.length c0_10):=fun o o'=>(((Below.refl wr.heap.size wr).alloc (Nat.le_refl _) o).alloc (by simp) o' |>.cell (p:=⟨gb309,10,none⟩) (blk_lt BK309.out)).trans (bc_ BK309)
      go_wp2
      clear hcL;have W2b:Below wr.heap.size wr ((wr.alloc (.map #[] 0)).alloc (.cells #[.map (some wr.heap.size)] 94)):=((Below.refl wr.heap.size wr).alloc (Nat.le_refl _) _).alloc (by simp) _;have W2m:Orig.Says ((wr.alloc (.map #[] 0)).alloc (.cells #[.map (some wr.heap.size)] 94)) wr.heap.size []:=(Orig.Says.made wr).later (Below.heap_alloc _ _ _ (by simp))
      have W2x:((wr.alloc (.map #[] 0)).alloc (.cells #[.map (some wr.heap.size)] 94)).heap[wr.heap.size + 1]? = some (.cells #[.map (some wr.heap.size)] 94 (0,0)):=by
       have h:=World.alloc_heap_new (wr.alloc (.map #[] 0)) (.cells #[.map (some wr.heap.size)] 94 (0,0))
       rwa [World.size_alloc] at h
      have O2:=ad_ (Kd.own_of_R (Kd.R_below HO_8.out W2b));have W3b:=ad_ (HB.out.trans (W2b.mono HB.out.size));have hmw:=HB.out.size;clear HO_8 HB BK309 W2b HO319 GE309
      revert O2 W3b W2m W2x hmw
      generalize ((wr.alloc (.map #[] 0)).alloc (.cells #[.map (some wr.heap.size)] 94))=w2
      generalize wr.heap.size=mb
      intro W2m W2x O2 W3b hmw;have hmb1:mb + 1 < w2.heap.size:=blk_lt W2x
      go_loopw [63] (fun v63 wq=>∃ i:Nat,v63 = .int .i64 (i:Int)∧i≤l0_10.length∧Aside0 (Orig.Says wq mb (l0_10.take i))∧Aside0 (wq.heap[mb + 1]? = some (.cells #[.map (some mb)] 94 (0,0)))∧Aside0 (wq.ownsRow w.heap.size 2 1 u8 x8_2.length (x8_2.map (Value.int .i64)))∧Aside0 (Below w.heap.size w wq)) (fun v63 _=>l0_10.length - (intOf v63).toNat)
      case atStart=>exact ⟨0,rfl,Nat.zero_le _,⟨W2m⟩,⟨W2x⟩,O2,W3b⟩
      case round =>
       clear O2 W3b W2m W2x;obtain ⟨i,rfl,hi,HS,HX,HO,HBq⟩:=hrel
       by_cases hlt:i < l0_10.length
       ·have p0:(0:Int)≤(i:Int):=by omega
        have q0:(i:Int) < (l0_10.length:Int):=by omega
        obtain ⟨ad,e0,hx0⟩:=Kd.at_int (Kd.C_below HR0_10.out HBq.out) (i:Int) p0 q0
        cases e0
        have eg:rd l0_10 (i:Int)=l0_10[i]:=by simp [rd,hlt]
        rw [Int.toNat_natCast,eg] at hx0;obtain ⟨n,D,hn,ho,hD,hat⟩:=HS.out
        have hin:n≤i:=by rw [List.length_take] at hn;omega
        have ht:wrap64 l0_10[i] = l0_10[i]:=D4.out _ (List.getElem_mem hlt)
        have hkey:keyOf Tryz.prog 2 (.int .i64 l0_10[i])=some (.int .i64 l0_10[i]):=by have:=Orig.keyW l0_10[i];rwa [ht] at this
        have hcx:wr.cell? ⟨mb + 1,0,none⟩=some (.map (some mb)):=(blk_cell HX.out 0).trans rfl;have HS2:=HS;have HM:=ad_ (show wr.ownsMap Tryz.prog 2 (plainElem Tryz.prog 4) mb n D from ho);have HA:=Aside0.mk hat;have HD:=Aside0.mk hD;have HN:=Aside0.mk hn;have HT:=Aside0.mk ht;have hlen0:=D2.out;clear ho hat hD hn ht HS
        go_wp2_with (first
         | (at_mapUpdate;refine wpList_mapUpdate_own _ rfl _ _ _ 94 rfl 2 4 Orig.key2 Tryz.underlying94 (plainElem Tryz.prog 4) mb n D rfl HM.out (by unfold maxLen;omega) _ _ (.int .i64 l0_10[i]) rfl rfl hkey (.lit (.bool true)) [] (plainElem_bool Tryz.underlying4 true) ?_;intro w1 hown1 hgrow1)
         | go_in)
        have hnr:=Orig.ne_row HO.out HS2.out
        refine ⟨⟨i + 1,by simp,by omega,⟨?_⟩,⟨?_⟩,⟨?_⟩,⟨?_⟩⟩,?_⟩
        ·rw [List.take_succ_eq_append_getElem hlt];exact Orig.Says.put HT.out HN.out HD.out HA.out hown1
        ·exact (hgrow1.block (mb + 1) (blk_lt HX.out) (by simp)).trans HX.out
        ·exact HO.out.kept hgrow1 (.inr hnr.symm)
        ·exact HBq.out.grown hgrow1 (HBq.out.size) (fun k e=>by cases e;exact hmw)
        ·simp only [intOf]
         omega
       ·obtain rfl:i=l0_10.length:=by omega
        rw [List.take_length] at HS;have HL:Aside0 ((x8_2.filter fun x=>!l0_10.contains x).length < 4611686018427387904):=⟨Nat.lt_of_le_of_lt (List.length_filter_le _ _) D1.out⟩;have HL2:Aside0 ((Sort.sortInts (x8_2.filter fun x=>!l0_10.contains x)).length=(x8_2.filter fun x=>!l0_10.contains x).length):=⟨(List.mergeSort_perm _ _).length_eq⟩
        go_wp2_with (first
         | (go_at_call 47;refine (Orig.delete_any HO.out D1.out D3.out HX.out HS.out).mono ?_;rintro e w4 ⟨v4,rfl,ho4,hb4⟩;have HO4:=Aside0.mk ho4;clear ho4)
         | (go_at_call 49;refine (Sort.sortInt_any HO4.out HL.out).mono ?_;rintro e w5 ⟨rfl,ho5,hb5⟩;rw [← HL2.out] at ho5;have HO5:=Aside0.mk ho5;clear ho5)
         | (go_at_call 50;refine (Orig.compact_any HO5.out (by rw [HL2.out];exact HL.out)).mono ?_;rintro e w6 ⟨v6,rfl,ho6,hb6⟩))
        go_ret2
        rw [← E1.out] at ho6;exact ⟨_,rfl,Kd.R_of_own ho6 (fun _ _=>trivial),((HBq.out.trans hb4).trans hb5).trans hb6⟩
end Go.Proofs.YtkgkblmeafhkfaaGreat.PH

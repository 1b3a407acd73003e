-- Written by a program of the session (wip/tools).
import Derived.Test.YtkgkblmeafhkfaaGreatPHx0
namespace Go.Proofs.YtkgkblmeafhkfaaGreat.PH
open Go.RowKit Go.Proofs.YtkgkblmeafhkfaaGreatW.PrintWords Go.Proofs.YtkgkblmeafhkfaaGreatW.PrintLast Go.Proofs.YtkgkblmeafhkfaaGreatW.PrintMore
attribute [local go_sem] max2_int min2_int max_two min_two max_three min_three max_four min_four   -- for this text's walks alone
set_option linter.unusedVariables false
set_option linter.unusedSimpArgs false

def pr23_put.l0:Nat→List Int→Int→Int→Option (List Int)
 | 0,_,_,_=>none
 | k + 1,x0,x1,x5=>if x5 < (x0.length:Int) then (if 0≤x5 then (if (rd x0 x5) < x1 then (pr23_put.l0 k x0 x1 (wrap64 (x5 + 1))) else (if (rd x0 x5)=x1 then (some x0) else (if x5≤(x0.length:Int) then ((some (x0.take (x5:Int).toNat:List Int)).bind fun y409=>(if ([]:List Int).length + y409.length < 17592186044416 then ((some (([]:List Int) ++ y409:List Int)).bind fun y414=>(if y414.length < 17592186044416 then ((some (y414 ++ [x1]:List Int)).bind fun y417=>((some (x0.drop (x5:Int).toNat:List Int)).bind fun y420=>(if y417.length + y420.length < 17592186044416 then (some (y417 ++ y420)) else (none)))) else (none))) else (none))) else (none)))) else (none)) else (if 0≤x5 then (if x5≤(x0.length:Int) then ((some (x0.take (x5:Int).toNat:List Int)).bind fun y428=>(if ([]:List Int).length + y428.length < 17592186044416 then ((some (([]:List Int) ++ y428:List Int)).bind fun y433=>(if y433.length < 17592186044416 then ((some (y433 ++ [x1]:List Int)).bind fun y436=>((some (x0.drop (x5:Int).toNat:List Int)).bind fun y439=>(if y436.length + y439.length < 17592186044416 then (some (y436 ++ y439)) else (none)))) else (none))) else (none))) else (none)) else (none))
def pr23_put.f (k:Nat) (l0:List Int) (a1:Int):Option (List Int):=pr23_put.l0 k l0 a1 0
set_option maxHeartbeats 8000000 in
set_option maxRecDepth 100000 in
theorem pr23_put.calls (k:Nat) (P0_:Nat→Prop) (A0:Option Addr) (c0:Nat) (l0:List Int) (a1:Int) (r:List Int) (w:World) (hs0:Kd.V (Kd.int .i64) 2 w w.heap.size (fun k_=>P0_ k_) (.slice A0 l0.length c0) l0) (h:pr23_put.f k l0 a1=some r) :
  Calls Tryz.prog 30 #[.slice A0 l0.length c0,.int .i64 a1] w fun e w'=>∃ v0_:Value,e = .returned (v0_)∧Kd.V (Kd.int .i64) 2 w' w.heap.size (fun k_=>(P0_ k_∨w.heap.size≤k_)) v0_ r∧Below w.heap.size w w':=by
 have HO0:=ad_ (show Kd.V (Kd.int .i64) 2 w w.heap.size (fun k_=>(P0_ k_∨w.heap.size≤k_)) (.slice A0 l0.length c0) l0 from Kd.V_mono hs0 (fun k_ hk=>.inl hk));have HB:=ad_ (Below.refl w.heap.size w);have H:(pr23_put.l0 k l0 a1 0)=some r:=h;clear h;have H':=ad_ H;clear H
 go_enter Tryz.func30,Tryz.ntmps30
 go_wp2
 go_loopg [5] k (fun kq v5 w'=>∃ (x5_1:Int),v5 = .int .i64 x5_1∧Aside0 (pr23_put.l0 kq l0 a1 x5_1=some r)∧Aside0 (kq≤k)∧Aside0 (Kd.V (Kd.int .i64) 2 w' w.heap.size (fun k_=>(P0_ k_∨w.heap.size≤k_)) (.slice A0 l0.length c0) l0)∧Aside0 (Below w.heap.size w w'))
 case atStart=>exact ⟨(0),val_,H',⟨Nat.le_refl _⟩,⟨vod_ (HO0.out)⟩,⟨bel_⟩⟩
 case round =>
  clear H';obtain ⟨x5_1,rfl,HA,HK1,HO_0,HB⟩:=hrel
  cases gk with
  | zero=>exact absurd HA.out (by simp [pr23_put.l0])
  | succ k1 =>
   have H:=HA.out;clear HA
   simp only [pr23_put.l0] at H
   replace H:=dc_ H;rcases H with ⟨H,c3b0⟩|⟨H,c3b0⟩
   ·replace H:=ind_ H;obtain ⟨c4b0,H⟩:=H
    replace H:=dc_ H;rcases H with ⟨H,c5b0⟩|⟨H,c5b0⟩
    ·have H':=ad_ H;clear H;have p407:0≤(x5_1:Int):=dec_;have q407:x5_1 < (l0.length:Int):=dec_;obtain ⟨ad407,e407,hx407_0⟩:=Kd.at_int (Kd.V_reads' HO_0.out).2.2 x5_1 p407 q407
     cases e407
     replace p407:=eq_true p407;replace q407:=eq_true q407
     go_wp2
     go_roundg k1
     case measure=>have:=HK1.out;omega
     case rel=>exact ⟨(wrap64 (x5_1 + 1)),val_,H',⟨by have:=HK1.out;omega⟩,⟨vod_ (HO_0.out)⟩,⟨bel_⟩⟩
    ·replace H:=de_ H;rcases H with ⟨H,-,c6b0,c6b1⟩|⟨H,c6,c6b0,c6b1⟩
     ·obtain rfl:=Option.some.inj H;have p407:0≤(x5_1:Int):=dec_;have q407:x5_1 < (l0.length:Int):=dec_;obtain ⟨ad407,e407,hx407_0⟩:=Kd.at_int (Kd.V_reads' HO_0.out).2.2 x5_1 p407 q407
      cases e407
      replace p407:=eq_true p407;replace q407:=eq_true q407;have p408:0≤(x5_1:Int):=dec_;have q408:x5_1 < (l0.length:Int):=dec_;obtain ⟨ad408,e408,hx408_0⟩:=Kd.at_int (Kd.V_reads' HO_0.out).2.2 x5_1 p408 q408;obtain rfl:ad407=ad408:=(by injection e408);replace p408:=eq_true p408;replace q408:=eq_true q408
      go_wp2
      go_ret
      exact ⟨_,ret_,by (with_reducible repeat (first | apply Kd.V_alloc | apply Kd.V_drewN | apply Kd.V_drew));exact HO_0.out,bel_⟩
     ·have c7b0:=eq_true (dec_:0≤x5_1)
      replace H:=in_ H;obtain ⟨c8,H⟩:=H;have c8b0:=eq_true c8;have c8b1:decide (x5_1≤(l0.length:Int))=true:=decide_eq_true c8;clear c8;obtain ⟨y409,hy409⟩:∃ y_:List Int,y_=(l0.take (x5_1:Int).toNat):=⟨_,rfl⟩
      replace H:(if ([]:List Int).length + y409.length < 17592186044416 then ((some (([]:List Int) ++ y409:List Int)).bind fun y414=>(if y414.length < 17592186044416 then ((some (y414 ++ [a1]:List Int)).bind fun y417=>((some (l0.drop (x5_1:Int).toNat:List Int)).bind fun y420=>(if y417.length + y420.length < 17592186044416 then (some (y417 ++ y420)) else (none)))) else (none))) else (none))=some r:=by first | (rw [hy409];with_reducible exact H) | (have H2_:=(Option.bind_some _ _).symm.trans H;rw [hy409];with_reducible exact H2_) | (have H2_:=(Option.bind_some _ _).symm.trans H;with_reducible exact H2_) | with_reducible exact H | (rw [hy409];exact H) | exact H
      have Ny409:=Aside0.mk hy409;clear hy409
      replace H:=in_ H;obtain ⟨c9,H⟩:=H;have LMc9:=Aside0.mk c9;clear c9;obtain ⟨y414,hy414⟩:∃ y_:List Int,y_=(([]:List Int) ++ y409):=⟨_,rfl⟩
      replace H:(if y414.length < 17592186044416 then ((some (y414 ++ [a1]:List Int)).bind fun y417=>((some (l0.drop (x5_1:Int).toNat:List Int)).bind fun y420=>(if y417.length + y420.length < 17592186044416 then (some (y417 ++ y420)) else (none)))) else (none))=some r:=by first | (rw [hy414];with_reducible exact H) | (have H2_:=(Option.bind_some _ _).symm.trans H;rw [hy414];with_reducible exact H2_) | (have H2_:=(Option.bind_some _ _).symm.trans H;with_reducible exact H2_) | with_reducible exact H | (rw [hy414];exact H) | exact H
      have Ny414:=Aside0.mk hy414;clear hy414
      replace H:=in_ H;obtain ⟨c10,H⟩:=H;have LMc10:=Aside0.mk c10;clear c10;obtain ⟨y417,hy417⟩:∃ y_:List Int,y_=(y414 ++ [a1]):=⟨_,rfl⟩
      replace H:((some (l0.drop (x5_1:Int).toNat:List Int)).bind fun y420=>(if y417.length + y420.length < 17592186044416 then (some (y417 ++ y420)) else (none)))=some r:=by first | (rw [hy417];with_reducible exact H) | (have H2_:=(Option.bind_some _ _).symm.trans H;rw [hy417];with_reducible exact H2_) | (have H2_:=(Option.bind_some _ _).symm.trans H;with_reducible exact H2_) | with_reducible exact H | (rw [hy417];exact H) | exact H
      have Ny417:=Aside0.mk hy417;clear hy417;have c11b0:=eq_true (dec_:0≤x5_1);have c12b0:=eq_true (dec_:x5_1≤(l0.length:Int));obtain ⟨y420,hy420⟩:∃ y_:List Int,y_=(l0.drop (x5_1:Int).toNat):=⟨_,rfl⟩
      replace H:(if y417.length + y420.length < 17592186044416 then (some (y417 ++ y420)) else (none))=some r:=by first | (rw [hy420];with_reducible exact H) | (have H2_:=(Option.bind_some _ _).symm.trans H;rw [hy420];with_reducible exact H2_) | (have H2_:=(Option.bind_some _ _).symm.trans H;with_reducible exact H2_) | with_reducible exact H | (rw [hy420];exact H) | exact H
      have Ny420:=Aside0.mk hy420;clear hy420
      replace H:=in_ H;obtain ⟨c13,H⟩:=H;have LMc13:=Aside0.mk c13;clear c13;obtain ⟨y425,hy425⟩:∃ y_:List Int,y_=(y417 ++ y420):=⟨_,rfl⟩
      replace H:(some y425)=some r:=by first | (rw [hy425];with_reducible exact H) | (have H2_:=(Option.bind_some _ _).symm.trans H;rw [hy425];with_reducible exact H2_) | (have H2_:=(Option.bind_some _ _).symm.trans H;with_reducible exact H2_) | with_reducible exact H | (rw [hy425];exact H) | exact H
      have Ny425:=Aside0.mk hy425;clear hy425;obtain rfl:=Option.some.inj H;have p407:0≤(x5_1:Int):=dec_;have q407:x5_1 < (l0.length:Int):=dec_;obtain ⟨ad407,e407,hx407_0⟩:=Kd.at_int (Kd.V_reads' HO_0.out).2.2 x5_1 p407 q407
      cases e407
      replace p407:=eq_true p407;replace q407:=eq_true q407;have p408:0≤(x5_1:Int):=dec_;have q408:x5_1 < (l0.length:Int):=dec_;obtain ⟨ad408,e408,hx408_0⟩:=Kd.at_int (Kd.V_reads' HO_0.out).2.2 x5_1 p408 q408;obtain rfl:ad407=ad408:=(by injection e408);replace p408:=eq_true p408;replace q408:=eq_true q408;have q14:(x5_1:Int)≤((l0.length:Int):Int):=dec_;obtain ⟨i014,hi014,_,hsz14,_⟩:=info_parts info2;have hroom14:l0.length≤c0:=(Kd.V_reads' HO_0.out).2.1;have hC14:Kd.F (Kd.int .i64) _ _ (some ad407) l0.length l0:=(Kd.V_at (base:=w.heap.size) HO_0.out).2.2;have hcut14:=cut_to (P:=Tryz.prog) 26 2 .i64 Tryz.underlying26 hi014 (some ad407) l0.length c0 x5_1 (dec_) q14 hroom14;have hr14:=Kd.F_take (m:=(x5_1:Int).toNat) hC14 (by omega);have hy14:y409.length=(x5_1:Int).toNat:=(by rw [Ny409.out,List.length_take];omega);rw [← Ny409.out] at hr14;rw [← hy14] at hcut14;have HO413:=ad_ (show Kd.V (Kd.int .i64) 2 _ w.heap.size _ (.slice (some ad407) y409.length c0) y409 from Kd.V_mk (by omega) hr14);have HC413:=ad_ (show y409.length≤c0 from by omega);clear hr14 hC14 hroom14 hi014 hsz14;have KY14:=Aside0.mk hy14;clear hy14;replace q14:=eq_true q14
      go_wp2_with (first | ((with_reducible refine gate_builtin (b:=.append) (xs:=#[.tmp 34,.tmp 37]) rfl ?_);at_builtin;refine Kd.R_append_rows (Kd.int .i64) (w0:=w) w.heap.size rfl (.tmp 34) (.tmp 37) 26 2 (.int .i64 0) 8 rfl Tryz.underlying26 info2 rfl (by decide) (by omega) (.slice none 0 0) ([]:List Int) y409 _ _ _ (fun k_=>(w.heap.size≤k_)) (fun _=>False) rfl rfl ?aO ?aR (fun _ _ h=>h) (fun _ h=>h.elim) ?aF ?aB ?aS ?aL ?_;(case aR=>exact cop_ (Kd.V_reads' HO413.out).2.2);(case aB=>exact bel_);(case aF=>exact (fun k_ hk=>(Nat.le_trans (below_size bel_) hk)));(case aO=>exact ((Kd.R_nil _ _ _ _ (fun k_=>(w.heap.size≤k_)))));(case aS=>exact (below_size bel_));(case aL=>have:=LMc9.out;omega);intro v415 w15 ho hb hg hat;rw [← Ny414.out] at ho;replace HO_0:=ad_ (Kd.V_afterv (Kd.V_apart_nil (vod_ (HO_0.out))) hg hat);replace HO413:=ad_ (Kd.V_afterv (Kd.V_apart_nil (vod_ (HO413.out))) hg hat);replace HB:=ad_ (hb);have HO416:=ad_ (ho);clear ho hb hg hat) | ((with_reducible refine gate_builtin (b:=.append) (xs:=#[.tmp 39,.tmp 41]) rfl ?_);at_builtin;refine Kd.R_append (Kd.int .i64) (w0:=w) w.heap.size rfl (.tmp 39) (.tmp 41) 26 2 (.int .i64 0) 8 rfl Tryz.underlying26 info2 rfl (by decide) (by omega) v415 y414 a1 [.int .i64 a1] (fun k_=>(w.heap.size≤k_)) (fun _=>False) rfl rfl ?aP (fun _ hk=>hk.elim) ?aF ?aO ?aB ?aS ?aL ?_;(case aP=>exact rfl);(case aB=>exact bel_);(case aF=>exact (fun k_ hk=>(Nat.le_trans (below_size bel_) hk)));(case aO=>exact (rod_ HO416));(case aS=>exact (below_size bel_));(case aL=>have:=LMc10.out;omega);intro v418 w16 ho hb hg hat;rw [← Ny417.out] at ho;replace HO_0:=ad_ (Kd.V_afterv (ok:=(fun k_=>(P0_ k_∨w.heap.size≤k_))) (vod_ (HO_0.out)) hg hat);replace HO413:=ad_ (Kd.V_afterv (ok:=(fun k_=>(P0_ k_∨w.heap.size≤k_))) (vod_ (HO413.out)) hg hat);replace HB:=ad_ (hb);have HO419:=ad_ (ho);clear HO416;clear ho hb hg hat;have q17:(x5_1:Int)≤((l0.length:Int):Int):=dec_;obtain ⟨i017,hi017,_,hsz17,_⟩:=info_parts info2;have hroom17:l0.length≤c0:=(Kd.V_reads' HO_0.out).2.1;have hC17:Kd.F (Kd.int .i64) _ _ (some ad407) l0.length l0:=(Kd.V_at (base:=w.heap.size) HO_0.out).2.2;have q017:(0:Int)≤(x5_1:Int):=dec_;have hcut17:=cut_from (P:=Tryz.prog) 26 2 .i64 Tryz.underlying26 hi017 1 hsz17 (some ad407) l0.length c0 x5_1 q017 q17;have hr17:=Kd.F_cut (m:=(x5_1:Int).toNat) (c:=c0) hC17 (by omega) hroom17;obtain ⟨A17,hA17⟩:∃ A1,A1=(if c0=(x5_1:Int).toNat then (some ad407) else ((some ad407):Option Addr).map (·.add ((x5_1:Int).toNat * 1))):=⟨_,rfl⟩;obtain ⟨c17,hc17⟩:∃ c1,c1=c0 - (x5_1:Int).toNat:=⟨_,rfl⟩;have hy17:y420.length=l0.length - (x5_1:Int).toNat:=(by rw [Ny420.out,List.length_drop] <;> omega);rw [show (l0).drop (x5_1:Int).toNat=y420 from Ny420.out.symm] at hr17;replace hr17:Kd.F (Kd.int .i64) _ _ A17 y420.length y420:=(by rw [hA17];exact hr17);rw [← hy17,← hA17,← hc17] at hcut17;have HO424:=ad_ (show Kd.V (Kd.int .i64) 2 _ w.heap.size _ (.slice A17 y420.length c17) y420 from Kd.V_mk (by rw [hy17,hc17];exact Nat.sub_le_sub_right hroom17 _) hr17);have HC424:=ad_ (show y420.length≤c17 from by rw [hy17,hc17];exact Nat.sub_le_sub_right hroom17 _);clear hr17 hC17 hroom17 hi017 hsz17 hc17;have KY17:=Aside0.mk hy17;have KA17:=Aside0.mk hA17;clear hy17 hA17;replace q17:=eq_true q17) | ((with_reducible refine gate_builtin (b:=.append) (xs:=#[.tmp 43,.tmp 46]) rfl ?_);at_builtin;refine Kd.R_append_rows (Kd.int .i64) (w0:=w) w.heap.size rfl (.tmp 43) (.tmp 46) 26 2 (.int .i64 0) 8 rfl Tryz.underlying26 info2 rfl (by decide) (by omega) v418 y417 y420 _ _ _ (fun k_=>(w.heap.size≤k_)) (fun _=>False) rfl rfl ?aO ?aR (fun _ _ h=>h) (fun _ h=>h.elim) ?aF ?aB ?aS ?aL ?_;(case aR=>exact cop_ (Kd.V_reads' HO424.out).2.2);(case aB=>exact bel_);(case aF=>exact (fun k_ hk=>(Nat.le_trans (below_size bel_) hk)));(case aO=>exact (rod_ HO419));(case aS=>exact (below_size bel_));(case aL=>have:=LMc13.out;omega);intro v426 w18 ho hb hg hat;rw [← Ny425.out] at ho;replace HO_0:=ad_ (Kd.V_afterv (ok:=(fun k_=>(P0_ k_∨w.heap.size≤k_))) (vod_ (HO_0.out)) hg hat);replace HO413:=ad_ (Kd.V_afterv (ok:=(fun k_=>(P0_ k_∨w.heap.size≤k_))) (vod_ (HO413.out)) hg hat);replace HO424:=ad_ (Kd.V_afterv (ok:=(fun k_=>(P0_ k_∨w.heap.size≤k_))) (vod_ (HO424.out)) hg hat);replace HB:=ad_ (hb);have HO427:=ad_ (ho);clear HO419;clear ho hb hg hat))
      go_ret
      exact ⟨_,ret_,Kd.V_mono (Kd.R_V (rod_ HO427)) (fun k_ hk=>by first | exact ⟨(.inr (hk.1)),hk.2⟩ | exact (.inr (hk))),bel_⟩
   ·replace H:=in_ H;obtain ⟨c19,H⟩:=H;have c19b0:=eq_true c19;have c19b1:decide (0≤x5_1)=true:=decide_eq_true c19;clear c19
    replace H:=in_ H;obtain ⟨c20,H⟩:=H;have c20b0:=eq_true c20;have c20b1:decide (x5_1≤(l0.length:Int))=true:=decide_eq_true c20;clear c20;obtain ⟨y428,hy428⟩:∃ y_:List Int,y_=(l0.take (x5_1:Int).toNat):=⟨_,rfl⟩
    replace H:(if ([]:List Int).length + y428.length < 17592186044416 then ((some (([]:List Int) ++ y428:List Int)).bind fun y433=>(if y433.length < 17592186044416 then ((some (y433 ++ [a1]:List Int)).bind fun y436=>((some (l0.drop (x5_1:Int).toNat:List Int)).bind fun y439=>(if y436.length + y439.length < 17592186044416 then (some (y436 ++ y439)) else (none)))) else (none))) else (none))=some r:=by first | (rw [hy428];with_reducible exact H) | (have H2_:=(Option.bind_some _ _).symm.trans H;rw [hy428];with_reducible exact H2_) | (have H2_:=(Option.bind_some _ _).symm.trans H;with_reducible exact H2_) | with_reducible exact H | (rw [hy428];exact H) | exact H
    have Ny428:=Aside0.mk hy428;clear hy428
    replace H:=in_ H;obtain ⟨c21,H⟩:=H;have LMc21:=Aside0.mk c21;clear c21;obtain ⟨y433,hy433⟩:∃ y_:List Int,y_=(([]:List Int) ++ y428):=⟨_,rfl⟩
    replace H:(if y433.length < 17592186044416 then ((some (y433 ++ [a1]:List Int)).bind fun y436=>((some (l0.drop (x5_1:Int).toNat:List Int)).bind fun y439=>(if y436.length + y439.length < 17592186044416 then (some (y436 ++ y439)) else (none)))) else (none))=some r:=by first | (rw [hy433];with_reducible exact H) | (have H2_:=(Option.bind_some _ _).symm.trans H;rw [hy433];with_reducible exact H2_) | (have H2_:=(Option.bind_some _ _).symm.trans H;with_reducible exact H2_) | with_reducible exact H | (rw [hy433];exact H) | exact H
    have Ny433:=Aside0.mk hy433;clear hy433
    replace H:=in_ H;obtain ⟨c22,H⟩:=H;have LMc22:=Aside0.mk c22;clear c22;obtain ⟨y436,hy436⟩:∃ y_:List Int,y_=(y433 ++ [a1]):=⟨_,rfl⟩
    replace H:((some (l0.drop (x5_1:Int).toNat:List Int)).bind fun y439=>(if y436.length + y439.length < 17592186044416 then (some (y436 ++ y439)) else (none)))=some r:=by first | (rw [hy436];with_reducible exact H) | (have H2_:=(Option.bind_some _ _).symm.trans H;rw [hy436];with_reducible exact H2_) | (have H2_:=(Option.bind_some _ _).symm.trans H;with_reducible exact H2_) | with_reducible exact H | (rw [hy436];exact H) | exact H
    have Ny436:=Aside0.mk hy436;clear hy436;have c23b0:=eq_true (dec_:0≤x5_1);have c24b0:=eq_true (dec_:x5_1≤(l0.length:Int));obtain ⟨y439,hy439⟩:∃ y_:List Int,y_=(l0.drop (x5_1:Int).toNat):=⟨_,rfl⟩
    replace H:(if y436.length + y439.length < 17592186044416 then (some (y436 ++ y439)) else (none))=some r:=by first | (rw [hy439];with_reducible exact H) | (have H2_:=(Option.bind_some _ _).symm.trans H;rw [hy439];with_reducible exact H2_) | (have H2_:=(Option.bind_some _ _).symm.trans H;with_reducible exact H2_) | with_reducible exact H | (rw [hy439];exact H) | exact H
    have Ny439:=Aside0.mk hy439;clear hy439
    replace H:=in_ H;obtain ⟨c25,H⟩:=H;have LMc25:=Aside0.mk c25;clear c25;obtain ⟨y444,hy444⟩:∃ y_:List Int,y_=(y436 ++ y439):=⟨_,rfl⟩
    replace H:(some y444)=some r:=by first | (rw [hy444];with_reducible exact H) | (have H2_:=(Option.bind_some _ _).symm.trans H;rw [hy444];with_reducible exact H2_) | (have H2_:=(Option.bind_some _ _).symm.trans H;with_reducible exact H2_) | with_reducible exact H | (rw [hy444];exact H) | exact H
    have Ny444:=Aside0.mk hy444;clear hy444;obtain rfl:=Option.some.inj H;have q26:(x5_1:Int)≤((l0.length:Int):Int):=dec_;obtain ⟨i026,hi026,_,hsz26,_⟩:=info_parts info2;have hroom26:l0.length≤c0:=(Kd.V_reads' HO_0.out).2.1;have hC26:Kd.F (Kd.int .i64) _ _ A0 l0.length l0:=(Kd.V_at (base:=w.heap.size) HO_0.out).2.2;have hcut26:=cut_to (P:=Tryz.prog) 26 2 .i64 Tryz.underlying26 hi026 A0 l0.length c0 x5_1 (dec_) q26 hroom26;have hr26:=Kd.F_take (m:=(x5_1:Int).toNat) hC26 (by omega);have hy26:y428.length=(x5_1:Int).toNat:=(by rw [Ny428.out,List.length_take];omega);rw [← Ny428.out] at hr26;rw [← hy26] at hcut26;have HO432:=ad_ (show Kd.V (Kd.int .i64) 2 _ w.heap.size _ (.slice A0 y428.length c0) y428 from Kd.V_mk (by omega) hr26);have HC432:=ad_ (show y428.length≤c0 from by omega);clear hr26 hC26 hroom26 hi026 hsz26;have KY26:=Aside0.mk hy26;clear hy26;replace q26:=eq_true q26
    go_wp2_with (first | ((with_reducible refine gate_builtin (b:=.append) (xs:=#[.tmp 34,.tmp 37]) rfl ?_);at_builtin;refine Kd.R_append_rows (Kd.int .i64) (w0:=w) w.heap.size rfl (.tmp 34) (.tmp 37) 26 2 (.int .i64 0) 8 rfl Tryz.underlying26 info2 rfl (by decide) (by omega) (.slice none 0 0) ([]:List Int) y428 _ _ _ (fun k_=>(w.heap.size≤k_)) (fun _=>False) rfl rfl ?aO ?aR (fun _ _ h=>h) (fun _ h=>h.elim) ?aF ?aB ?aS ?aL ?_;(case aR=>exact cop_ (Kd.V_reads' HO432.out).2.2);(case aB=>exact bel_);(case aF=>exact (fun k_ hk=>(Nat.le_trans (below_size bel_) hk)));(case aO=>exact ((Kd.R_nil _ _ _ _ (fun k_=>(w.heap.size≤k_)))));(case aS=>exact (below_size bel_));(case aL=>have:=LMc21.out;omega);intro v434 w27 ho hb hg hat;rw [← Ny433.out] at ho;replace HO_0:=ad_ (Kd.V_afterv (Kd.V_apart_nil (vod_ (HO_0.out))) hg hat);replace HO432:=ad_ (Kd.V_afterv (Kd.V_apart_nil (vod_ (HO432.out))) hg hat);replace HB:=ad_ (hb);have HO435:=ad_ (ho);clear ho hb hg hat) | ((with_reducible refine gate_builtin (b:=.append) (xs:=#[.tmp 39,.tmp 41]) rfl ?_);at_builtin;refine Kd.R_append (Kd.int .i64) (w0:=w) w.heap.size rfl (.tmp 39) (.tmp 41) 26 2 (.int .i64 0) 8 rfl Tryz.underlying26 info2 rfl (by decide) (by omega) v434 y433 a1 [.int .i64 a1] (fun k_=>(w.heap.size≤k_)) (fun _=>False) rfl rfl ?aP (fun _ hk=>hk.elim) ?aF ?aO ?aB ?aS ?aL ?_;(case aP=>exact rfl);(case aB=>exact bel_);(case aF=>exact (fun k_ hk=>(Nat.le_trans (below_size bel_) hk)));(case aO=>exact (rod_ HO435));(case aS=>exact (below_size bel_));(case aL=>have:=LMc22.out;omega);intro v437 w28 ho hb hg hat;rw [← Ny436.out] at ho;replace HO_0:=ad_ (Kd.V_afterv (ok:=(fun k_=>(P0_ k_∨w.heap.size≤k_))) (vod_ (HO_0.out)) hg hat);replace HO432:=ad_ (Kd.V_afterv (ok:=(fun k_=>(P0_ k_∨w.heap.size≤k_))) (vod_ (HO432.out)) hg hat);replace HB:=ad_ (hb);have HO438:=ad_ (ho);clear HO435;clear ho hb hg hat;have q29:(x5_1:Int)≤((l0.length:Int):Int):=dec_;obtain ⟨i029,hi029,_,hsz29,_⟩:=info_parts info2;have hroom29:l0.length≤c0:=(Kd.V_reads' HO_0.out).2.1;have hC29:Kd.F (Kd.int .i64) _ _ A0 l0.length l0:=(Kd.V_at (base:=w.heap.size) HO_0.out).2.2;have q029:(0:Int)≤(x5_1:Int):=dec_;have hcut29:=cut_from (P:=Tryz.prog) 26 2 .i64 Tryz.underlying26 hi029 1 hsz29 A0 l0.length c0 x5_1 q029 q29;have hr29:=Kd.F_cut (m:=(x5_1:Int).toNat) (c:=c0) hC29 (by omega) hroom29;obtain ⟨A29,hA29⟩:∃ A1,A1=(if c0=(x5_1:Int).toNat then A0 else (A0:Option Addr).map (·.add ((x5_1:Int).toNat * 1))):=⟨_,rfl⟩;obtain ⟨c29,hc29⟩:∃ c1,c1=c0 - (x5_1:Int).toNat:=⟨_,rfl⟩;have hy29:y439.length=l0.length - (x5_1:Int).toNat:=(by rw [Ny439.out,List.length_drop] <;> omega);rw [show (l0).drop (x5_1:Int).toNat=y439 from Ny439.out.symm] at hr29;replace hr29:Kd.F (Kd.int .i64) _ _ A29 y439.length y439:=(by rw [hA29];exact hr29);rw [← hy29,← hA29,← hc29] at hcut29;have HO443:=ad_ (show Kd.V (Kd.int .i64) 2 _ w.heap.size _ (.slice A29 y439.length c29) y439 from Kd.V_mk (by rw [hy29,hc29];exact Nat.sub_le_sub_right hroom29 _) hr29);have HC443:=ad_ (show y439.length≤c29 from by rw [hy29,hc29];exact Nat.sub_le_sub_right hroom29 _);clear hr29 hC29 hroom29 hi029 hsz29 hc29;have KY29:=Aside0.mk hy29;have KA29:=Aside0.mk hA29;clear hy29 hA29;replace q29:=eq_true q29) | ((with_reducible refine gate_builtin (b:=.append) (xs:=#[.tmp 43,.tmp 46]) rfl ?_);at_builtin;refine Kd.R_append_rows (Kd.int .i64) (w0:=w) w.heap.size rfl (.tmp 43) (.tmp 46) 26 2 (.int .i64 0) 8 rfl Tryz.underlying26 info2 rfl (by decide) (by omega) v437 y436 y439 _ _ _ (fun k_=>(w.heap.size≤k_)) (fun _=>False) rfl rfl ?aO ?aR (fun _ _ h=>h) (fun _ h=>h.elim) ?aF ?aB ?aS ?aL ?_;(case aR=>exact cop_ (Kd.V_reads' HO443.out).2.2);(case aB=>exact bel_);(case aF=>exact (fun k_ hk=>(Nat.le_trans (below_size bel_) hk)));(case aO=>exact (rod_ HO438));(case aS=>exact (below_size bel_));(case aL=>have:=LMc25.out;omega);intro v445 w30 ho hb hg hat;rw [← Ny444.out] at ho;replace HO_0:=ad_ (Kd.V_afterv (ok:=(fun k_=>(P0_ k_∨w.heap.size≤k_))) (vod_ (HO_0.out)) hg hat);replace HO432:=ad_ (Kd.V_afterv (ok:=(fun k_=>(P0_ k_∨w.heap.size≤k_))) (vod_ (HO432.out)) hg hat);replace HO443:=ad_ (Kd.V_afterv (ok:=(fun k_=>(P0_ k_∨w.heap.size≤k_))) (vod_ (HO443.out)) hg hat);replace HB:=ad_ (hb);have HO446:=ad_ (ho);clear HO438;clear ho hb hg hat))
    go_ret
    exact ⟨_,ret_,Kd.V_mono (Kd.R_V (rod_ HO446)) (fun k_ hk=>by first | exact ⟨(.inr (hk.1)),hk.2⟩ | exact (.inr (hk))),bel_⟩
def pr23_has.l0:Nat→List Int→Int→Int→Option (Bool)
 | 0,_,_,_=>none
 | k + 1,x0,x1,x5=>if x5 < (x0.length:Int) then (if 0≤x5 then (if (rd x0 x5)=x1 then (some true) else (pr23_has.l0 k x0 x1 (wrap64 (x5 + 1)))) else (none)) else (some false)
def pr23_has.f (k:Nat) (l0:List Int) (a1:Int):Option (Bool):=pr23_has.l0 k l0 a1 0
set_option maxHeartbeats 8000000 in
set_option maxRecDepth 100000 in
theorem pr23_has.calls (k:Nat) (A0:Option Addr) (c0:Nat) (l0:List Int) (a1:Int) (r:Bool) (w:World) (hr0:Kd.C (Kd.int .i64) w A0 l0.length l0) (hc0:l0.length≤c0) (h:pr23_has.f k l0 a1=some r) :
  Calls Tryz.prog 31 #[.slice A0 l0.length c0,.int .i64 a1] w fun e w'=>e = .returned (.bool r)∧Drawn0 w w':=by
 have HR0:=Aside0.mk hr0;have HC0:=Aside0.mk hc0;clear hr0 hc0;have H:(pr23_has.l0 k l0 a1 0)=some r:=h;clear h;have H':=ad_ H;clear H
 go_enter Tryz.func31,Tryz.ntmps31
 go_wp2
 go_loopg [5] k (fun kq v5 w'=>∃ (x5_1:Int),v5 = .int .i64 x5_1∧Aside0 (pr23_has.l0 kq l0 a1 x5_1=some r)∧Aside0 (kq≤k)∧Drawn0 w w')
 case atStart=>exact ⟨(0),val_,H',⟨Nat.le_refl _⟩,by repeat (first | exact Drawn0.refl _ | apply Drawn0.step)⟩
 case round =>
  clear H';obtain ⟨x5_1,rfl,HA,HK1,⟨m1,rfl⟩⟩:=hrel
  cases gk with
  | zero=>exact absurd HA.out (by simp [pr23_has.l0])
  | succ k1 =>
   have H:=HA.out;clear HA
   simp only [pr23_has.l0] at H
   replace H:=dc_ H;rcases H with ⟨H,c3b0⟩|⟨H,c3b0⟩
   ·replace H:=ind_ H;obtain ⟨c4b0,H⟩:=H
    replace H:=de_ H;rcases H with ⟨H,-,c5b0,c5b1⟩|⟨H,c5,c5b0,c5b1⟩
    ·obtain rfl:=Option.some.inj H;have p447:0≤(x5_1:Int):=dec_;have q447:x5_1 < (l0.length:Int):=dec_;obtain ⟨ad447,e447,hx447_0⟩:=Kd.at_int HR0.out x5_1 p447 q447
     cases e447
     replace p447:=eq_true p447;replace q447:=eq_true q447
     go_wp2
     go_ret
     exact ⟨val_,by repeat (first | exact Drawn0.refl _ | apply Drawn0.step)⟩
    ·have H':=ad_ H;clear H;have p447:0≤(x5_1:Int):=dec_;have q447:x5_1 < (l0.length:Int):=dec_;obtain ⟨ad447,e447,hx447_0⟩:=Kd.at_int HR0.out x5_1 p447 q447
     cases e447
     replace p447:=eq_true p447;replace q447:=eq_true q447
     go_wp2
     go_roundg k1
     case measure=>have:=HK1.out;omega
     case rel=>exact ⟨(wrap64 (x5_1 + 1)),val_,H',⟨by have:=HK1.out;omega⟩,by repeat (first | exact Drawn0.refl _ | apply Drawn0.step)⟩
   ·obtain rfl:=Option.some.inj H
    go_wp2
    go_ret
    exact ⟨val_,by repeat (first | exact Drawn0.refl _ | apply Drawn0.step)⟩
end Go.Proofs.YtkgkblmeafhkfaaGreat.PH

-- Written by a program of the session (wip/tools).
import Derived.Test.YtbeihceeliifeaaGreatDoorPRx0
import Derived.Test.YtbeihceeliifeaaGreatDoorPRx3
import Derived.Test.YtbeihceeliifeaaGreatDoorPRx7
import Derived.Test.YtbeihceeliifeaaGreatDoorPRx9
import Derived.Test.YtbeihceeliifeaaGreatDoorPRx14
namespace Go.Proofs.YtbeihceeliifeaaGreatDoor.PR
open Go.RowKit Go.Proofs.YtbeihceeliifeaaGreatDoorW.PrintWords Go.Proofs.YtbeihceeliifeaaGreatDoorW.PrintLast Go.Proofs.YtbeihceeliifeaaGreatDoorW.PrintMore
attribute [local go_sem] max2_int min2_int max_two min_two max_three min_three max_four min_four   -- for this text's walks alone
set_option linter.unusedVariables false
set_option linter.unusedSimpArgs false

/-! ### posthornlaw21_As: function 12 -/
def posthornlaw21_As.l0:Nat→Int→Int→Int→Int→Int→List Int→List Int→List (S53)→Int→Int→Int→Int→List Int→List Int→List (S54)→Option (Int×Int×Int×Int×List Int×List Int×(List (S54)))
 | 0,_,_,_,_,_,_,_,_,_,_,_,_,_,_,_=>none
 | k + 1,x4,x269000,x269001,x269002,x269003,x269004,x269005,x269006,x271000,x271001,x271002,x271003,x271004,x271005,x271006=>if x4 < (x269006.length:Int) then (if 0≤x4 then (if x271006.length < 8796093022208 then (posthornlaw21_As.l0 k (wrap64 (x4 + 1)) x269000 x269001 x269002 x269003 x269004 x269005 x269006 x271000 x271001 x271002 x271003 x271004 x271005 (x271006 ++ [(⟨(rd_T53 x269006 x4).f0,(rd_T53 x269006 x4).f1⟩:S54)])) else (none)) else (none)) else (some (x271000,x271001,x271002,x271003,x271004,x271005,x271006))
def posthornlaw21_As.f (k:Nat) (a0_0:Int) (a0_1:Int) (a0_2:Int) (a0_3:Int) (l0_4:List Int) (l0_5:List Int) (l0_6:List (S53)):Option (Int×Int×Int×Int×List Int×List Int×(List (S54))):=posthornlaw21_As.l0 k 0 a0_0 a0_1 a0_2 a0_3 l0_4 l0_5 l0_6 a0_0 a0_1 a0_2 a0_3 l0_4 l0_5 ([]:List (S54))
def posthornlaw21_As.T5:Bool×List (List Nat×List Nat):=(true,[([],[]),([0],[0]),([],[]),([2],[2]),([],[]),([3,4],[3,4]),([5],[5]),([6],[6]),([],[]),([8],[8]),([],[]),([9,10],[9,10]),([11],[11]),([12],[12]),([7,13],[7,13]),([14],[14]),([1,15],[1,15]),([0,1,2,3,4,5,6,7,8,9,10,11,12,13,14,15,16],[]),([17,16,16,0,1,2,3,4,5,6,7,8,9,10,11,12,13,14,15,16],[16,17])])
def posthornlaw21_As.B5:List Nat:=[0,1,0,4,0,28,60,124,0,256,0,1792,3840,7936,16380,32764,65535,131071,262143]
theorem posthornlaw21_As.tab5:rtab .any (opsOf Tryz.f12 5)=posthornlaw21_As.T5:=by kernel_rfl
theorem posthornlaw21_As.bits5:waitsOk posthornlaw21_As.T5.2 posthornlaw21_As.B5=true:=by kernel_rfl
set_option maxHeartbeats 8000000 in
set_option maxRecDepth 100000 in
theorem posthornlaw21_As.calls (k:Nat) (a0_0:Int) (a0_1:Int) (a0_2:Int) (a0_3:Int) (P0_4_:Nat→Prop) (A0_4:Option Addr) (c0_4:Nat) (l0_4:List Int) (P0_5_:Nat→Prop) (A0_5:Option Addr) (c0_5:Nat) (l0_5:List Int) (A0_6:Option Addr) (c0_6:Nat) (l0_6:List (S53)) (r1:Int) (r2:Int) (r3:Int) (r4:Int) (r5:List Int) (r6:List Int) (r7:List (S54)) (w:World) (hs0_4:Kd.V (Kd.int .i64) 3 w w.heap.size (fun k_=>P0_4_ k_) (.slice A0_4 l0_4.length c0_4) l0_4) (hs0_5:Kd.V (Kd.int .i64) 3 w w.heap.size (fun k_=>P0_5_ k_) (.slice A0_5 l0_5.length c0_5) l0_5) (hr0_6:Kd.C k53 w A0_6 l0_6.length l0_6) (hc0_6:l0_6.length≤c0_6) (h:posthornlaw21_As.f k a0_0 a0_1 a0_2 a0_3 l0_4 l0_5 l0_6=some (r1,r2,r3,r4,r5,r6,r7)) :
  Calls Tryz.prog 12 #[.agg #[.int .i64 a0_0,.int .i64 a0_1,.int .i64 a0_2,.int .i64 a0_3,.slice A0_4 l0_4.length c0_4,.slice A0_5 l0_5.length c0_5,.slice A0_6 l0_6.length c0_6]] w fun e w'=>∃ v4_ v5_ v6_:Value,e = .returned (.agg #[.int .i64 r1,.int .i64 r2,.int .i64 r3,.int .i64 r4,v4_,v5_,v6_])∧Kd.V (Kd.int .i64) 3 w' w.heap.size (fun k_=>((P0_4_ k_∨P0_5_ k_)∨w.heap.size≤k_)∧some k_≠(v6_:Value).ownBlock) v4_ r5∧Kd.V (Kd.int .i64) 3 w' w.heap.size (fun k_=>((P0_4_ k_∨P0_5_ k_)∨w.heap.size≤k_)∧some k_≠(v6_:Value).ownBlock) v5_ r6∧Kd.R k54 54 w' w.heap.size (fun k_=>(w.heap.size≤k_)) v6_ r7∧Below w.heap.size w w':=by
 have hu25:=Tryz.underlying25;have hu34:=Tryz.underlying34;have hu54:=Tryz.underlying54;have HO0_4:=ad_ (show Kd.V (Kd.int .i64) 3 w w.heap.size (fun k_=>((P0_4_ k_∨P0_5_ k_)∨w.heap.size≤k_)) (.slice A0_4 l0_4.length c0_4) l0_4 from Kd.V_mono hs0_4 (fun k_ hk=>.inl (.inl hk)));have HO0_5:=ad_ (show Kd.V (Kd.int .i64) 3 w w.heap.size (fun k_=>((P0_4_ k_∨P0_5_ k_)∨w.heap.size≤k_)) (.slice A0_5 l0_5.length c0_5) l0_5 from Kd.V_mono hs0_5 (fun k_ hk=>.inl (.inr hk)));have HR0_6:=Aside0.mk hr0_6;have HC0_6:=Aside0.mk hc0_6;clear hr0_6 hc0_6;have HB:=ad_ (Below.refl w.heap.size w);have H:(posthornlaw21_As.l0 k 0 a0_0 a0_1 a0_2 a0_3 l0_4 l0_5 l0_6 a0_0 a0_1 a0_2 a0_3 l0_4 l0_5 ([]:List (S54)))=some (r1,r2,r3,r4,r5,r6,r7):=h;clear h;have H':=ad_ H;clear H
 go_enter Tryz.func12,Tryz.ntmps12
 go_wp2_with (first | ((with_reducible refine gate_dst (N:=1) rfl ?_);refine box_event ?hg (N:=1) ?hd (cs:=#[.int .i64 a0_0,.int .i64 a0_1,.int .i64 a0_2,.int .i64 a0_3,.slice A0_4 l0_4.length c0_4,.slice A0_5 l0_5.length c0_5,.slice A0_6 l0_6.length c0_6]) (t:=25) ?hr ?_;(case hd=>rfl);(case hg=>rfl);(case hr=>first | (go_simp;done) | (go_simp;rfl));intro gb268 hg w2 hbox hb;replace HO0_4:=ad_ (Kd.V_below (Kd.V_elderB (vod_ (HO0_4.out)) gb268 (Nat.le_of_eq hg.symm)) hb);replace HO0_5:=ad_ (Kd.V_below (Kd.V_elderB (vod_ (HO0_5.out)) gb268 (Nat.le_of_eq hg.symm)) hb);have BK268:=ad_ (hbox);have GW268:=ad_ ((by rw [hg];exact (below_size bel_):w.heap.size≤gb268));have GE268:=ad_ ((by rw [hg];exact (below_size bel_):w.heap.size≤gb268));replace HB:=hbb_ hb;clear hb hbox hg) | ((with_reducible refine gate_dst (N:=2) rfl ?_);refine box_event ?hg (N:=2) ?hd (cs:=#[.int .i64 0,.int .i64 0,.int .i64 0,.int .i64 0,.slice none 0 0,.slice none 0 0,.slice none 0 0]) (t:=34) ?hr ?_;(case hd=>rfl);(case hg=>rfl);(case hr=>first | (go_simp;done) | (go_simp;rfl));intro gb269 hg w3 hbox hb;replace HO0_4:=ad_ (Kd.V_below (Kd.V_elderB (vod_ (HO0_4.out)) gb269 (Nat.le_of_eq hg.symm)) hb);replace HO0_5:=ad_ (Kd.V_below (Kd.V_elderB (vod_ (HO0_5.out)) gb269 (Nat.le_of_eq hg.symm)) hb);have BK269:=ad_ (hbox);have GW269:=ad_ ((by rw [hg];exact (below_size belg_):w.heap.size≤gb269));have GE269:=ad_ ((by rw [hg];exact (below_size belg_):w.heap.size≤gb269));replace HB:=hbb_ hb;have NB268_269:=ad_ ((by rw [hg];exact Nat.ne_of_lt (blk_lt (g:=gb268) (o:=.cells #[.int .i64 a0_0,.int .i64 a0_1,.int .i64 a0_2,.int .i64 a0_3,.slice A0_4 l0_4.length c0_4,.slice A0_5 l0_5.length c0_5,.slice A0_6 l0_6.length c0_6] 25 (0,0)) (blo_ BK268.out)):gb268≠gb269));have NB269_268:=ad_ ((by rw [hg];exact Nat.ne_of_gt (blk_lt (g:=gb268) (o:=.cells #[.int .i64 a0_0,.int .i64 a0_1,.int .i64 a0_2,.int .i64 a0_3,.slice A0_4 l0_4.length c0_4,.slice A0_5 l0_5.length c0_5,.slice A0_6 l0_6.length c0_6] 25 (0,0)) (blo_ BK268.out)):gb269≠gb268));replace BK268:=ad_ (blk_below (g:=gb268) (o:=.cells #[.int .i64 a0_0,.int .i64 a0_1,.int .i64 a0_2,.int .i64 a0_3,.slice A0_4 l0_4.length c0_4,.slice A0_5 l0_5.length c0_5,.slice A0_6 l0_6.length c0_6] 25 (0,0)) (blo_ BK268.out) hb);clear hb hbox hg;have hnb4:=NB268_269.out;have hnc4:=NB269_268.out;have hcz5_:=cells7_ BK268.out) | ((with_reducible refine gate_dst (N:=3) rfl ?_);refine box_event ?hg (N:=3) ?hd (cs:=#[.int .i64 0,.int .i64 0,.int .i64 0,.int .i64 0,.slice none 0 0,.slice none 0 0,.slice none 0 0]) (t:=34) ?hr ?_;(case hd=>rfl);(case hg=>rfl);(case hr=>first | (go_simp;done) | (go_simp;rfl));intro gb270 hg w6 hbox hb;replace HO0_4:=ad_ (Kd.V_below (Kd.V_elderB (vod_ (HO0_4.out)) gb270 (Nat.le_of_eq hg.symm)) hb);replace HO0_5:=ad_ (Kd.V_below (Kd.V_elderB (vod_ (HO0_5.out)) gb270 (Nat.le_of_eq hg.symm)) hb);have BK270:=ad_ (hbox);have GW270:=ad_ ((by rw [hg];exact (below_size belg_):w.heap.size≤gb270));have GE270:=ad_ ((by rw [hg];exact (below_size belg_):w.heap.size≤gb270));replace HB:=hbb_ hb;have NB268_270:=ad_ ((by rw [hg];exact Nat.ne_of_lt (blk_lt (g:=gb268) (o:=.cells #[.int .i64 a0_0,.int .i64 a0_1,.int .i64 a0_2,.int .i64 a0_3,.slice A0_4 l0_4.length c0_4,.slice A0_5 l0_5.length c0_5,.slice A0_6 l0_6.length c0_6] 25 (0,0)) (blo_ BK268.out)):gb268≠gb270));have NB270_268:=ad_ ((by rw [hg];exact Nat.ne_of_gt (blk_lt (g:=gb268) (o:=.cells #[.int .i64 a0_0,.int .i64 a0_1,.int .i64 a0_2,.int .i64 a0_3,.slice A0_4 l0_4.length c0_4,.slice A0_5 l0_5.length c0_5,.slice A0_6 l0_6.length c0_6] 25 (0,0)) (blo_ BK268.out)):gb270≠gb268));replace BK268:=ad_ (blk_below (g:=gb268) (o:=.cells #[.int .i64 a0_0,.int .i64 a0_1,.int .i64 a0_2,.int .i64 a0_3,.slice A0_4 l0_4.length c0_4,.slice A0_5 l0_5.length c0_5,.slice A0_6 l0_6.length c0_6] 25 (0,0)) (blo_ BK268.out) hb);have NB269_270:=ad_ ((by rw [hg];exact Nat.ne_of_lt (blk_lt (g:=gb269) (o:=.cells #[.int .i64 0,.int .i64 0,.int .i64 0,.int .i64 0,.slice none 0 0,.slice none 0 0,.slice none 0 0] 34 (0,0)) (blo_ BK269.out)):gb269≠gb270));have NB270_269:=ad_ ((by rw [hg];exact Nat.ne_of_gt (blk_lt (g:=gb269) (o:=.cells #[.int .i64 0,.int .i64 0,.int .i64 0,.int .i64 0,.slice none 0 0,.slice none 0 0,.slice none 0 0] 34 (0,0)) (blo_ BK269.out)):gb270≠gb269));replace BK269:=ad_ (blk_below (g:=gb269) (o:=.cells #[.int .i64 0,.int .i64 0,.int .i64 0,.int .i64 0,.slice none 0 0,.slice none 0 0,.slice none 0 0] 34 (0,0)) (blo_ BK269.out) hb);clear hb hbox hg;have hnb7:=NB270_268.out;have hnc7:=NB268_270.out;have hnb8:=NB270_269.out;have hnc8:=NB269_270.out;have hcz9_:=cells7_ BK270.out))
 go_loopg [4] k (fun kq v4 w'=>∃ (x4_1:Int) (x271006_1:List (S54)) (u271006:Value),v4 = .int .i64 x4_1∧Aside0 (posthornlaw21_As.l0 kq x4_1 a0_0 a0_1 a0_2 a0_3 l0_4 l0_5 l0_6 a0_0 a0_1 a0_2 a0_3 l0_4 l0_5 x271006_1=some (r1,r2,r3,r4,r5,r6,r7))∧Aside0 (kq≤k)∧Aside0 (Kd.V (Kd.int .i64) 3 w' w.heap.size (fun k_=>((P0_4_ k_∨P0_5_ k_)∨w.heap.size≤k_)∧some k_≠(u271006:Value).ownBlock∧k_≠gb268∧k_≠gb269∧k_≠gb270) (.slice A0_4 l0_4.length c0_4) l0_4)∧Aside0 (Kd.V (Kd.int .i64) 3 w' w.heap.size (fun k_=>((P0_4_ k_∨P0_5_ k_)∨w.heap.size≤k_)∧some k_≠(u271006:Value).ownBlock∧k_≠gb268∧k_≠gb269∧k_≠gb270) (.slice A0_5 l0_5.length c0_5) l0_5)∧Aside0 (Kd.V (Kd.int .i64) 3 w' w.heap.size (fun k_=>((P0_4_ k_∨P0_5_ k_)∨w.heap.size≤k_)∧some k_≠(u271006:Value).ownBlock∧k_≠gb268∧k_≠gb269∧k_≠gb270) (.slice A0_4 l0_4.length c0_4) l0_4)∧Aside0 (Kd.V (Kd.int .i64) 3 w' w.heap.size (fun k_=>((P0_4_ k_∨P0_5_ k_)∨w.heap.size≤k_)∧some k_≠(u271006:Value).ownBlock∧k_≠gb268∧k_≠gb269∧k_≠gb270) (.slice A0_5 l0_5.length c0_5) l0_5)∧Aside0 (Kd.R k54 54 w' w.heap.size (fun k_=>(w.heap.size≤k_)) u271006 x271006_1)∧Aside0 (w'.heap[gb268]? = some (.cells #[.int .i64 a0_0,.int .i64 a0_1,.int .i64 a0_2,.int .i64 a0_3,(.slice A0_4 l0_4.length c0_4),(.slice A0_5 l0_5.length c0_5),(.slice A0_6 l0_6.length c0_6)] 25 (0,0)))∧Aside0 (w'.heap[gb269]? = some (.cells #[.int .i64 0,.int .i64 0,.int .i64 0,.int .i64 0,(.slice none 0 0),(.slice none 0 0),(.slice none 0 0)] 34 (0,0)))∧Aside0 (w'.heap[gb270]? = some (.cells #[.int .i64 a0_0,.int .i64 a0_1,.int .i64 a0_2,.int .i64 a0_3,(.slice A0_4 l0_4.length c0_4),(.slice A0_5 l0_5.length c0_5),u271006] 34 (0,0)))∧Aside0 (Below w.heap.size w w'))
 case atStart=>exact ⟨(0),(([]:List (S54))),(.slice none 0 0),val_,H',⟨Nat.le_refl _⟩,⟨by (with_reducible repeat (first | apply Kd.V_alloc | apply Kd.V_drewN | apply Kd.V_drew));exact Kd.V_mono (vfar_ (Kd.V_mono HO0_4.out (fun k_ hk=>(⟨hk,hk.2⟩:_∧k_≠gb270)))) (fun _ hk=>⟨hk.1.1.1.1,⟨(by simp [Value.ownBlock]),⟨hk.1.1.1.2,⟨hk.1.1.2,hk.1.2⟩⟩⟩⟩)⟩,⟨by (with_reducible repeat (first | apply Kd.V_alloc | apply Kd.V_drewN | apply Kd.V_drew));exact Kd.V_mono (vfar_ (Kd.V_mono HO0_5.out (fun k_ hk=>(⟨hk,hk.2⟩:_∧k_≠gb270)))) (fun _ hk=>⟨hk.1.1.1.1,⟨(by simp [Value.ownBlock]),⟨hk.1.1.1.2,⟨hk.1.1.2,hk.1.2⟩⟩⟩⟩)⟩,⟨by (with_reducible repeat (first | apply Kd.V_alloc | apply Kd.V_drewN | apply Kd.V_drew));exact Kd.V_mono (vfar_ (Kd.V_mono HO0_4.out (fun k_ hk=>(⟨hk,hk.2⟩:_∧k_≠gb270)))) (fun _ hk=>⟨hk.1.1.1.1,⟨(by simp [Value.ownBlock]),⟨hk.1.1.1.2,⟨hk.1.1.2,hk.1.2⟩⟩⟩⟩)⟩,⟨by (with_reducible repeat (first | apply Kd.V_alloc | apply Kd.V_drewN | apply Kd.V_drew));exact Kd.V_mono (vfar_ (Kd.V_mono HO0_5.out (fun k_ hk=>(⟨hk,hk.2⟩:_∧k_≠gb270)))) (fun _ hk=>⟨hk.1.1.1.1,⟨(by simp [Value.ownBlock]),⟨hk.1.1.1.2,⟨hk.1.1.2,hk.1.2⟩⟩⟩⟩)⟩,⟨by first | exact Kd.R_nil _ _ _ _ _ | exact Kd.N_nil _ _ _ _ _ | exact Kd.V_nil _ _ _ _ _ | exact Kd.Q_nil _ _ _ _ _ | exact Kd.S_nil _ _ _ _ _⟩,⟨blf_ BK268.out⟩,⟨blf_ BK269.out⟩,⟨by refine blo_ ?_;refine blk_put (cs:=#[.int .i64 a0_0,.int .i64 a0_1,.int .i64 a0_2,.int .i64 a0_3,.slice A0_4 l0_4.length c0_4,.slice A0_5 l0_5.length c0_5,.slice none 0 0]) ?_ 6 _ rfl;refine blo_ ?_;refine blk_put (cs:=#[.int .i64 a0_0,.int .i64 a0_1,.int .i64 a0_2,.int .i64 a0_3,.slice A0_4 l0_4.length c0_4,.slice none 0 0,.slice none 0 0]) ?_ 5 _ rfl;refine blo_ ?_;refine blk_put (cs:=#[.int .i64 a0_0,.int .i64 a0_1,.int .i64 a0_2,.int .i64 a0_3,.slice none 0 0,.slice none 0 0,.slice none 0 0]) ?_ 4 _ rfl;refine blo_ ?_;refine blk_put (cs:=#[.int .i64 a0_0,.int .i64 a0_1,.int .i64 a0_2,.int .i64 0,.slice none 0 0,.slice none 0 0,.slice none 0 0]) ?_ 3 _ rfl;refine blo_ ?_;refine blk_put (cs:=#[.int .i64 a0_0,.int .i64 a0_1,.int .i64 0,.int .i64 0,.slice none 0 0,.slice none 0 0,.slice none 0 0]) ?_ 2 _ rfl;refine blo_ ?_;refine blk_put (cs:=#[.int .i64 a0_0,.int .i64 0,.int .i64 0,.int .i64 0,.slice none 0 0,.slice none 0 0,.slice none 0 0]) ?_ 1 _ rfl;refine blo_ ?_;refine blk_put (cs:=#[.int .i64 0,.int .i64 0,.int .i64 0,.int .i64 0,.slice none 0 0,.slice none 0 0,.slice none 0 0]) ?_ 0 _ rfl;exact blo_ BK270.out⟩,⟨belg_⟩⟩
 case round =>
  clear H';(try clear c1);(try clear p2);(try clear c4);(try clear c7);(try clear c8);(try clear hcz5_);(try clear hcz9_);obtain ⟨x4_1,x271006_1,u271006,rfl,HA,HK1,HO_269004,HO_269005,HO_271004,HO_271005,HO_271006,BK268,BK269,BK270,HB⟩:=hrel
  cases gk with
  | zero=>exact absurd HA.out (by simp [posthornlaw21_As.l0])
  | succ k1 =>
   have H:=HA.out;clear HA
   simp only [posthornlaw21_As.l0] at H
   by_cases c10:x4_1 < (l0_6.length:Int)
   ·rw [if_pos c10] at H;have c10b0:decide (x4_1 < (l0_6.length:Int))=true:=decide_eq_true c10;clear c10
    by_cases c11:0≤x4_1
    ·rw [if_pos c11] at H;have c11b0:decide (0≤x4_1)=true:=decide_eq_true c11;clear c11
     by_cases c12:x271006_1.length < 8796093022208
     ·rw [if_pos c12] at H;have LMc12:=Aside0.mk c12;clear c12;obtain ⟨y273,hy273⟩:∃ y_:List (S54),y_=(x271006_1 ++ [(⟨(rd_T53 l0_6 x4_1).f0,(rd_T53 l0_6 x4_1).f1⟩:S54)]):=⟨_,rfl⟩
      replace H:(posthornlaw21_As.l0 k1 (wrap64 (x4_1 + 1)) a0_0 a0_1 a0_2 a0_3 l0_4 l0_5 l0_6 a0_0 a0_1 a0_2 a0_3 l0_4 l0_5 y273)=some (r1,r2,r3,r4,r5,r6,r7):=by first | (rw [hy273];with_reducible exact H) | (have H2_:=(Option.bind_some _ _).symm.trans H;rw [hy273];with_reducible exact H2_) | (have H2_:=(Option.bind_some _ _).symm.trans H;with_reducible exact H2_) | with_reducible exact H | (rw [hy273];exact H) | exact H
      have Ny273:=Aside0.mk hy273;clear hy273;have H':=ad_ H;clear H;have hnb13:=NB268_269.out;have hnc13:=NB269_268.out;have hnb14:=NB268_270.out;have hnc14:=NB270_268.out;have hcz15_:=cells7_ BK268.out
      try go_wp2
      have n0_:=ad_ (Kd.V_drew HO_269004.out);have n1_:=ad_ (Kd.V_drew HO_269005.out);have n2_:=ad_ (Kd.V_drew HO_271004.out);have n3_:=ad_ (Kd.V_drew HO_271005.out);have n4_:=ad_ (Kd.R_drew HO_271006.out);have n5_:=ad_ (blk_drew BK268.out);have n6_:=ad_ (blk_drew BK269.out);have n7_:=ad_ (blk_drew BK270.out);have n8_:=ad_ (below_drew1 HB.out);clear HO_269004;clear HO_269005;clear HO_271004;clear HO_271005;clear HO_271006;clear BK268;clear BK269;clear BK270;clear HB;have HO_269004:=n0_;have HO_269005:=n1_;have HO_271004:=n2_;have HO_271005:=n3_;have HO_271006:=n4_;have BK268:=n5_;have BK269:=n6_;have BK270:=n7_;have HB:=n8_;clear n0_ n1_ n2_ n3_ n4_ n5_ n6_ n7_ n8_;have p271:0≤(x4_1:Int):=dec_;have q271:x4_1 < (l0_6.length:Int):=dec_;obtain ⟨ad271,e271,hx271_0,hx271_1⟩:=at_T53 HR0_6.out x4_1 p271 q271;have hw271_1:=hx271_1;have hw271_0:=hx271_0
      cases e271
      replace hx271_0:=(HB.out.cell (World.block_lt_of_cell? w _ hx271_0)).trans hx271_0;replace hx271_1:=(HB.out.cell (World.block_lt_of_cell? w _ hx271_1)).trans hx271_1;replace p271:=eq_true p271;replace q271:=eq_true q271;have p272:0≤(x4_1:Int):=dec_;have q272:x4_1 < (l0_6.length:Int):=dec_;obtain ⟨ad272,e272,hx272_0,hx272_1⟩:=at_T53 HR0_6.out x4_1 p272 q272;have hw272_1:=hx272_1;have hw272_0:=hx272_0;obtain rfl:ad271=ad272:=(by injection e272);replace hx272_0:=(HB.out.cell (World.block_lt_of_cell? w _ hx272_0)).trans hx272_0;replace hx272_1:=(HB.out.cell (World.block_lt_of_cell? w _ hx272_1)).trans hx272_1;replace p272:=eq_true p272;replace q272:=eq_true q272
      refine start_ (n:=19) (S:=fun w'=>w'.cell? ⟨gb270,0,none⟩=some (.int .i64 a0_0)∧w'.cell? ⟨gb270,1,none⟩=some (.int .i64 a0_1)∧w'.cell? ⟨gb270,2,none⟩=some (.int .i64 a0_2)∧w'.cell? ⟨gb270,3,none⟩=some (.int .i64 a0_3)∧w'.cell? ⟨gb270,4,none⟩=some (.slice A0_4 l0_4.length c0_4)∧w'.cell? ⟨gb270,5,none⟩=some (.slice A0_5 l0_5.length c0_5)∧w'.cell? ⟨gb270,6,none⟩=some (u271006)∧w'.cell? ⟨gb268,0,none⟩=some (.int .i64 a0_0)∧w'.cell? ⟨gb268,1,none⟩=some (.int .i64 a0_1)∧w'.cell? ⟨gb268,2,none⟩=some (.int .i64 a0_2)∧w'.cell? ⟨gb268,3,none⟩=some (.int .i64 a0_3)∧w'.cell? ⟨gb268,4,none⟩=some (.slice A0_4 l0_4.length c0_4)∧w'.cell? ⟨gb268,5,none⟩=some (.slice A0_5 l0_5.length c0_5)∧w'.cell? ⟨gb268,6,none⟩=some (.slice (some ad271) l0_6.length c0_6)∧w'.cell? (ad271.add ((x4_1).toNat * 2))=some (.int .i64 ((rd_T53 l0_6 x4_1).f0))∧w'.cell? ⟨(ad271.add ((x4_1).toNat * 2)).block,(ad271.add ((x4_1).toNat * 2)).off + 1,none⟩=some (.int .i64 ((rd_T53 l0_6 x4_1).f1))∧w'.cell? (ad271.add ((x4_1).toNat * 2))=some (.int .i64 ((rd_T53 l0_6 x4_1).f0))∧w'.cell? ⟨(ad271.add ((x4_1).toNat * 2)).block,(ad271.add ((x4_1).toNat * 2)).off + 1,none⟩=some (.int .i64 ((rd_T53 l0_6 x4_1).f1))) (ds:=[18]) (.replicate 19 false) (by kernel_rfl) rfl rfl ⟨bc_ BK270,bc_ BK270,bc_ BK270,bc_ BK270,bc_ BK270,bc_ BK270,bc_ BK270,bc_ BK268,bc_ BK268,bc_ BK268,bc_ BK268,bc_ BK268,bc_ BK268,bc_ BK268,((HB.out.cell (World.block_lt_of_cell? w _ hw271_0)).trans hw271_0),((HB.out.cell (World.block_lt_of_cell? w _ hw271_1)).trans hw271_1),((HB.out.cell (World.block_lt_of_cell? w _ hw272_0)).trans hw272_0),((HB.out.cell (World.block_lt_of_cell? w _ hw272_1)).trans hw272_1)⟩ (fun hHeld=>?_);refine with_tabW posthornlaw21_As.tab5 posthornlaw21_As.bits5 (fun HT_ HW_=>?_)
      generalize wr.drew=w16 at HO_269004 HO_269005 HO_271004 HO_271005 HO_271006 BK268 BK269 BK270 HB hx271_0 hx271_1 hx272_0 hx272_1 hHeld ⊢
      refine pure_ (i:=0) (N:=some 25) (v:=?_) (a':=?_) #[true,false,false,false,false,false,false,false,false,false,false,false,false,false,false,false,false,false,false] rfl rfl (any_of HT_.out (by kernel_rfl)) (fun _ _ _ h=>h) (Or.inl ⟨by rfl,?_⟩) ?_ ?_
      rotate_left
      ·intro w'
       go_simp
       with_reducible rfl
      rotate_left
      ·simp only [Act.put,List.setIfInBounds_toArray,List.set_cons_zero,List.set_cons_succ,i64_w,i32_w]
       rfl
      refine pure_ (i:=2) (N:=some 27) (v:=?_) (a':=?_) #[true,false,true,false,false,false,false,false,false,false,false,false,false,false,false,false,false,false,false] rfl rfl (any_of HT_.out (by kernel_rfl)) (fun _ _ _ h=>h) (Or.inl ⟨by rfl,?_⟩) ?_ ?_
      rotate_left
      ·intro w'
       go_simp
       with_reducible rfl
      rotate_left
      ·simp only [Act.put,List.setIfInBounds_toArray,List.set_cons_zero,List.set_cons_succ,i64_w,i32_w]
       rfl
      refine pure_ (i:=4) (N:=some 29) (v:=?_) (a':=?_) #[true,false,true,false,true,false,false,false,false,false,false,false,false,false,false,false,false,false,false] rfl rfl (any_of HT_.out (by kernel_rfl)) (fun _ _ _ h=>h) (Or.inl ⟨by rfl,?_⟩) ?_ ?_
      rotate_left
      ·intro w'
       go_simp
       with_reducible rfl
      rotate_left
      ·simp only [Act.put,List.setIfInBounds_toArray,List.set_cons_zero,List.set_cons_succ,i64_w,i32_w]
       rfl
      refine pure_ (i:=8) (N:=some 33) (v:=?_) (a':=?_) #[true,false,true,false,true,false,false,false,true,false,false,false,false,false,false,false,false,false,false] rfl rfl (any_of HT_.out (by kernel_rfl)) (fun _ _ _ h=>h) (Or.inl ⟨by rfl,?_⟩) ?_ ?_
      rotate_left
      ·intro w'
       go_simp
       with_reducible rfl
      rotate_left
      ·simp only [Act.put,List.setIfInBounds_toArray,List.set_cons_zero,List.set_cons_succ,i64_w,i32_w]
       rfl
      refine pure_ (i:=10) (N:=some 35) (v:=?_) (a':=?_) #[true,false,true,false,true,false,false,false,true,false,true,false,false,false,false,false,false,false,false] rfl rfl (any_of HT_.out (by kernel_rfl)) (fun _ _ _ h=>h) (Or.inl ⟨by rfl,?_⟩) ?_ ?_
      rotate_left
      ·intro w'
       go_simp
       with_reducible rfl
      rotate_left
      ·simp only [Act.put,List.setIfInBounds_toArray,List.set_cons_zero,List.set_cons_succ,i64_w,i32_w]
       rfl
      refine take_ (i:=1) (N:=some 26) (v:=?_) (a':=?_) #[true,true,true,false,true,false,false,false,true,false,true,false,false,false,false,false,false,false,false] rfl rfl (take_ofW HT_.out HW_.out (by kernel_rfl)) (fun _ _ _ h=>h) (Or.inl ⟨by rfl,?_⟩) hHeld ?_ ?_
      rotate_left
      ·rintro w' ⟨s0,s1,s2,s3,s4,s5,s6,s7,s8,s9,s10,s11,s12,s13,s14,s15,s16,s17⟩
       go_simp
       with_reducible rfl
      rotate_left
      ·simp only [Act.put,List.setIfInBounds_toArray,List.set_cons_zero,List.set_cons_succ,i64_w,i32_w]
       rfl
      refine take_ (i:=3) (N:=some 28) (v:=?_) (a':=?_) #[true,true,true,true,true,false,false,false,true,false,true,false,false,false,false,false,false,false,false] rfl rfl (take_ofW HT_.out HW_.out (by kernel_rfl)) (fun _ _ _ h=>h) (Or.inl ⟨by rfl,?_⟩) hHeld ?_ ?_
      rotate_left
      ·rintro w' ⟨s0,s1,s2,s3,s4,s5,s6,s7,s8,s9,s10,s11,s12,s13,s14,s15,s16,s17⟩
       go_simp
       with_reducible rfl
      rotate_left
      ·simp only [Act.put,List.setIfInBounds_toArray,List.set_cons_zero,List.set_cons_succ,i64_w,i32_w]
       rfl
      refine pure_ (i:=5) (N:=some 30) (v:=?_) (a':=?_) #[true,true,true,true,true,true,false,false,true,false,true,false,false,false,false,false,false,false,false] rfl rfl (any_of HT_.out (by kernel_rfl)) (fun _ _ _ h=>h) (Or.inl ⟨by rfl,?_⟩) ?_ ?_
      rotate_left
      ·intro w'
       go_simp
       with_reducible rfl
      rotate_left
      ·simp only [Act.put,List.setIfInBounds_toArray,List.set_cons_zero,List.set_cons_succ,i64_w,i32_w]
       rfl
      refine pure_ (i:=6) (N:=some 31) (v:=?_) (a':=?_) #[true,true,true,true,true,true,true,false,true,false,true,false,false,false,false,false,false,false,false] rfl rfl (any_of HT_.out (by kernel_rfl)) (fun _ _ _ h=>h) (Or.inl ⟨by rfl,?_⟩) ?_ ?_
      rotate_left
      ·intro w'
       go_simp
       with_reducible rfl
      rotate_left
      ·simp only [Act.put,List.setIfInBounds_toArray,List.set_cons_zero,List.set_cons_succ,i64_w,i32_w]
       rfl
      refine take_ (i:=7) (N:=some 32) (v:=?_) (a':=?_) #[true,true,true,true,true,true,true,true,true,false,true,false,false,false,false,false,false,false,false] rfl rfl (take_ofW HT_.out HW_.out (by kernel_rfl)) (fun _ _ _ h=>h) (Or.inl ⟨by rfl,?_⟩) hHeld ?_ ?_
      rotate_left
      ·rintro w' ⟨s0,s1,s2,s3,s4,s5,s6,s7,s8,s9,s10,s11,s12,s13,s14,s15,s16,s17⟩
       go_simp
       with_reducible rfl
      rotate_left
      ·simp only [Act.put,List.setIfInBounds_toArray,List.set_cons_zero,List.set_cons_succ,i64_w,i32_w]
       rfl
      refine take_ (i:=9) (N:=some 34) (v:=?_) (a':=?_) #[true,true,true,true,true,true,true,true,true,true,true,false,false,false,false,false,false,false,false] rfl rfl (take_ofW HT_.out HW_.out (by kernel_rfl)) (fun _ _ _ h=>h) (Or.inl ⟨by rfl,?_⟩) hHeld ?_ ?_
      rotate_left
      ·rintro w' ⟨s0,s1,s2,s3,s4,s5,s6,s7,s8,s9,s10,s11,s12,s13,s14,s15,s16,s17⟩
       go_simp
       with_reducible rfl
      rotate_left
      ·simp only [Act.put,List.setIfInBounds_toArray,List.set_cons_zero,List.set_cons_succ,i64_w,i32_w]
       rfl
      refine pure_ (i:=11) (N:=some 36) (v:=?_) (a':=?_) #[true,true,true,true,true,true,true,true,true,true,true,true,false,false,false,false,false,false,false] rfl rfl (any_of HT_.out (by kernel_rfl)) (fun _ _ _ h=>h) (Or.inl ⟨by rfl,?_⟩) ?_ ?_
      rotate_left
      ·intro w'
       go_simp
       with_reducible rfl
      rotate_left
      ·simp only [Act.put,List.setIfInBounds_toArray,List.set_cons_zero,List.set_cons_succ,i64_w,i32_w]
       rfl
      refine pure_ (i:=12) (N:=some 37) (v:=?_) (a':=?_) #[true,true,true,true,true,true,true,true,true,true,true,true,true,false,false,false,false,false,false] rfl rfl (any_of HT_.out (by kernel_rfl)) (fun _ _ _ h=>h) (Or.inl ⟨by rfl,?_⟩) ?_ ?_
      rotate_left
      ·intro w'
       go_simp
       with_reducible rfl
      rotate_left
      ·simp only [Act.put,List.setIfInBounds_toArray,List.set_cons_zero,List.set_cons_succ,i64_w,i32_w]
       rfl
      refine take_ (i:=13) (N:=some 38) (v:=?_) (a':=?_) #[true,true,true,true,true,true,true,true,true,true,true,true,true,true,false,false,false,false,false] rfl rfl (take_ofW HT_.out HW_.out (by kernel_rfl)) (fun _ _ _ h=>h) (Or.inl ⟨by rfl,?_⟩) hHeld ?_ ?_
      rotate_left
      ·rintro w' ⟨s0,s1,s2,s3,s4,s5,s6,s7,s8,s9,s10,s11,s12,s13,s14,s15,s16,s17⟩
       go_simp
       with_reducible rfl
      rotate_left
      ·simp only [Act.put,List.setIfInBounds_toArray,List.set_cons_zero,List.set_cons_succ,i64_w,i32_w]
       rfl
      refine pure_ (i:=14) (N:=some 39) (v:=?_) (a':=?_) #[true,true,true,true,true,true,true,true,true,true,true,true,true,true,true,false,false,false,false] rfl rfl (any_of HT_.out (by kernel_rfl)) (fun _ _ _ h=>h) (Or.inl ⟨by rfl,?_⟩) ?_ ?_
      rotate_left
      ·intro w'
       go_simp
       with_reducible rfl
      rotate_left
      ·simp only [Act.put,List.setIfInBounds_toArray,List.set_cons_zero,List.set_cons_succ,i64_w,i32_w]
       rfl
      refine one_ (i:=15) (N:=some 40) #[true,true,true,true,true,true,true,true,true,true,true,true,true,true,true,true,false,false,false] rfl rfl (one_of HT_.out (by kernel_rfl)) (by decide) (fun K hK=>?_)
      refine value_ (w1:=?_) (v:=?_) (by rfl) rfl ?_ ?_
      rotate_left 2
      ·go_simp
       constructor
       ·rfl
       ·rfl
      refine hK.out _ _ ⟨(blk_cell (blk_alloc BK270.out _) 0).trans rfl,(blk_cell (blk_alloc BK270.out _) 1).trans rfl,(blk_cell (blk_alloc BK270.out _) 2).trans rfl,(blk_cell (blk_alloc BK270.out _) 3).trans rfl,(blk_cell (blk_alloc BK270.out _) 4).trans rfl,(blk_cell (blk_alloc BK270.out _) 5).trans rfl,(blk_cell (blk_alloc BK270.out _) 6).trans rfl,(blk_cell (blk_alloc BK268.out _) 0).trans rfl,(blk_cell (blk_alloc BK268.out _) 1).trans rfl,(blk_cell (blk_alloc BK268.out _) 2).trans rfl,(blk_cell (blk_alloc BK268.out _) 3).trans rfl,(blk_cell (blk_alloc BK268.out _) 4).trans rfl,(blk_cell (blk_alloc BK268.out _) 5).trans rfl,(blk_cell (blk_alloc BK268.out _) 6).trans rfl,(World.cell?_alloc_lt _ _ _ (World.block_lt_of_cell? _ _ (((HB.out.cell (World.block_lt_of_cell? w _ hw271_0)).trans hw271_0)))).trans (((HB.out.cell (World.block_lt_of_cell? w _ hw271_0)).trans hw271_0)),(World.cell?_alloc_lt _ _ _ (World.block_lt_of_cell? _ _ (((HB.out.cell (World.block_lt_of_cell? w _ hw271_1)).trans hw271_1)))).trans (((HB.out.cell (World.block_lt_of_cell? w _ hw271_1)).trans hw271_1)),(World.cell?_alloc_lt _ _ _ (World.block_lt_of_cell? _ _ (((HB.out.cell (World.block_lt_of_cell? w _ hw272_0)).trans hw272_0)))).trans (((HB.out.cell (World.block_lt_of_cell? w _ hw272_0)).trans hw272_0)),(World.cell?_alloc_lt _ _ _ (World.block_lt_of_cell? _ _ (((HB.out.cell (World.block_lt_of_cell? w _ hw272_1)).trans hw272_1)))).trans (((HB.out.cell (World.block_lt_of_cell? w _ hw272_1)).trans hw272_1))⟩ (fun hHeld=>?_)
      clear hK K
      refine norm_ (a':=?_) ?_ ?_
      rotate_left
      ·show Act.put _ (some 40) _=_
       simp only [Act.put,List.setIfInBounds_toArray,List.set_cons_zero,List.set_cons_succ,i64_w,i32_w]
       rfl
      refine one_ (i:=16) (N:=some 41) #[true,true,true,true,true,true,true,true,true,true,true,true,true,true,true,true,true,false,false] rfl rfl (one_of HT_.out (by kernel_rfl)) (by decide) (fun K hK=>?_)
      refine Kd.R_append_step k54 (w0:=w) w.heap.size (by rfl) (.tmp 26) (.tmp 40) 32 54 (.agg #[(.int .i64 0),(.int .i64 0)]) 16 rfl Tryz.underlying32 info54 rfl (by decide) (by omega) u271006 x271006_1 (⟨(rd_T53 l0_6 x4_1).f0,(rd_T53 l0_6 x4_1).f1⟩:S54) [.int .i64 ((rd_T53 l0_6 x4_1).f0),.int .i64 ((rd_T53 l0_6 x4_1).f1)] (fun k_=>(w.heap.size≤k_)) (fun _=>False) rfl rfl ?aP (fun _ hk=>hk.elim) ?aF ?aO ?aB ?aS ?aL ?_
      (case aP=>exact k54_mkM _ _ _ (⟨(rd_T53 l0_6 x4_1).f0,(rd_T53 l0_6 x4_1).f1⟩:S54))
      (case aB=>exact belg_)
      (case aF=>exact (fun k_ hk=>(Nat.le_trans (below_size belg_) hk)))
      (case aO=>exact (rod_ HO_271006))
      (case aS=>exact (below_size belg_))
      (case aL=>have:=LMc12.out;omega)
      intro v274 w17 ho hb hg hat;rw [← Ny273.out] at ho;have n0_:=ad_ (Kd.V_afterv (ok:=(fun k_=>((P0_4_ k_∨P0_5_ k_)∨w.heap.size≤k_)∧k_≠gb268∧k_≠gb269∧k_≠gb270)) (vod_ (Kd.V_mono HO_269004.out (fun _ hk=>⟨⟨hk.1,⟨hk.2.2.1,⟨hk.2.2.2.1,hk.2.2.2.2⟩⟩⟩,hk.2.1⟩))) hg hat);have n1_:=ad_ (Kd.V_afterv (ok:=(fun k_=>((P0_4_ k_∨P0_5_ k_)∨w.heap.size≤k_)∧k_≠gb268∧k_≠gb269∧k_≠gb270)) (vod_ (Kd.V_mono HO_269005.out (fun _ hk=>⟨⟨hk.1,⟨hk.2.2.1,⟨hk.2.2.2.1,hk.2.2.2.2⟩⟩⟩,hk.2.1⟩))) hg hat);have n2_:=ad_ (Kd.V_afterv (ok:=(fun k_=>((P0_4_ k_∨P0_5_ k_)∨w.heap.size≤k_)∧k_≠gb268∧k_≠gb269∧k_≠gb270)) (vod_ (Kd.V_mono HO_271004.out (fun _ hk=>⟨⟨hk.1,⟨hk.2.2.1,⟨hk.2.2.2.1,hk.2.2.2.2⟩⟩⟩,hk.2.1⟩))) hg hat);have n3_:=ad_ (Kd.V_afterv (ok:=(fun k_=>((P0_4_ k_∨P0_5_ k_)∨w.heap.size≤k_)∧k_≠gb268∧k_≠gb269∧k_≠gb270)) (vod_ (Kd.V_mono HO_271005.out (fun _ hk=>⟨⟨hk.1,⟨hk.2.2.1,⟨hk.2.2.2.1,hk.2.2.2.2⟩⟩⟩,hk.2.1⟩))) hg hat);have n4_:=ad_ (blk_grown (g:=gb268) (o:=.cells #[.int .i64 a0_0,.int .i64 a0_1,.int .i64 a0_2,.int .i64 a0_3,.slice A0_4 l0_4.length c0_4,.slice A0_5 l0_5.length c0_5,.slice (some ad271) l0_6.length c0_6] 25 (0,0)) (blo_ BK268.out) hg (Kd.R_ne HO_271006.out BK268.out (by decide)));have n5_:=ad_ (blk_grown (g:=gb269) (o:=.cells #[.int .i64 0,.int .i64 0,.int .i64 0,.int .i64 0,.slice none 0 0,.slice none 0 0,.slice none 0 0] 34 (0,0)) (blo_ BK269.out) hg (Kd.R_ne HO_271006.out BK269.out (by decide)));have n6_:=ad_ (blk_grown (g:=gb270) (o:=.cells #[.int .i64 a0_0,.int .i64 a0_1,.int .i64 a0_2,.int .i64 a0_3,.slice A0_4 l0_4.length c0_4,.slice A0_5 l0_5.length c0_5,u271006] 34 (0,0)) (blo_ BK270.out) hg (Kd.R_ne HO_271006.out BK270.out (by decide)));have n7_:=ad_ (hb);have n8_:=ad_ (ho);clear HO_269004;clear HO_269005;clear HO_271004;clear HO_271005;clear BK268;clear BK269;clear BK270;clear HB;clear HO_271006;have HO_269004:=n0_;have HO_269005:=n1_;have HO_271004:=n2_;have HO_271005:=n3_;have BK268:=n4_;have BK269:=n5_;have BK270:=n6_;have HB:=n7_;have HO275:=n8_;clear n0_ n1_ n2_ n3_ n4_ n5_ n6_ n7_ n8_;clear ho hb hg hat;obtain ⟨Ao18,co18,eo18⟩:=Kd.R_slice HO275.out
      (first | subst eo18 | (injection eo18 with f1_ f2_ f3_;have f4_:=f1_.symm;have f5_:=f3_.symm;clear f1_ f2_ f3_;subst f4_;subst f5_))
      refine hK.out _ _ ⟨bc_ BK270,bc_ BK270,bc_ BK270,bc_ BK270,bc_ BK270,bc_ BK270,bc_ BK270,bc_ BK268,bc_ BK268,bc_ BK268,bc_ BK268,bc_ BK268,bc_ BK268,bc_ BK268,((HB.out.cell (World.block_lt_of_cell? w _ hw271_0)).trans hw271_0),((HB.out.cell (World.block_lt_of_cell? w _ hw271_1)).trans hw271_1),((HB.out.cell (World.block_lt_of_cell? w _ hw272_0)).trans hw272_0),((HB.out.cell (World.block_lt_of_cell? w _ hw272_1)).trans hw272_1)⟩ (fun hHeld=>?_)
      clear hK K
      refine norm_ (a':=?_) ?_ ?_
      rotate_left
      ·show Act.put _ (some 41) _=_
       simp only [Act.put,List.setIfInBounds_toArray,List.set_cons_zero,List.set_cons_succ,i64_w,i32_w]
       rfl
      refine pure_ (i:=17) (N:=some 42) (v:=?_) (a':=?_) #[true,true,true,true,true,true,true,true,true,true,true,true,true,true,true,true,true,true,false] rfl rfl (any_of HT_.out (by kernel_rfl)) (fun _ _ _ h=>h) (Or.inl ⟨by rfl,?_⟩) ?_ ?_
      rotate_left
      ·intro w'
       go_simp
       with_reducible rfl
      rotate_left
      ·simp only [Act.put,List.setIfInBounds_toArray,List.set_cons_zero,List.set_cons_succ,i64_w,i32_w]
       rfl
      refine last_ (i:=18) (N:=none) (.replicate 19 true) rfl rfl (one_of HT_.out (by kernel_rfl)) (by decide) (fun K hK=>?_)
      have hs19:w17.cell? ⟨gb270,6,none⟩=some (u271006):=bc_ BK270;have hfs19:=blk_frozen BK270.out 6;have hns19_0:=NB268_270.out;have hns19_1:=NB269_270.out;have hms19_0:=NB270_268.out;have hms19_1:=NB270_269.out
      refine skip_ (w1:=?_) (by rfl) rfl ?_ ?_
      rotate_left
      ·go_simp
       rfl
      refine hK.out _ _ ?_
      clear hK K
      refine done_ (done_of HT_.out (by kernel_rfl)) ?_
      try go_wp2
      go_roundg k1
      case measure=>have:=HK1.out;omega
      case rel=>exact ⟨(wrap64 (x4_1 + 1)),(y273),(.slice Ao18 y273.length co18),val_,H',⟨by have:=HK1.out;omega⟩,⟨by (with_reducible repeat (first | apply Kd.V_alloc | apply Kd.V_drewN | apply Kd.V_drew));exact Kd.V_mono (vfar_ (Kd.V_mono HO_269004.out (fun k_ hk=>(⟨hk,hk.1.2.2.2⟩:_∧k_≠gb270)))) (fun _ hk=>⟨hk.1.1.1,⟨hk.1.2,⟨hk.1.1.2.1,⟨hk.1.1.2.2.1,hk.1.1.2.2.2⟩⟩⟩⟩)⟩,⟨by (with_reducible repeat (first | apply Kd.V_alloc | apply Kd.V_drewN | apply Kd.V_drew));exact Kd.V_mono (vfar_ (Kd.V_mono HO_269005.out (fun k_ hk=>(⟨hk,hk.1.2.2.2⟩:_∧k_≠gb270)))) (fun _ hk=>⟨hk.1.1.1,⟨hk.1.2,⟨hk.1.1.2.1,⟨hk.1.1.2.2.1,hk.1.1.2.2.2⟩⟩⟩⟩)⟩,⟨by (with_reducible repeat (first | apply Kd.V_alloc | apply Kd.V_drewN | apply Kd.V_drew));exact Kd.V_mono (vfar_ (Kd.V_mono HO_271004.out (fun k_ hk=>(⟨hk,hk.1.2.2.2⟩:_∧k_≠gb270)))) (fun _ hk=>⟨hk.1.1.1,⟨hk.1.2,⟨hk.1.1.2.1,⟨hk.1.1.2.2.1,hk.1.1.2.2.2⟩⟩⟩⟩)⟩,⟨by (with_reducible repeat (first | apply Kd.V_alloc | apply Kd.V_drewN | apply Kd.V_drew));exact Kd.V_mono (vfar_ (Kd.V_mono HO_271005.out (fun k_ hk=>(⟨hk,hk.1.2.2.2⟩:_∧k_≠gb270)))) (fun _ hk=>⟨hk.1.1.1,⟨hk.1.2,⟨hk.1.1.2.1,⟨hk.1.1.2.2.1,hk.1.1.2.2.2⟩⟩⟩⟩)⟩,⟨by (with_reducible repeat (first | apply Kd.R_alloc | apply Kd.R_drewN | apply Kd.R_drew));exact Kd.R_mono (rfar_ (Kd.R_types HO275.out BK270.out (by decide))) (fun _ hk=>hk.1)⟩,⟨blf_ BK268.out⟩,⟨blf_ BK269.out⟩,⟨by refine blo_ ?_;refine blk_put (cs:=#[.int .i64 a0_0,.int .i64 a0_1,.int .i64 a0_2,.int .i64 a0_3,.slice A0_4 l0_4.length c0_4,.slice A0_5 l0_5.length c0_5,u271006]) ?_ 6 _ rfl;exact blo_ BK270.out⟩,⟨belg_⟩⟩
     ·rw [if_neg c12] at H;exact absurd H (by simp)
    ·rw [if_neg c11] at H;exact absurd H (by simp)
   ·rw [if_neg c10] at H;have c10b0:decide (x4_1 < (l0_6.length:Int))=false:=decide_eq_false c10;clear c10
    simp only [Option.some.injEq,Prod.mk.injEq] at H
    obtain ⟨rfl,rfl,rfl,rfl,rfl,rfl,rfl⟩:=H;have hnb20:=NB268_269.out;have hnc20:=NB269_268.out;have hnb21:=NB268_270.out;have hnc21:=NB270_268.out;have hcz22_:=cells7_ BK268.out;have hnb23:=NB270_269.out;have hnc23:=NB269_270.out;have hcz24_:=cells7_ BK270.out;have hcz25_:=cells7_ BK269.out;obtain ⟨Ao26,co26,eo26⟩:=Kd.R_slice HO_271006.out;subst eo26
    go_wp2
    refine bodyPost_ret (results_cell_row rfl _ _ gb269 34 #[.int .i64 a0_0,.int .i64 a0_1,.int .i64 a0_2,.int .i64 a0_3,.slice A0_4 l0_4.length c0_4,.slice A0_5 l0_5.length c0_5,.slice Ao26 x271006_1.length co26] (0,0) _ rfl (by refine blo_ ?_;refine blk_put (cs:=#[.int .i64 a0_0,.int .i64 a0_1,.int .i64 a0_2,.int .i64 a0_3,.slice A0_4 l0_4.length c0_4,.slice A0_5 l0_5.length c0_5,.slice none 0 0]) ?_ 6 _ rfl;refine blo_ ?_;refine blk_put (cs:=#[.int .i64 a0_0,.int .i64 a0_1,.int .i64 a0_2,.int .i64 a0_3,.slice A0_4 l0_4.length c0_4,.slice none 0 0,.slice none 0 0]) ?_ 5 _ rfl;refine blo_ ?_;refine blk_put (cs:=#[.int .i64 a0_0,.int .i64 a0_1,.int .i64 a0_2,.int .i64 a0_3,.slice none 0 0,.slice none 0 0,.slice none 0 0]) ?_ 4 _ rfl;refine blo_ ?_;refine blk_put (cs:=#[.int .i64 a0_0,.int .i64 a0_1,.int .i64 a0_2,.int .i64 0,.slice none 0 0,.slice none 0 0,.slice none 0 0]) ?_ 3 _ rfl;refine blo_ ?_;refine blk_put (cs:=#[.int .i64 a0_0,.int .i64 a0_1,.int .i64 0,.int .i64 0,.slice none 0 0,.slice none 0 0,.slice none 0 0]) ?_ 2 _ rfl;refine blo_ ?_;refine blk_put (cs:=#[.int .i64 a0_0,.int .i64 0,.int .i64 0,.int .i64 0,.slice none 0 0,.slice none 0 0,.slice none 0 0]) ?_ 1 _ rfl;refine blo_ ?_;refine blk_put (cs:=#[.int .i64 0,.int .i64 0,.int .i64 0,.int .i64 0,.slice none 0 0,.slice none 0 0,.slice none 0 0]) ?_ 0 _ rfl;exact blo_ BK269.out) Tryz.underlying34 rfl (by kernel_rfl)) rfl ?_
    exact ⟨_,_,_,ret_,by (with_reducible repeat (first | apply Kd.V_alloc | apply Kd.V_drewN | apply Kd.V_drew));exact Kd.V_mono (vfar_ (Kd.V_mono HO_271004.out (fun k_ hk=>(⟨hk,hk.2.2.2.1⟩:_∧k_≠gb269)))) (fun _ hk=>⟨hk.1.1,hk.1.2.1⟩),by (with_reducible repeat (first | apply Kd.V_alloc | apply Kd.V_drewN | apply Kd.V_drew));exact Kd.V_mono (vfar_ (Kd.V_mono HO_271005.out (fun k_ hk=>(⟨hk,hk.2.2.2.1⟩:_∧k_≠gb269)))) (fun _ hk=>⟨hk.1.1,hk.1.2.1⟩),by (with_reducible repeat (first | apply Kd.R_alloc | apply Kd.R_drewN | apply Kd.R_drew));exact Kd.R_mono (rfar_ (Kd.R_types HO_271006.out BK269.out (by decide))) (fun _ hk=>hk.1),belg_⟩

/-! ### posthornlaw21_RecurMatches: function 3 -/
def posthornlaw21_RecurMatches.f (k:Nat) (a0_0:Int) (a0_1:Int) (a0_2:Int) (a0_3:Int) (l0_4:List Int) (l0_5:List Int) (l0_6:List (S53)) (a1:Int) (a2:Int):Option (Bool):=(posthornlaw21_Great.f a0_0 a0_1 a0_2 a0_3 l0_4 l0_5 l0_6).bind fun t277=>(if t277=true then ((posthornlaw21_alive.f k).bind fun t278=>(some t278)) else ((recur_Match.f k a0_0 a0_1 a0_2 a0_3 l0_4 l0_5 l0_6 a1 a2).bind fun bt279=>((posthornlaw21_As.f k a0_0 a0_1 a0_2 a0_3 l0_4 l0_5 l0_6).bind fun bt281=>((posthornref21_Match.f k bt281.1 bt281.2.1 bt281.2.2.1 bt281.2.2.2.1 bt281.2.2.2.2.1 bt281.2.2.2.2.2.1 bt281.2.2.2.2.2.2 a1 a2).bind fun bt294=>((posthornlaw21_alive.f k).bind fun t296=>(if t296=true then (if (bt279.1 == bt294.1)=true then (some (bt279.2 == bt294.2)) else (some false)) else (some false)))))))
set_option maxHeartbeats 8000000 in
set_option maxRecDepth 100000 in
theorem posthornlaw21_RecurMatches.calls (k:Nat) (a0_0:Int) (a0_1:Int) (a0_2:Int) (a0_3:Int) (A0_4:Option Addr) (c0_4:Nat) (l0_4:List Int) (A0_5:Option Addr) (c0_5:Nat) (l0_5:List Int) (A0_6:Option Addr) (c0_6:Nat) (l0_6:List (S53)) (a1:Int) (a2:Int) (r:Bool) (w:World) (hr0_4:Kd.C (Kd.int .i64) w A0_4 l0_4.length l0_4) (hc0_4:l0_4.length≤c0_4) (hr0_5:Kd.C (Kd.int .i64) w A0_5 l0_5.length l0_5) (hc0_5:l0_5.length≤c0_5) (hr0_6:Kd.C k53 w A0_6 l0_6.length l0_6) (hc0_6:l0_6.length≤c0_6) (h:posthornlaw21_RecurMatches.f k a0_0 a0_1 a0_2 a0_3 l0_4 l0_5 l0_6 a1 a2=some r) (hr_:Aside0 (r=true):=by first | exact ⟨rfl⟩ | assumption) (hG:Read.Glob w) :
  Calls Tryz.prog 3 #[.agg #[.int .i64 a0_0,.int .i64 a0_1,.int .i64 a0_2,.int .i64 a0_3,.slice A0_4 l0_4.length c0_4,.slice A0_5 l0_5.length c0_5,.slice A0_6 l0_6.length c0_6],.int .i64 a1,.int .i64 a2] w fun e w'=>e = .returned (.bool r)∧Below w.heap.size w w':=by
 have hu25:=Tryz.underlying25;have HR0_4:=Aside0.mk hr0_4;have HC0_4:=Aside0.mk hc0_4;clear hr0_4 hc0_4;have HR0_5:=Aside0.mk hr0_5;have HC0_5:=Aside0.mk hc0_5;clear hr0_5 hc0_5;have HR0_6:=Aside0.mk hr0_6;have HC0_6:=Aside0.mk hc0_6;clear hr0_6 hc0_6;have HB:=ad_ (Below.refl w.heap.size w);have HG:=Aside0.mk hG;clear hG;have H:((posthornlaw21_Great.f a0_0 a0_1 a0_2 a0_3 l0_4 l0_5 l0_6).bind fun t277=>(if t277=true then ((posthornlaw21_alive.f k).bind fun t278=>(some t278)) else ((recur_Match.f k a0_0 a0_1 a0_2 a0_3 l0_4 l0_5 l0_6 a1 a2).bind fun bt279=>((posthornlaw21_As.f k a0_0 a0_1 a0_2 a0_3 l0_4 l0_5 l0_6).bind fun bt281=>((posthornref21_Match.f k bt281.1 bt281.2.1 bt281.2.2.1 bt281.2.2.2.1 bt281.2.2.2.2.1 bt281.2.2.2.2.2.1 bt281.2.2.2.2.2.2 a1 a2).bind fun bt294=>((posthornlaw21_alive.f k).bind fun t296=>(if t296=true then (if (bt279.1 == bt294.1)=true then (some (bt279.2 == bt294.2)) else (some false)) else (some false))))))))=some r:=h;clear h;obtain ⟨t277,A40,H⟩:=bnd_ H
 try dsimp only at H
 have A4:=ad_ A40;clear A40
 by_cases c5:t277=true
 ·subst c5;replace H:=ifp_ H;obtain ⟨t278,A60,H⟩:=bnd_ H
  try dsimp only at H
  have A6:=ad_ A60;clear A60;obtain rfl:=Option.some.inj H
  go_enter Tryz.func3,Tryz.ntmps3
  go_wp2_with (first | ((with_reducible refine gate_dst (N:=3) rfl ?_);refine box_event ?hg (N:=3) ?hd (cs:=#[.int .i64 a0_0,.int .i64 a0_1,.int .i64 a0_2,.int .i64 a0_3,.slice A0_4 l0_4.length c0_4,.slice A0_5 l0_5.length c0_5,.slice A0_6 l0_6.length c0_6]) (t:=25) ?hr ?_;(case hd=>rfl);(case hg=>rfl);(case hr=>first | (go_simp;done) | (go_simp;rfl));intro gb276 hg w7 hbox hb;have BK276:=ad_ (hbox);have GW276:=ad_ ((by rw [hg];exact (below_size bel_):w.heap.size≤gb276));have GE276:=ad_ ((by rw [hg];exact (below_size bel_):w.heap.size≤gb276));replace HB:=hbb_ hb;clear hb hbox hg;have hcz8_:=cells7_ BK276.out) | ((with_reducible refine gate_callee (f:=8) rfl ?_);refine goesL_ (some 12) rfl rfl Tryz.func8 (by kernel_rfl) rfl #[.agg #[.int .i64 a0_0,.int .i64 a0_1,.int .i64 a0_2,.int .i64 a0_3,.slice A0_4 l0_4.length c0_4,.slice A0_5 l0_5.length c0_5,.slice A0_6 l0_6.length c0_6]] rfl arg_ ?_;(with_reducible refine (posthornlaw21_Great.calls a0_0 a0_1 a0_2 a0_3 _ _ l0_4 _ _ l0_5 _ _ l0_6 true _ ?_ ?_ ?_ ?_ ?_ ?_ A4.out).mono ?_);(iterate 6 exact sc_);rintro e w9 ⟨rfl,hb⟩;refine ⟨_,rfl,?_⟩;replace BK276:=ad_ (blk_below (g:=gb276) (o:=.cells #[.int .i64 a0_0,.int .i64 a0_1,.int .i64 a0_2,.int .i64 a0_3,.slice A0_4 l0_4.length c0_4,.slice A0_5 l0_5.length c0_5,.slice A0_6 l0_6.length c0_6] 25 (0,0)) (blo_ BK276.out) hb);replace HB:=hbb_ hb;clear hb) | ((with_reducible refine gate_callee (f:=9) rfl ?_);refine goesL_ (some 13) rfl rfl Tryz.func9 (by kernel_rfl) rfl #[] rfl arg_ ?_;(with_reducible refine (posthornlaw21_alive.calls k  t278 _ A6.out).mono ?_);rintro e w10 ⟨rfl,hb⟩;refine ⟨_,rfl,?_⟩;replace BK276:=ad_ (blk_below (g:=gb276) (o:=.cells #[.int .i64 a0_0,.int .i64 a0_1,.int .i64 a0_2,.int .i64 a0_3,.slice A0_4 l0_4.length c0_4,.slice A0_5 l0_5.length c0_5,.slice A0_6 l0_6.length c0_6] 25 (0,0)) (blo_ BK276.out) hb);replace HB:=hbb_ hb;clear hb))
  go_ret
  exact ⟨ret_,belg_⟩
 ·replace c5:=Bool.eq_false_iff.mpr c5;subst c5;replace H:=ifn_ H;replace H:=Option.bind_eq_some_iff.mp H;obtain ⟨⟨t279,t280⟩,A110,H⟩:=H
  try dsimp only at H
  have A11:=ad_ A110;clear A110;replace H:=Option.bind_eq_some_iff.mp H;obtain ⟨⟨t281,t282,t283,t284,t285,t288,t291⟩,A120,H⟩:=H
  try dsimp only at H
  have A12:=ad_ A120;clear A120;replace H:=Option.bind_eq_some_iff.mp H;obtain ⟨⟨t294,t295⟩,A130,H⟩:=H
  try dsimp only at H
  have A13:=ad_ A130;clear A130;obtain ⟨t296,A140,H⟩:=bnd_ H
  try dsimp only at H
  have A14:=ad_ A140;clear A140
  by_cases c15:t296=true
  ·subst c15;replace H:=ifp_ H
   by_cases c16:(t279 == t294)=true
   ·rw [if_pos c16] at H;have c16b0:(t279 == t294)=true:=c16
    (try (have c16b1:decide (t279=t294)=true:=by simpa using c16))
    (try (have c16b2:(t279 == t294)=true:=by simpa using c16))
    clear c16;obtain rfl:=Option.some.inj H
    go_enter Tryz.func3,Tryz.ntmps3
    go_wp2_with (first | ((with_reducible refine gate_dst (N:=3) rfl ?_);refine box_event ?hg (N:=3) ?hd (cs:=#[.int .i64 a0_0,.int .i64 a0_1,.int .i64 a0_2,.int .i64 a0_3,.slice A0_4 l0_4.length c0_4,.slice A0_5 l0_5.length c0_5,.slice A0_6 l0_6.length c0_6]) (t:=25) ?hr ?_;(case hd=>rfl);(case hg=>rfl);(case hr=>first | (go_simp;done) | (go_simp;rfl));intro gb276 hg w17 hbox hb;have BK276:=ad_ (hbox);have GW276:=ad_ ((by rw [hg];exact (below_size bel_):w.heap.size≤gb276));have GE276:=ad_ ((by rw [hg];exact (below_size bel_):w.heap.size≤gb276));replace HB:=hbb_ hb;clear hb hbox hg;have hcz18_:=cells7_ BK276.out) | ((with_reducible refine gate_callee (f:=8) rfl ?_);refine goesL_ (some 12) rfl rfl Tryz.func8 (by kernel_rfl) rfl #[.agg #[.int .i64 a0_0,.int .i64 a0_1,.int .i64 a0_2,.int .i64 a0_3,.slice A0_4 l0_4.length c0_4,.slice A0_5 l0_5.length c0_5,.slice A0_6 l0_6.length c0_6]] rfl arg_ ?_;(with_reducible refine (posthornlaw21_Great.calls a0_0 a0_1 a0_2 a0_3 _ _ l0_4 _ _ l0_5 _ _ l0_6 false _ ?_ ?_ ?_ ?_ ?_ ?_ A4.out).mono ?_);(iterate 6 exact sc_);rintro e w19 ⟨rfl,hb⟩;refine ⟨_,rfl,?_⟩;replace BK276:=ad_ (blk_below (g:=gb276) (o:=.cells #[.int .i64 a0_0,.int .i64 a0_1,.int .i64 a0_2,.int .i64 a0_3,.slice A0_4 l0_4.length c0_4,.slice A0_5 l0_5.length c0_5,.slice A0_6 l0_6.length c0_6] 25 (0,0)) (blo_ BK276.out) hb);replace HB:=hbb_ hb;clear hb;have hcz20_:=cells7_ BK276.out) | ((with_reducible refine gate_callee (f:=10) rfl ?_);refine goesL_ (some 18) rfl rfl Tryz.func10 (by kernel_rfl) rfl #[.agg #[.int .i64 a0_0,.int .i64 a0_1,.int .i64 a0_2,.int .i64 a0_3,.slice A0_4 l0_4.length c0_4,.slice A0_5 l0_5.length c0_5,.slice A0_6 l0_6.length c0_6],.int .i64 a1,.int .i64 a2] rfl arg_ ?_;(with_reducible refine (recur_Match.calls k a0_0 a0_1 a0_2 a0_3 _ _ l0_4 _ _ l0_5 _ _ l0_6 a1 a2 t279 t280 _ ?_ ?_ ?_ ?_ ?_ ?_ A11.out).mono ?_);(iterate 6 exact sc_);rintro e w21 ⟨rfl,hb⟩;refine ⟨_,rfl,?_⟩;replace BK276:=ad_ (blk_below (g:=gb276) (o:=.cells #[.int .i64 a0_0,.int .i64 a0_1,.int .i64 a0_2,.int .i64 a0_3,.slice A0_4 l0_4.length c0_4,.slice A0_5 l0_5.length c0_5,.slice A0_6 l0_6.length c0_6] 25 (0,0)) (blo_ BK276.out) hb);replace HB:=hbb_ hb;clear hb;have hcz22_:=cells7_ BK276.out) | ((with_reducible refine gate_callee (f:=12) rfl ?_);refine goesL_ (some 23) rfl rfl Tryz.func12 (by kernel_rfl) rfl #[.agg #[.int .i64 a0_0,.int .i64 a0_1,.int .i64 a0_2,.int .i64 a0_3,.slice A0_4 l0_4.length c0_4,.slice A0_5 l0_5.length c0_5,.slice A0_6 l0_6.length c0_6]] rfl arg_ ?_;(with_reducible refine (posthornlaw21_As.calls k a0_0 a0_1 a0_2 a0_3 (fun k_=>k_ < w.heap.size) _ _ l0_4 (fun k_=>k_ < w.heap.size) _ _ l0_5 _ _ l0_6 t281 t282 t283 t284 t285 t288 t291 _ ?_ ?_ ?_ ?_ A12.out).mono ?_);exact Kd.V_mk HC0_4.out (Kd.F_below (Kd.C_F (Kd.heap_int .i64) HR0_4.out) belg_);exact Kd.V_mk HC0_5.out (Kd.F_below (Kd.C_F (Kd.heap_int .i64) HR0_5.out) belg_);(iterate 2 exact sc_);rintro e w23 ⟨v286,v289,v292,rfl,ho0,ho1,ho2,hb⟩;refine ⟨_,rfl,?_⟩;have HO287:=ad_ (Kd.V_lower (Kd.V_mono (ok':=fun k_=>some k_≠(v292:Value).ownBlock∧k_≠gb276) ho0 (fun k_ hk_=>⟨hk_.2,Or.elim hk_.1 (fun hs_=>Or.elim hs_ (fun hs_=>fun e_=>Nat.not_le.2 hs_ (by rw [e_];exact GW276.out)) (fun hs_=>fun e_=>Nat.not_le.2 hs_ (by rw [e_];exact GW276.out))) (fun hn_=>(Kd.freshB (g:=gb276) (o:=.cells #[.int .i64 a0_0,.int .i64 a0_1,.int .i64 a0_2,.int .i64 a0_3,.slice A0_4 l0_4.length c0_4,.slice A0_5 l0_5.length c0_5,.slice A0_6 l0_6.length c0_6] 25 (0,0)) (blo_ BK276.out) k_ hn_))⟩)) (below_size belg_));have HO290:=ad_ (Kd.V_lower (Kd.V_mono (ok':=fun k_=>some k_≠(v292:Value).ownBlock∧k_≠gb276) ho1 (fun k_ hk_=>⟨hk_.2,Or.elim hk_.1 (fun hs_=>Or.elim hs_ (fun hs_=>fun e_=>Nat.not_le.2 hs_ (by rw [e_];exact GW276.out)) (fun hs_=>fun e_=>Nat.not_le.2 hs_ (by rw [e_];exact GW276.out))) (fun hn_=>(Kd.freshB (g:=gb276) (o:=.cells #[.int .i64 a0_0,.int .i64 a0_1,.int .i64 a0_2,.int .i64 a0_3,.slice A0_4 l0_4.length c0_4,.slice A0_5 l0_5.length c0_5,.slice A0_6 l0_6.length c0_6] 25 (0,0)) (blo_ BK276.out) k_ hn_))⟩)) (below_size belg_));have HO293:=ad_ (Kd.R_lower (Kd.R_mono (ok':=fun k_=>True) ho2 (fun _ hk_=>trivial)) (below_size belg_));replace BK276:=ad_ (blk_below (g:=gb276) (o:=.cells #[.int .i64 a0_0,.int .i64 a0_1,.int .i64 a0_2,.int .i64 a0_3,.slice A0_4 l0_4.length c0_4,.slice A0_5 l0_5.length c0_5,.slice A0_6 l0_6.length c0_6] 25 (0,0)) (blo_ BK276.out) hb);replace HB:=hbb_ hb;(try clear hb);(try clear hb2);(try clear hk);(try clear hi);(try clear ho0);(try clear ho1);(try clear ho2);obtain ⟨Ao24,co24,eo24⟩:=Kd.V_slice HO287.out;subst eo24;obtain ⟨Ao25,co25,eo25⟩:=Kd.V_slice HO290.out;subst eo25;obtain ⟨Ao26,co26,eo26⟩:=Kd.R_slice HO293.out;subst eo26) | ((with_reducible refine gate_callee (f:=11) rfl ?_);refine goesL_ (some 26) rfl rfl Tryz.func11 (by kernel_rfl) rfl #[.agg #[.int .i64 t281,.int .i64 t282,.int .i64 t283,.int .i64 t284,.slice Ao24 t285.length co24,.slice Ao25 t288.length co25,.slice Ao26 t291.length co26],.int .i64 a1,.int .i64 a2] rfl arg_ ?_;(with_reducible refine (posthornref21_Match.calls k t281 t282 t283 t284 _ _ t285 _ _ t288 _ _ t291 a1 a2 t294 t295 _ ?_ ?_ ?_ ?_ ?_ ?_ A13.out).mono ?_);exact cop_ (Kd.V_reads' HO287.out).2.2;exact (Kd.V_reads' HO287.out).2.1;exact cop_ (Kd.V_reads' HO290.out).2.2;exact (Kd.V_reads' HO290.out).2.1;exact cop_ (Kd.R_reads' HO293.out).2.2;exact (Kd.R_reads' HO293.out).2.1;rintro e w27 ⟨rfl,hb⟩;refine ⟨_,rfl,?_⟩;replace HO287:=ad_ (Kd.V_below (vod_ (HO287.out)) hb);replace HO290:=ad_ (Kd.V_below (vod_ (HO290.out)) hb);replace HO293:=ad_ (Kd.R_below (rod_ HO293) hb);replace BK276:=ad_ (blk_below (g:=gb276) (o:=.cells #[.int .i64 a0_0,.int .i64 a0_1,.int .i64 a0_2,.int .i64 a0_3,.slice A0_4 l0_4.length c0_4,.slice A0_5 l0_5.length c0_5,.slice A0_6 l0_6.length c0_6] 25 (0,0)) (blo_ BK276.out) hb);replace HB:=hbb_ hb;clear hb) | ((with_reducible refine gate_callee (f:=9) rfl ?_);refine goesL_ (some 29) rfl rfl Tryz.func9 (by kernel_rfl) rfl #[] rfl arg_ ?_;(with_reducible refine (posthornlaw21_alive.calls k  true _ A14.out).mono ?_);rintro e w28 ⟨rfl,hb⟩;refine ⟨_,rfl,?_⟩;replace HO287:=ad_ (Kd.V_below (vod_ (HO287.out)) hb);replace HO290:=ad_ (Kd.V_below (vod_ (HO290.out)) hb);replace HO293:=ad_ (Kd.R_below (rod_ HO293) hb);replace BK276:=ad_ (blk_below (g:=gb276) (o:=.cells #[.int .i64 a0_0,.int .i64 a0_1,.int .i64 a0_2,.int .i64 a0_3,.slice A0_4 l0_4.length c0_4,.slice A0_5 l0_5.length c0_5,.slice A0_6 l0_6.length c0_6] 25 (0,0)) (blo_ BK276.out) hb);replace HB:=hbb_ hb;clear hb))
    go_ret
    exact ⟨ret_,belg_⟩
   ·rw [if_neg c16] at H
    have c16b0:(t279 == t294)=false:=by simpa using c16
    (try (have c16b1:decide (t279=t294)=false:=by simpa using c16))
    (try (have c16b2:(t279 == t294)=false:=by simpa using c16))
    (try (have c16b3:¬(t279=t294):=by simpa using c16))
    clear c16;exact absurd (Option.some.inj H) (by rw [hr_.out];decide)
  ·replace c15:=Bool.eq_false_iff.mpr c15;subst c15;replace H:=ifn_ H;exact absurd (Option.some.inj H) (by rw [hr_.out];decide)

end Go.Proofs.YtbeihceeliifeaaGreatDoor.PR

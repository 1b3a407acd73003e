-- Written by a program of the session (wip/tools).
import Derived.Test.YtbeihceeliifeaaGreatDoorPRx0
import Derived.Test.YtbeihceeliifeaaGreatDoorPRx4
import Derived.Test.YtbeihceeliifeaaGreatDoorPRx7
import Derived.Test.YtbeihceeliifeaaGreatDoorPRx8
namespace Go.Proofs.YtbeihceeliifeaaGreatDoor.PR
open Go.RowKit Go.Proofs.YtbeihceeliifeaaGreatDoorW.PrintWords Go.Proofs.YtbeihceeliifeaaGreatDoorW.PrintLast Go.Proofs.YtbeihceeliifeaaGreatDoorW.PrintMore
attribute [local go_sem] max2_int min2_int max_two min_two max_three min_three max_four min_four   -- for this text's walks alone
set_option linter.unusedVariables false
set_option linter.unusedSimpArgs false

/-! ### recur_Read: function 18 -/
section
open Go.Maps Go.WideMaps Go.WideAt
abbrev sFREQ:ByteArray:=⟨#[70,82,69,81]⟩
abbrev sMONTHLY:ByteArray:=⟨#[77,79,78,84,72,76,89]⟩
theorem grown_below {W w1 w2:World} {g:Nat} (h:W.grownBy w1 (some g)) (hb:Below w1.heap.size w1 w2) (hg:g < W.heap.size):W.grownBy w2 (some g):=h.trans ⟨hb.os,hb.tape,hb.output,hb.size,fun k hk _=>hb.block k hk⟩
theorem results_cell_tmp {P:Program} {fn:Func} {p u:Tmp} {ty:TypeId} (h:fn.results = #[.cell p ty,.tmp u]) (tmps:Array Value) (w:World) (g:Nat) (t:TypeId) (cs:Array Value) (fr:Nat×Nat) (d:TypeDesc)
  (hp:tmps.getD p undef = .pointer (some ⟨g,0,none⟩)) (hg:w.heap[g]? = some (.cells cs t fr))
  (hu:P.underlying ty=some d) (hd:(match d with | .struct _ | .array _ _=>true | _=>false)=true) (hi:(P.info? ty).map (·.size)=some cs.size) :
  (results fn tmps).run P w = .ok (.tuple #[.agg cs,tmps.getD u undef]) w:=by
 have hp':tmps[p]?.getD undef = .pointer (some ⟨g,0,none⟩):=by simpa using hp
 simp [results,h,hp',asAddr,run_loadVar_row w g t ty cs fr d hg hu hd hi]
theorem cur_at {cur:Array Value} {n:Nat} {xs:List Value} (h:cur.toList.take n=xs) {j:Nat} {v:Value} (hj:xs[j]? = some v):cur[j]? = some v:=by
 rw [← h,List.getElem?_take] at hj
 split at hj
 ·rwa [← Array.getElem?_toList]
 ·cases hj
theorem grownBy_setCell (W:World) (b j:Nat) (v:Value):W.grownBy (W.setCell ⟨b,j,none⟩ v) (some b):=⟨rfl,rfl,rfl,by simp [World.setCell],fun k _ hne=>Below.heap_setCell W ⟨b,j,none⟩ v k (fun e=>hne (by rw [e]))⟩
theorem grown_refl (W:World) (row:Option Nat):W.grownBy W row:=⟨rfl,rfl,rfl,Nat.le_refl _,fun _ _ _=>rfl⟩
set_option maxHeartbeats 2000000 in
set_option maxRecDepth 100000 in
theorem part_freq (W:World) (g:Nat) (a0 a1 a2 a3:Int) (v4 v5 v6:Value) (hr:W.heap[g]? = some (.cells #[.int .i64 a0,.int .i64 a1,.int .i64 a2,.int .i64 a3,v4,v5,v6] 25 (0,0))) :
  Calls Tryz.prog 31 #[.pointer (some ⟨g,0,none⟩),.string sFREQ,.string sMONTHLY] W fun e w'=>e = .returned (.bool true)∧w'.heap[g]? = some (.cells #[.int .i64 3,.int .i64 a1,.int .i64 a2,.int .i64 a3,v4,v5,v6] 25 (0,0))∧W.grownBy w' (some g):=by
 have hu80:=Tryz.underlying80;have hg:=blk_lt hr
 go_enter Tryz.func31,Tryz.ntmps31
 go_wp2
 go_loopw [14,7] (fun v14 v7 wr=>∃ i:Nat,v14 = .int .i64 i∧i≤4∧v7 = .bool (decide (3≤i))∧wr.heap[g]? = some (.cells #[.int .i64 (if 3≤i then 3 else a0),.int .i64 a1,.int .i64 a2,.int .i64 a3,v4,v5,v6] 25 (0,0))∧W.grownBy wr (some g)) (fun v _ _=>4 - (intOf v).toNat)
 case atStart=>exact ⟨0,rfl,by omega,rfl,hr,grown_refl _ _⟩
 case round =>
  obtain ⟨i,rfl,hi,rfl,hrr,hgr⟩:=hrel
  have hc:i=0∨i=1∨i=2∨i=3∨i=4:=by omega
  clear hi
  rcases hc with rfl | rfl | rfl | rfl | rfl
  ·have f:((Read.freqT 1).toList == [77,79,78,84,72,76,89])=false:=by kernel_rfl
   go_wp2_with (first | (go_at_call 49;refine (Read.freq_main 1 (by decide) _).mono ?_;rintro e w1 ⟨rfl,hb1⟩))
   go_roundw
   case rel=>exact ⟨1,rfl,by omega,rfl,blk_below hrr hb1,grown_below hgr hb1 hg⟩
   case measure=>simp [intOf]
  ·have f:((Read.freqT 2).toList == [77,79,78,84,72,76,89])=false:=by kernel_rfl
   go_wp2_with (first | (go_at_call 49;refine (Read.freq_main 2 (by decide) _).mono ?_;rintro e w1 ⟨rfl,hb1⟩))
   go_roundw
   case rel=>exact ⟨2,rfl,by omega,rfl,blk_below hrr hb1,grown_below hgr hb1 hg⟩
   case measure=>simp [intOf]
  ·have f:((Read.freqT 3).toList == [77,79,78,84,72,76,89])=true:=by kernel_rfl
   go_wp2_with (first | (go_at_call 49;refine (Read.freq_main 3 (by decide) _).mono ?_;rintro e w1 ⟨rfl,hb1⟩;have hr1:=blk_below hrr hb1;have c0:=blk_cell hr1 0;have z0:=blk_frozen hr1 0;have HR1:=Aside0.mk hr1;clear hr1))
   go_roundw
   case rel=>exact ⟨3,rfl,by omega,rfl,blk_set HR1.out 0 _,(grown_below hgr hb1 hg).trans (grownBy_setCell' _ g _)⟩
   case measure=>simp [intOf]
  ·have f:((Read.freqT 4).toList == [77,79,78,84,72,76,89])=false:=by kernel_rfl
   go_wp2_with (first | (go_at_call 49;refine (Read.freq_main 4 (by decide) _).mono ?_;rintro e w1 ⟨rfl,hb1⟩))
   go_roundw
   case rel=>exact ⟨4,rfl,by omega,rfl,blk_below hrr hb1,grown_below hgr hb1 hg⟩
   case measure=>simp [intOf]
  ·go_wp2
   go_ret
   exact ⟨rfl,hrr,hgr⟩
abbrev sBYDAY:ByteArray:=⟨#[66,89,68,65,89]⟩
abbrev sLAST:ByteArray:=⟨#[45,49,83,85]⟩
abbrev sCOUNT:ByteArray:=⟨#[67,79,85,78,84]⟩
abbrev sONE:ByteArray:=⟨#[49]⟩
set_option maxHeartbeats 2000000 in
set_option maxRecDepth 100000 in
theorem part_byday (W:World) (g:Nat) (a0 a1 a2 a3:Int) (v4 v5 v6:Value) (hr:W.heap[g]? = some (.cells #[.int .i64 a0,.int .i64 a1,.int .i64 a2,.int .i64 a3,v4,v5,v6] 25 (0,0)))
  (hw:Calls Tryz.prog 53 #[.string sLAST] W fun e w'=>∃ v0_:Value,e = .returned (.tuple #[v0_,.bool true])∧Kd.R k53 53 w' W.heap.size (fun _=>True) v0_ [⟨6,-1⟩]∧Below W.heap.size W w') :
  Calls Tryz.prog 31 #[.pointer (some ⟨g,0,none⟩),.string sBYDAY,.string sLAST] W fun e w'=>e = .returned (.bool true)∧(∃ v,w'.heap[g]? = some (.cells #[.int .i64 a0,.int .i64 a1,.int .i64 a2,.int .i64 a3,v4,v5,v] 25 (0,0))∧Kd.R k53 53 w' W.heap.size (fun _=>True) v [⟨6,-1⟩])∧W.grownBy w' (some g):=by
 have hu80:=Tryz.underlying80;have hg:=blk_lt hr;have HW:=Aside0.mk hw;clear hw
 go_enter Tryz.func31,Tryz.ntmps31
 go_wp2_with (first | (go_at_call 53;refine HW.out.mono ?_;rintro e w1 ⟨v,rfl,ho,hb1⟩;obtain ⟨A,c,eo⟩:=Kd.R_slice ho;subst eo;have hr1:=blk_below hr hb1;have c0:=blk_cell hr1 6;have z0:=blk_frozen hr1 6;have HR1:=Aside0.mk hr1;clear hr1))
 go_ret
 exact ⟨rfl,⟨_,blk_set HR1.out 6 _,Kd.R_set ho HR1.out (by decide) 6 _⟩,(grown_below (grown_refl W _) hb1 hg).trans (grownBy_setCell _ g 6 _)⟩
set_option maxHeartbeats 2000000 in
set_option maxRecDepth 100000 in
theorem part_count (W:World) (g:Nat) (a0 a1 a2 a3:Int) (v4 v5 v6:Value) (hr:W.heap[g]? = some (.cells #[.int .i64 a0,.int .i64 a1,.int .i64 a2,.int .i64 a3,v4,v5,v6] 25 (0,0))) (hG:Read.Glob W) :
  Calls Tryz.prog 31 #[.pointer (some ⟨g,0,none⟩),.string sCOUNT,.string sONE] W fun e w'=>e = .returned (.bool true)∧w'.heap[g]? = some (.cells #[.int .i64 a0,.int .i64 a1,.int .i64 1,.int .i64 a3,v4,v5,v6] 25 (0,0))∧W.grownBy w' (some g):=by
 have hu80:=Tryz.underlying80;have hg:=blk_lt hr;have HW:=ad_ (Read.number_main sONE 1 (by decide) (by kernel_rfl) (by decide) (by kernel_rfl) W hG);clear hG
 go_enter Tryz.func31,Tryz.ntmps31
 go_wp2_with (first | (go_at_call 50;refine HW.out.mono ?_;rintro e w1 ⟨rfl,hb1⟩;have hr1:=blk_below hr hb1;have c0:=blk_cell hr1 2;have z0:=blk_frozen hr1 2;have HR1:=Aside0.mk hr1;clear hr1))
 go_ret
 exact ⟨rfl,blk_set HR1.out 2 _,(grown_below (grown_refl W _) hb1 hg).trans (grownBy_setCell _ g 2 _)⟩
abbrev sTEXT1:ByteArray:=⟨#[102,114,101,113,61,77,79,78,84,72,76,89,59,66,89,68,65,89,61,45,49,115,117]⟩
abbrev sUP1:ByteArray:=⟨#[70,82,69,81,61,77,79,78,84,72,76,89,59,66,89,68,65,89,61,45,49,83,85]⟩
abbrev sA:ByteArray:=⟨#[70,82,69,81,61,77,79,78,84,72,76,89]⟩
abbrev sB:ByteArray:=⟨#[66,89,68,65,89,61,45,49,83,85]⟩
abbrev sTEXT2:ByteArray:=⟨#[67,79,85,78,84,61,49]⟩
theorem up_1 (W:World):Calls Tryz.prog 29 #[.string sTEXT1] W fun e w'=>e = .returned (.string sUP1)∧Below W.heap.size W w' :=
 (Read.upper_main sTEXT1 (by decide) W).mono fun e w' h=>⟨by rw [h.1];exact congrArg (fun x=>Ending.returned (Value.string x)) (by kernel_rfl),h.2⟩
theorem up_2 (W:World):Calls Tryz.prog 29 #[.string sTEXT2] W fun e w'=>e = .returned (.string sTEXT2)∧Below W.heap.size W w' :=
 (Read.upper_main sTEXT2 (by decide) W).mono fun e w' h=>⟨by rw [h.1];exact congrArg (fun x=>Ending.returned (Value.string x)) (by kernel_rfl),h.2⟩
theorem split_1 (W:World) (hG:Read.Glob W):Calls Tryz.prog 28 #[.string sUP1,.string ⟨#[59]⟩] W fun e w'=>∃ v,e = .returned v∧w'.ownsRow W.heap.size 9 1 v 2 [.string sA,.string sB]∧Below W.heap.size W w':=by
 refine (Read.split_main sUP1 ⟨#[59]⟩ (by decide) (by decide) W hG).mono ?_
 rintro e w' ⟨v,rfl,ho,hb⟩
 have e1:Go.Lib.splitB ⟨#[59]⟩ 0 (Go.Lib.countB sUP1 ⟨#[59]⟩) sUP1 = [sA,sB]:=by kernel_rfl
 rw [e1] at ho;exact ⟨v,rfl,ho,hb⟩
theorem split_2 (W:World) (hG:Read.Glob W):Calls Tryz.prog 28 #[.string sTEXT2,.string ⟨#[59]⟩] W fun e w'=>∃ v,e = .returned v∧w'.ownsRow W.heap.size 9 1 v 1 [.string sTEXT2]∧Below W.heap.size W w':=by
 refine (Read.split_main sTEXT2 ⟨#[59]⟩ (by decide) (by decide) W hG).mono ?_
 rintro e w' ⟨v,rfl,ho,hb⟩
 have e1:Go.Lib.splitB ⟨#[59]⟩ 0 (Go.Lib.countB sTEXT2 ⟨#[59]⟩) sTEXT2 = [sTEXT2]:=by kernel_rfl
 rw [e1] at ho;exact ⟨v,rfl,ho,hb⟩
theorem cut_at (s a b:ByteArray) (hs:s.size < 100) (e:((⟨(Go.Lib.cut s.data.toList [61]).1.toArray⟩:ByteArray),(⟨(Go.Lib.cut s.data.toList [61]).2.1.toArray⟩:ByteArray),(Go.Lib.cut s.data.toList [61]).2.2)=(a,b,true)) (W:World) (hG:Read.Glob W) :
  Calls Tryz.prog 30 #[.string s,.string ⟨#[61]⟩] W fun e w'=>e = .returned (.tuple #[.string a,.string b,.bool true])∧Below W.heap.size W w':=by
 obtain ⟨e1,e2⟩:=Prod.mk.inj e;obtain ⟨e2,e3⟩:=Prod.mk.inj e2
 refine (Read.parts_main s ⟨#[61]⟩ (by omega) W hG).mono ?_
 rintro e w' ⟨rfl,hb⟩
 refine ⟨?_,hb⟩
 show Ending.returned (.tuple #[.string ⟨(Go.Lib.cut s.data.toList [61]).1.toArray⟩,.string ⟨(Go.Lib.cut s.data.toList [61]).2.1.toArray⟩,.bool (Go.Lib.cut s.data.toList [61]).2.2])=_
 rw [e1,e2,e3]
theorem key9:Go.Maps.Keyed Tryz.prog 9:=Go.Maps.string_keyed Tryz.underlying9
theorem zero4 (w:World):(zeroValue 4).run Tryz.prog w = .ok (.bool false) w:=by kernel_rfl
set_option maxRecDepth 100000 in
theorem seen_miss {w:World} {b n:Nat} {D:DataW Unit} (h:w.ownsMap Tryz.prog 9 (plainElem Tryz.prog 4) b n D) (s:ByteArray) (hs:s.size≤maxLen) (hat:D.atKey (.string s.data.toList) (.lit (.bool false)) = .lit (.bool false)) :
  (Instr.lookup 59 (.map (some b)) (.string s) false).run Tryz.prog w = .ok (.bool false) w:=by
 obtain ⟨v,ps,hrun,hv⟩:=h.lookup key9 Tryz.underlying59 (zero4 w) (plainElem_bool Tryz.underlying4 false) (keyOf_string_mk Tryz.underlying9 hs);rw [hat] at hv
 have:v = .bool false:=by
  unfold plainElem at hv
  rw [Tryz.underlying4] at hv
  cases v <;> simp at hv
  rw [hv.1]
 rw [hrun,this]
/-- Where Read stands: the result's block, the rule's, the map's, the parts' row. -/
structure St (W0:World) (r:Array Value) (g:Nat) (row:Array Value) (n:Nat) (D:DataW Unit) (W:World):Prop where
 below:Below W0.heap.size W0 W
 res:W.heap[W0.heap.size]? = some (.cells #[.int .i64 0,.int .i64 0,.int .i64 0,.int .i64 0,.slice none 0 0,.slice none 0 0,.slice none 0 0] 25 (0,0))
 rule:W.heap[W0.heap.size + 1]? = some (.cells r 25 (0,0))
 map:W.ownsMap Tryz.prog 9 (plainElem Tryz.prog 4) (W0.heap.size + 1 + 1) n D
 row:W.heap[g]? = some (.cells row 9 (0,0))
 far:W0.heap.size + 1 + 1 < g
theorem St.next {W0 W V:World} {r:Array Value} {g:Nat} {row:Array Value} {n:Nat} {D:DataW Unit} (h:St W0 r g row n D W) (hb:Below W.heap.size W V):St W0 r g row n D V :=
 ⟨h.below.trans (hb.mono h.below.size),blk_below h.res hb,blk_below h.rule hb,h.map.kept (row:=none) ⟨hb.os,hb.tape,hb.output,hb.size,fun k hk _=>hb.block k hk⟩ (by simp),blk_below h.row hb,h.far⟩
theorem St.ruled {W0 W V:World} {r r':Array Value} {g:Nat} {row:Array Value} {n:Nat} {D:DataW Unit} (h:St W0 r g row n D W) (hr:V.heap[W0.heap.size + 1]? = some (.cells r' 25 (0,0))) (hg:W.grownBy V (some (W0.heap.size + 1))):St W0 r' g row n D V :=
 ⟨h.below.grown hg h.below.size (fun k e=>by cases e;omega),blk_grown h.res hg (by simp),hr,h.map.kept hg (by simp),blk_grown h.row hg (by have:=h.far;simp;omega),h.far⟩
theorem St.mapped {W0 W V:World} {r:Array Value} {g:Nat} {row:Array Value} {n m:Nat} {D E:DataW Unit} (h:St W0 r g row n D W) (hm:V.ownsMap Tryz.prog 9 (plainElem Tryz.prog 4) (W0.heap.size + 1 + 1) m E) (hg:W.grownBy V (some (W0.heap.size + 1 + 1))):St W0 r g row m E V :=
 ⟨h.below.grown hg h.below.size (fun k e=>by cases e;omega),blk_grown h.res hg (by simp;omega),blk_grown h.rule hg (by simp),hm,blk_grown h.row hg (by have:=h.far;simp;omega),h.far⟩
set_option maxHeartbeats 4000000 in
set_option maxRecDepth 100000 in
theorem read_1 (W:World) (hG:Read.Glob W) (hw:∀ V,Read.Glob V→Calls Tryz.prog 53 #[.string sLAST] V fun e w'=>∃ v0_:Value,e = .returned (.tuple #[v0_,.bool true])∧Kd.R k53 53 w' V.heap.size (fun _=>True) v0_ [⟨6,-1⟩]∧Below V.heap.size V w')
  (hR:∀ (V:World) (v:Value),Below W.heap.size W V→(∃ B,Kd.R k53 53 V B (fun _=>True) v [⟨6,-1⟩])→Calls Tryz.prog 19 #[.agg #[.int .i64 3,.int .i64 1,.int .i64 0,.int .i64 (-1),.slice none 0 0,.slice none 0 0,v]] V fun e w'=>e = .returned (.bool true)∧Below V.heap.size V w') :
  Calls Tryz.prog 18 #[.string sTEXT1] W fun e w'=>∃ v,e = .returned (.tuple #[.agg #[.int .i64 3,.int .i64 1,.int .i64 0,.int .i64 (-1),.slice none 0 0,.slice none 0 0,v],.int .i64 0])∧Kd.R k53 53 w' W.heap.size (fun _=>True) v [⟨6,-1⟩]∧Below W.heap.size W w':=by
 have hmm:=@run_makeMap Tryz.prog;have HW:=Aside0.mk hw;have HR:=Aside0.mk hR;have HG:=Aside0.mk hG;clear hw hR hG
 go_enter Tryz.func18,Tryz.ntmps18
 go_wp2_with fail
 have q0:(((W.alloc (.cells #[.int .i64 0,.int .i64 0,.int .i64 0,.int .i64 0,.slice none 0 0,.slice none 0 0,.slice none 0 0] 25)).alloc (.cells #[.int .i64 0,.int .i64 1,.int .i64 0,.int .i64 (-1),.slice none 0 0,.slice none 0 0,.slice none 0 0] 25)).alloc (.map #[] 0)).heap[W.heap.size]? = some (.cells #[.int .i64 0,.int .i64 0,.int .i64 0,.int .i64 0,.slice none 0 0,.slice none 0 0,.slice none 0 0] 25 (0,0)):=blk_alloc (blk_alloc (blk_new W _) _) _
 have q1:(((W.alloc (.cells #[.int .i64 0,.int .i64 0,.int .i64 0,.int .i64 0,.slice none 0 0,.slice none 0 0,.slice none 0 0] 25)).alloc (.cells #[.int .i64 0,.int .i64 1,.int .i64 0,.int .i64 (-1),.slice none 0 0,.slice none 0 0,.slice none 0 0] 25)).alloc (.map #[] 0)).heap[W.heap.size + 1]? = some (.cells #[.int .i64 0,.int .i64 1,.int .i64 0,.int .i64 (-1),.slice none 0 0,.slice none 0 0,.slice none 0 0] 25 (0,0)):=by
  have:=blk_new (W.alloc (.cells #[.int .i64 0,.int .i64 0,.int .i64 0,.int .i64 0,.slice none 0 0,.slice none 0 0,.slice none 0 0] 25)) (.cells #[.int .i64 0,.int .i64 1,.int .i64 0,.int .i64 (-1),.slice none 0 0,.slice none 0 0,.slice none 0 0] 25)
  rw [World.size_alloc] at this;exact blk_alloc this _
 have q2:(((W.alloc (.cells #[.int .i64 0,.int .i64 0,.int .i64 0,.int .i64 0,.slice none 0 0,.slice none 0 0,.slice none 0 0] 25)).alloc (.cells #[.int .i64 0,.int .i64 1,.int .i64 0,.int .i64 (-1),.slice none 0 0,.slice none 0 0,.slice none 0 0] 25)).alloc (.map #[] 0)).ownsMap Tryz.prog 9 (plainElem (H:=Unit) Tryz.prog 4) (W.heap.size + 1 + 1) 0 (.map []):=by
  have:=World.ownsMap_made ((W.alloc (.cells #[.int .i64 0,.int .i64 0,.int .i64 0,.int .i64 0,.slice none 0 0,.slice none 0 0,.slice none 0 0] 25)).alloc (.cells #[.int .i64 0,.int .i64 1,.int .i64 0,.int .i64 (-1),.slice none 0 0,.slice none 0 0,.slice none 0 0] 25)) Tryz.prog 9 (plainElem (H:=Unit) Tryz.prog 4)
  rw [World.size_alloc,World.size_alloc] at this;exact this
 have q3:Below W.heap.size W (((W.alloc (.cells #[.int .i64 0,.int .i64 0,.int .i64 0,.int .i64 0,.slice none 0 0,.slice none 0 0,.slice none 0 0] 25)).alloc (.cells #[.int .i64 0,.int .i64 1,.int .i64 0,.int .i64 (-1),.slice none 0 0,.slice none 0 0,.slice none 0 0] 25)).alloc (.map #[] 0)):=(((Below.refl _ _).alloc (Nat.le_refl _) _).alloc (by simp) _).alloc (by simp;omega) _
 have q4:(((W.alloc (.cells #[.int .i64 0,.int .i64 0,.int .i64 0,.int .i64 0,.slice none 0 0,.slice none 0 0,.slice none 0 0] 25)).alloc (.cells #[.int .i64 0,.int .i64 1,.int .i64 0,.int .i64 (-1),.slice none 0 0,.slice none 0 0,.slice none 0 0] 25)).alloc (.map #[] 0)).heap.size=W.heap.size + 1 + 1 + 1:=by simp
 revert q0 q1 q2 q3 q4
 generalize (((W.alloc (.cells #[.int .i64 0,.int .i64 0,.int .i64 0,.int .i64 0,.slice none 0 0,.slice none 0 0,.slice none 0 0] 25)).alloc (.cells #[.int .i64 0,.int .i64 1,.int .i64 0,.int .i64 (-1),.slice none 0 0,.slice none 0 0,.slice none 0 0] 25)).alloc (.map #[] 0))=V3
 intro q0 q1 q2 q3 q4
 refine (up_1 V3).mono ?_
 rintro e V4 ⟨rfl,hb4⟩;have q5:=q3.trans (hb4.mono q3.size);have hG4:=HG.out.below q5
 have q6:W.heap.size + 1 + 1 + 1≤V4.heap.size:=by rw [← q4];exact hb4.size
 have p0:=ad_ (blk_below q0 hb4);have p1:=ad_ (blk_below q1 hb4);have p2:=ad_ (q2.kept (row:=none) ⟨hb4.os,hb4.tape,hb4.output,hb4.size,fun k hk _=>hb4.block k hk⟩ (by simp));clear q0 q1 q2 q3 q4 hb4
 go_wp2_with fail
 refine (split_1 V4 hG4).mono ?_
 rintro e V5 ⟨v,rfl,ho,hb5⟩;obtain ⟨hl,⟨rfl,h0⟩ | ⟨g,cap,cur,rfl,hg,hh,hn,hm,hc,ht⟩⟩:=ho
 ·cases h0
 have S5:St W _ g cur 0 (.map []) V5:=⟨q5.trans (hb5.mono q5.size),blk_below p0.out hb5,blk_below p1.out hb5,p2.out.kept (row:=none) ⟨hb5.os,hb5.tape,hb5.output,hb5.size,fun k hk _=>hb5.block k hk⟩ (by simp),hh,by omega⟩;have HC0:Aside0 (cur[0]? = some (.string sA)):=⟨cur_at ht (j:=0) rfl⟩;have HC1:Aside0 (cur[1]? = some (.string sB)):=⟨cur_at ht (j:=1) rfl⟩;clear p0 p1 p2 hl hh hc ht hm q5 q6 hb5
 go_wp2
 refine wp_loop_rounds 3 ?_
 rw [rounds_succ];have c0:=(blk_cell S5.row 0).trans HC0.out
 go_wp2_with (first
  | (go_at_call 30;refine (cut_at sA sFREQ sMONTHLY (by decide) (by kernel_rfl) _ (HG.out.below S5.below)).mono ?_;rintro e V6 ⟨rfl,hb6⟩;have S6:=S5.next hb6;have hl:=seen_miss S6.map sFREQ (by decide) rfl)
  | (go_at_call 31;refine (part_freq _ _ _ _ _ _ _ _ _ S6.rule).mono ?_;rintro e V7 ⟨rfl,hr7,hg7⟩;have S7:=S6.ruled hr7 hg7;clear hr7 hg7)
  | (at_mapUpdate;refine wpList_mapUpdate_own _ rfl _ _ _ 59 rfl 9 4 key9 Tryz.underlying59 (plainElem Tryz.prog 4) _ _ _ rfl S7.map (by unfold maxLen;omega) _ _ (.string sFREQ.data.toList) rfl rfl (keyOf_string_mk Tryz.underlying9 (by decide)) (.lit (.bool true)) [] (plainElem_bool Tryz.underlying4 true) ?_;intro V8 hown1 hgrow1;have S8:=S7.mapped hown1 hgrow1;clear hown1 hgrow1))
 clear S5 S6 S7 hl hb6 c0;rw [rounds_succ];have c1:=(blk_cell S8.row 1).trans HC1.out
 go_wp2_with (first
  | (go_at_call 30;refine (cut_at sB sBYDAY sLAST (by decide) (by kernel_rfl) _ (HG.out.below S8.below)).mono ?_;rintro e V9 ⟨rfl,hb9⟩;have S9:=S8.next hb9;have hl:=seen_miss S9.map sBYDAY (by decide) (by kernel_rfl))
  | (go_at_call 31;refine (part_byday _ _ _ _ _ _ _ _ _ S9.rule (HW.out _ (HG.out.below S9.below))).mono ?_;rintro e V10 ⟨rfl,⟨vw,hr10,ho10⟩,hg10⟩;have S10:=S9.ruled hr10 hg10;clear hr10 hg10;have HO:=Aside0.mk ho10;clear ho10)
  | (at_mapUpdate;refine wpList_mapUpdate_own _ rfl _ _ _ 59 rfl 9 4 key9 Tryz.underlying59 (plainElem Tryz.prog 4) _ _ _ rfl S10.map (by unfold maxLen;omega) _ _ (.string sBYDAY.data.toList) rfl rfl (keyOf_string_mk Tryz.underlying9 (by decide)) (.lit (.bool true)) [] (plainElem_bool Tryz.underlying4 true) ?_;intro V11 hown1 hgrow1;have S11:=S10.mapped hown1 hgrow1;have HO11:=ad_ (Kd.R_grown2 HO.out rfl hgrow1 (fun k ek ek2=>by have e1:=((Kd.R_bound HO.out).1 k ek2.symm).2.1;have e2:=S9.map.lt;cases ek;omega));clear hown1 hgrow1))
 have HB9:Aside0 (W.heap.size≤V9.heap.size):=⟨S9.below.size⟩;have HL:Aside0 (W.heap.size < V9.heap.size):=⟨by have:=S9.map.lt;omega⟩;clear S8 S9 S10 hl hb9 c1 HO hG4;obtain ⟨Aw,cw,ew⟩:=Kd.R_slice HO11.out;subst ew;have d0:=blk_cell S11.rule 0;have d1:=blk_cell S11.rule 1;have d2:=blk_cell S11.rule 2;have d3:=blk_cell S11.rule 3;have d4:=blk_cell S11.rule 4;have d5:=blk_cell S11.rule 5;have d6:=blk_cell S11.rule 6;rw [rounds_succ]
 go_wp2_with (first
  | (go_at_call 19;refine (HR.out _ _ S11.below ⟨_,HO11.out⟩).mono ?_;rintro e V12 ⟨rfl,hb12⟩;have S12:=S11.next hb12;have HO12:=ad_ (Kd.R_below HO11.out hb12);have d0:=blk_cell S12.rule 0;have d1:=blk_cell S12.rule 1;have d2:=blk_cell S12.rule 2;have d3:=blk_cell S12.rule 3;have d4:=blk_cell S12.rule 4;have d5:=blk_cell S12.rule 5;have d6:=blk_cell S12.rule 6;have e0:=blk_cell S12.res 0;have e1:=blk_cell S12.res 1;have e2:=blk_cell S12.res 2;have e3:=blk_cell S12.res 3;have e4:=blk_cell S12.res 4;have e5:=blk_cell S12.res 5;have e6:=blk_cell S12.res 6;have f0:=blk_frozen S12.res 0;have f1:=blk_frozen S12.res 1;have f2:=blk_frozen S12.res 2;have f3:=blk_frozen S12.res 3;have f4:=blk_frozen S12.res 4;have f5:=blk_frozen S12.res 5;have f6:=blk_frozen S12.res 6;clear S11 HO11))
 clear d0 d1 d2 d3 d4 d5 d6 e0 e1 e2 e3 e4 e5 e6 f0 f1 f2 f3 f4 f5 f6;have R0:=blk_put S12.res 0 (.int .i64 3) rfl;have R1:=blk_put R0 1 (.int .i64 1) rfl;have R2:=blk_put R1 2 (.int .i64 0) rfl;have R3:=blk_put R2 3 (.int .i64 (-1)) rfl;have R4:=blk_put R3 4 (.slice none 0 0) rfl;have R5:=blk_put R4 5 (.slice none 0 0) rfl;have R6:=blk_put R5 6 (.slice Aw 1 cw) rfl;have hg12:=(((((((grownBy_setCell V12 W.heap.size 0 (.int .i64 3)).trans (grownBy_setCell _ _ 1 (.int .i64 1))).trans (grownBy_setCell _ _ 2 (.int .i64 0))).trans (grownBy_setCell _ _ 3 (.int .i64 (-1)))).trans (grownBy_setCell _ _ 4 (.slice none 0 0))).trans (grownBy_setCell _ _ 5 (.slice none 0 0))).trans (grownBy_setCell _ _ 6 (.slice Aw 1 cw)));have hf:Below W.heap.size W _:=S12.below.grown hg12 S12.below.size (fun k e=>by cases e;omega);have hk:k53.R 53 _ W.heap.size (fun x=>True) (.slice Aw 1 cw) [⟨6,-1⟩]:=Kd.R_lower (Kd.R_grown2 HO12.out rfl hg12 (fun k ek ek2=>by have e1:=((Kd.R_bound HO12.out).1 k ek2.symm).2.1;have e2:=HB9.out;have e3:=S12.map.lt;have e4:=HL.out;cases ek;omega)) HB9.out;exact bodyPost_ret (results_cell_tmp rfl _ _ W.heap.size 25 _ (0,0) _ rfl R6 Tryz.underlying25 rfl (by kernel_rfl)) rfl ⟨_,rfl,hk,hf⟩
set_option maxHeartbeats 4000000 in
set_option maxRecDepth 100000 in
theorem read_2 (W:World) (hG:Read.Glob W)
  (hR:∀ (V:World),Below W.heap.size W V→Calls Tryz.prog 19 #[.agg #[.int .i64 0,.int .i64 1,.int .i64 1,.int .i64 (-1),.slice none 0 0,.slice none 0 0,.slice none 0 0]] V fun e w'=>e = .returned (.bool false)∧Below V.heap.size V w') :
  Calls Tryz.prog 18 #[.string sTEXT2] W fun e w'=>e = .returned (.tuple #[.agg #[.int .i64 0,.int .i64 0,.int .i64 0,.int .i64 0,.slice none 0 0,.slice none 0 0,.slice none 0 0],.int .i64 3])∧Below W.heap.size W w':=by
 have hmm:=@run_makeMap Tryz.prog;have HR:=Aside0.mk hR;have HG:=Aside0.mk hG;clear hR hG
 go_enter Tryz.func18,Tryz.ntmps18
 go_wp2_with fail
 have q0:(((W.alloc (.cells #[.int .i64 0,.int .i64 0,.int .i64 0,.int .i64 0,.slice none 0 0,.slice none 0 0,.slice none 0 0] 25)).alloc (.cells #[.int .i64 0,.int .i64 1,.int .i64 0,.int .i64 (-1),.slice none 0 0,.slice none 0 0,.slice none 0 0] 25)).alloc (.map #[] 0)).heap[W.heap.size]? = some (.cells #[.int .i64 0,.int .i64 0,.int .i64 0,.int .i64 0,.slice none 0 0,.slice none 0 0,.slice none 0 0] 25 (0,0)):=blk_alloc (blk_alloc (blk_new W _) _) _
 have q1:(((W.alloc (.cells #[.int .i64 0,.int .i64 0,.int .i64 0,.int .i64 0,.slice none 0 0,.slice none 0 0,.slice none 0 0] 25)).alloc (.cells #[.int .i64 0,.int .i64 1,.int .i64 0,.int .i64 (-1),.slice none 0 0,.slice none 0 0,.slice none 0 0] 25)).alloc (.map #[] 0)).heap[W.heap.size + 1]? = some (.cells #[.int .i64 0,.int .i64 1,.int .i64 0,.int .i64 (-1),.slice none 0 0,.slice none 0 0,.slice none 0 0] 25 (0,0)):=by
  have:=blk_new (W.alloc (.cells #[.int .i64 0,.int .i64 0,.int .i64 0,.int .i64 0,.slice none 0 0,.slice none 0 0,.slice none 0 0] 25)) (.cells #[.int .i64 0,.int .i64 1,.int .i64 0,.int .i64 (-1),.slice none 0 0,.slice none 0 0,.slice none 0 0] 25)
  rw [World.size_alloc] at this;exact blk_alloc this _
 have q2:(((W.alloc (.cells #[.int .i64 0,.int .i64 0,.int .i64 0,.int .i64 0,.slice none 0 0,.slice none 0 0,.slice none 0 0] 25)).alloc (.cells #[.int .i64 0,.int .i64 1,.int .i64 0,.int .i64 (-1),.slice none 0 0,.slice none 0 0,.slice none 0 0] 25)).alloc (.map #[] 0)).ownsMap Tryz.prog 9 (plainElem (H:=Unit) Tryz.prog 4) (W.heap.size + 1 + 1) 0 (.map []):=by
  have:=World.ownsMap_made ((W.alloc (.cells #[.int .i64 0,.int .i64 0,.int .i64 0,.int .i64 0,.slice none 0 0,.slice none 0 0,.slice none 0 0] 25)).alloc (.cells #[.int .i64 0,.int .i64 1,.int .i64 0,.int .i64 (-1),.slice none 0 0,.slice none 0 0,.slice none 0 0] 25)) Tryz.prog 9 (plainElem (H:=Unit) Tryz.prog 4)
  rw [World.size_alloc,World.size_alloc] at this;exact this
 have q3:Below W.heap.size W (((W.alloc (.cells #[.int .i64 0,.int .i64 0,.int .i64 0,.int .i64 0,.slice none 0 0,.slice none 0 0,.slice none 0 0] 25)).alloc (.cells #[.int .i64 0,.int .i64 1,.int .i64 0,.int .i64 (-1),.slice none 0 0,.slice none 0 0,.slice none 0 0] 25)).alloc (.map #[] 0)):=(((Below.refl _ _).alloc (Nat.le_refl _) _).alloc (by simp) _).alloc (by simp;omega) _
 have q4:(((W.alloc (.cells #[.int .i64 0,.int .i64 0,.int .i64 0,.int .i64 0,.slice none 0 0,.slice none 0 0,.slice none 0 0] 25)).alloc (.cells #[.int .i64 0,.int .i64 1,.int .i64 0,.int .i64 (-1),.slice none 0 0,.slice none 0 0,.slice none 0 0] 25)).alloc (.map #[] 0)).heap.size=W.heap.size + 1 + 1 + 1:=by simp
 revert q0 q1 q2 q3 q4
 generalize (((W.alloc (.cells #[.int .i64 0,.int .i64 0,.int .i64 0,.int .i64 0,.slice none 0 0,.slice none 0 0,.slice none 0 0] 25)).alloc (.cells #[.int .i64 0,.int .i64 1,.int .i64 0,.int .i64 (-1),.slice none 0 0,.slice none 0 0,.slice none 0 0] 25)).alloc (.map #[] 0))=V3
 intro q0 q1 q2 q3 q4
 refine (up_2 V3).mono ?_
 rintro e V4 ⟨rfl,hb4⟩;have q5:=q3.trans (hb4.mono q3.size);have hG4:=HG.out.below q5
 have q6:W.heap.size + 1 + 1 + 1≤V4.heap.size:=by rw [← q4];exact hb4.size
 have p0:=ad_ (blk_below q0 hb4);have p1:=ad_ (blk_below q1 hb4);have p2:=ad_ (q2.kept (row:=none) ⟨hb4.os,hb4.tape,hb4.output,hb4.size,fun k hk _=>hb4.block k hk⟩ (by simp));clear q0 q1 q2 q3 q4 hb4
 go_wp2_with fail
 refine (split_2 V4 hG4).mono ?_
 rintro e V5 ⟨v,rfl,ho,hb5⟩;obtain ⟨hl,⟨rfl,h0⟩ | ⟨g,cap,cur,rfl,hg,hh,hn,hm,hc,ht⟩⟩:=ho
 ·cases h0
 have S5:St W _ g cur 0 (.map []) V5:=⟨q5.trans (hb5.mono q5.size),blk_below p0.out hb5,blk_below p1.out hb5,p2.out.kept (row:=none) ⟨hb5.os,hb5.tape,hb5.output,hb5.size,fun k hk _=>hb5.block k hk⟩ (by simp),hh,by omega⟩;have HC0:Aside0 (cur[0]? = some (.string sTEXT2)):=⟨cur_at ht (j:=0) rfl⟩;clear p0 p1 p2 hl hh hc ht hm q5 q6 hb5
 go_wp2
 refine wp_loop_rounds 2 ?_
 rw [rounds_succ];have c0:=(blk_cell S5.row 0).trans HC0.out
 go_wp2_with (first
  | (go_at_call 30;refine (cut_at sTEXT2 sCOUNT sONE (by decide) (by kernel_rfl) _ (HG.out.below S5.below)).mono ?_;rintro e V6 ⟨rfl,hb6⟩;have S6:=S5.next hb6;have hl:=seen_miss S6.map sCOUNT (by decide) rfl)
  | (go_at_call 31;refine (part_count _ _ _ _ _ _ _ _ _ S6.rule (HG.out.below S6.below)).mono ?_;rintro e V7 ⟨rfl,hr7,hg7⟩;have S7:=S6.ruled hr7 hg7;clear hr7 hg7)
  | (at_mapUpdate;refine wpList_mapUpdate_own _ rfl _ _ _ 59 rfl 9 4 key9 Tryz.underlying59 (plainElem Tryz.prog 4) _ _ _ rfl S7.map (by unfold maxLen;omega) _ _ (.string sCOUNT.data.toList) rfl rfl (keyOf_string_mk Tryz.underlying9 (by decide)) (.lit (.bool true)) [] (plainElem_bool Tryz.underlying4 true) ?_;intro V8 hown1 hgrow1;have S8:=S7.mapped hown1 hgrow1;clear hown1 hgrow1))
 clear S5 S6 S7 hl hb6 c0 hG4;have d0:=blk_cell S8.rule 0;have d1:=blk_cell S8.rule 1;have d2:=blk_cell S8.rule 2;have d3:=blk_cell S8.rule 3;have d4:=blk_cell S8.rule 4;have d5:=blk_cell S8.rule 5;have d6:=blk_cell S8.rule 6;rw [rounds_succ]
 go_wp2_with (first
  | (go_at_call 19;refine (HR.out _ S8.below).mono ?_;rintro e V12 ⟨rfl,hb12⟩;have S12:=S8.next hb12;have e0:=blk_cell S12.res 0;have e1:=blk_cell S12.res 1;have e2:=blk_cell S12.res 2;have e3:=blk_cell S12.res 3;have e4:=blk_cell S12.res 4;have e5:=blk_cell S12.res 5;have e6:=blk_cell S12.res 6;have f0:=blk_frozen S12.res 0;have f1:=blk_frozen S12.res 1;have f2:=blk_frozen S12.res 2;have f3:=blk_frozen S12.res 3;have f4:=blk_frozen S12.res 4;have f5:=blk_frozen S12.res 5;have f6:=blk_frozen S12.res 6;clear S8 d0 d1 d2 d3 d4 d5 d6))
 clear e0 e1 e2 e3 e4 e5 e6 f0 f1 f2 f3 f4 f5 f6;have R0:=blk_put S12.res 0 (.int .i64 0) rfl;have R1:=blk_put R0 1 (.int .i64 0) rfl;have R2:=blk_put R1 2 (.int .i64 0) rfl;have R3:=blk_put R2 3 (.int .i64 0) rfl;have R4:=blk_put R3 4 (.slice none 0 0) rfl;have R5:=blk_put R4 5 (.slice none 0 0) rfl;have R6:=blk_put R5 6 (.slice none 0 0) rfl;have hg12:=(((((((grownBy_setCell V12 W.heap.size 0 (.int .i64 0)).trans (grownBy_setCell _ _ 1 (.int .i64 0))).trans (grownBy_setCell _ _ 2 (.int .i64 0))).trans (grownBy_setCell _ _ 3 (.int .i64 0))).trans (grownBy_setCell _ _ 4 (.slice none 0 0))).trans (grownBy_setCell _ _ 5 (.slice none 0 0))).trans (grownBy_setCell _ _ 6 (.slice none 0 0)));have hf:Below W.heap.size W _:=S12.below.grown hg12 S12.below.size (fun k e=>by cases e;omega);exact bodyPost_ret (results_cell_tmp rfl _ _ W.heap.size 25 _ (0,0) _ rfl R6 Tryz.underlying25 rfl (by kernel_rfl)) rfl ⟨rfl,hf⟩
/-- Read is told at two texts. -/
def recur_Read.f (a0:ByteArray):Option (Int×Int×Int×Int×List Int×List Int×List S53×Int) :=
 if a0=sTEXT1 then some (3,1,0,-1,[],[],[⟨6,-1⟩],0) else if a0=sTEXT2 then some (0,0,0,0,[],[],[],3) else none
theorem nil_C {α:Type} {d:Kd α} (w:World):Kd.C d w none 0 []:=(Kd.R_reads (Kd.R_nil d 0 w 0 (fun _=>True))).elim fun A h=>h.elim fun c h=>by
 obtain ⟨e,-,h⟩:=h
 injection e with e1 e2 e3
 subst e1;exact h
theorem week_last (W:World) (hG:Read.Glob W):Calls Tryz.prog 53 #[.string sLAST] W fun e w'=>∃ v0_:Value,e = .returned (.tuple #[v0_,.bool true])∧Kd.R k53 53 w' W.heap.size (fun _=>True) v0_ [⟨6,-1⟩]∧Below W.heap.size W w' :=
 recur_week.calls 40 sLAST [⟨6,-1⟩] true W (by kernel_rfl) hG
theorem right_1:recur_Right.f 40 3 1 0 (-1) [] [] [⟨6,-1⟩] = some true:=by kernel_rfl
theorem right_2:recur_Right.f 40 0 1 1 (-1) [] [] [] = some false:=by kernel_rfl
theorem recur_Read.calls (a0:ByteArray) (r1 r2 r3 r4:Int) (r5 r6:List Int) (r7:List S53) (r8:Int) (w:World) (h:recur_Read.f a0=some (r1,r2,r3,r4,r5,r6,r7,r8)) (hG:Read.Glob w:=by exact Read.Glob.below HG.out bel_) :
  Calls Tryz.prog 18 #[.string a0] w fun e w'=>∃ v0_ v1_ v2_:Value,e = .returned (.tuple #[.agg #[.int .i64 r1,.int .i64 r2,.int .i64 r3,.int .i64 r4,v0_,v1_,v2_],.int .i64 r8])∧Kd.R (Kd.int .i64) 3 w' w.heap.size (fun k_=>some k_≠v1_.ownBlock) v0_ r5∧Kd.R (Kd.int .i64) 3 w' w.heap.size (fun k_=>some k_≠v0_.ownBlock) v1_ r6∧Kd.R k53 53 w' w.heap.size (fun _=>True) v2_ r7∧Below w.heap.size w w':=by
 unfold recur_Read.f at h
 split at h
 ·rename_i c
  subst c
  simp only [Option.some.injEq,Prod.mk.injEq] at h
  obtain ⟨rfl,rfl,rfl,rfl,rfl,rfl,rfl,rfl⟩:=h
  refine (read_1 w hG (fun V hV=>week_last V hV) (fun V v _ ⟨B,ho⟩=>?_)).mono ?_
  ·obtain ⟨A,c,rfl,hc,hC⟩:=Kd.R_reads ho;exact recur_Right.calls 40 3 1 0 (-1) none 0 [] none 0 [] A c [⟨6,-1⟩] true V (nil_C V) (Nat.le_refl _) (nil_C V) (Nat.le_refl _) hC hc right_1
  ·rintro e w' ⟨v,rfl,hk,hb⟩;exact ⟨_,_,v,rfl,Kd.R_nil _ _ _ _ _,Kd.R_nil _ _ _ _ _,hk,hb⟩
 ·split at h
  ·rename_i c
   subst c
   simp only [Option.some.injEq,Prod.mk.injEq] at h
   obtain ⟨rfl,rfl,rfl,rfl,rfl,rfl,rfl,rfl⟩:=h
   refine (read_2 w hG (fun V _=>?_)).mono ?_
   ·exact recur_Right.calls 40 0 1 1 (-1) none 0 [] none 0 [] none 0 [] false V (nil_C V) (Nat.le_refl _) (nil_C V) (Nat.le_refl _) (nil_C V) (Nat.le_refl _) right_2
   ·rintro e w' ⟨rfl,hb⟩;exact ⟨_,_,_,rfl,Kd.R_nil _ _ _ _ _,Kd.R_nil _ _ _ _ _,Kd.R_nil _ _ _ _ _,hb⟩
  ·cases h
end

/-! ### posthornlaw21_alive: function 9 -/
def posthornlaw21_alive.f (k:Nat)  : Option (Bool):=(recur_Read.f (⟨#[102,114,101,113,61,77,79,78,84,72,76,89,59,66,89,68,65,89,61,45,49,115,117]⟩:ByteArray)).bind fun bt177=>((recur_Expand.f k bt177.1 bt177.2.1 bt177.2.2.1 bt177.2.2.2.1 bt177.2.2.2.2.1 bt177.2.2.2.2.2.1 bt177.2.2.2.2.2.2.1 0 0 10000000 4).bind fun bt192=>((recur_Read.f (⟨#[67,79,85,78,84,61,49]⟩:ByteArray)).bind fun bt196=>((recur_Match.f k bt177.1 bt177.2.1 bt177.2.2.1 bt177.2.2.2.1 bt177.2.2.2.2.1 bt177.2.2.2.2.2.1 bt177.2.2.2.2.2.2.1 0 24).bind fun bt211=>(if bt177.2.2.2.2.2.2.2=0 then (if bt192.2=0 then (if (bt192.1.length:Int)=4 then (if 0 < (bt192.1.length:Int) then (if (rd bt192.1 0)=0 then (if 1 < (bt192.1.length:Int) then (if (rd bt192.1 1)=2073600 then (if 3 < (bt192.1.length:Int) then (if (rd bt192.1 3)=7516800 then (if bt196.2.2.2.2.2.2.2=3 then (if bt211.1=true then (some (bt211.2 == 0)) else (some false)) else (some false)) else (some false)) else (none)) else (some false)) else (none)) else (some false)) else (none)) else (some false)) else (some false)) else (some false)))))
set_option maxHeartbeats 8000000 in
set_option maxRecDepth 100000 in
theorem posthornlaw21_alive.calls (k:Nat)  (r:Bool) (w:World) (h:posthornlaw21_alive.f k  = some r) (hr_:Aside0 (r=true):=by first | exact ⟨rfl⟩ | assumption) (hG:Read.Glob w:=by exact Read.Glob.below HG.out bel_) :
  Calls Tryz.prog 9 #[] w fun e w'=>e = .returned (.bool r)∧Below w.heap.size w w':=by
 have hu25:=Tryz.underlying25;have HB:=ad_ (Below.refl w.heap.size w);have HG:=Aside0.mk hG;clear hG;have H:((recur_Read.f (⟨#[102,114,101,113,61,77,79,78,84,72,76,89,59,66,89,68,65,89,61,45,49,115,117]⟩:ByteArray)).bind fun bt177=>((recur_Expand.f k bt177.1 bt177.2.1 bt177.2.2.1 bt177.2.2.2.1 bt177.2.2.2.2.1 bt177.2.2.2.2.2.1 bt177.2.2.2.2.2.2.1 0 0 10000000 4).bind fun bt192=>((recur_Read.f (⟨#[67,79,85,78,84,61,49]⟩:ByteArray)).bind fun bt196=>((recur_Match.f k bt177.1 bt177.2.1 bt177.2.2.1 bt177.2.2.2.1 bt177.2.2.2.2.1 bt177.2.2.2.2.2.1 bt177.2.2.2.2.2.2.1 0 24).bind fun bt211=>(if bt177.2.2.2.2.2.2.2=0 then (if bt192.2=0 then (if (bt192.1.length:Int)=4 then (if 0 < (bt192.1.length:Int) then (if (rd bt192.1 0)=0 then (if 1 < (bt192.1.length:Int) then (if (rd bt192.1 1)=2073600 then (if 3 < (bt192.1.length:Int) then (if (rd bt192.1 3)=7516800 then (if bt196.2.2.2.2.2.2.2=3 then (if bt211.1=true then (some (bt211.2 == 0)) else (some false)) else (some false)) else (some false)) else (none)) else (some false)) else (none)) else (some false)) else (none)) else (some false)) else (some false)) else (some false))))))=some r:=h;clear h;replace H:=Option.bind_eq_some_iff.mp H;obtain ⟨⟨t177,t178,t179,t180,t181,t184,t187,t190⟩,A10,H⟩:=H
 try dsimp only at H
 have A1:=ad_ A10;clear A10;replace H:=Option.bind_eq_some_iff.mp H;obtain ⟨⟨t192,t195⟩,A20,H⟩:=H
 try dsimp only at H
 have A2:=ad_ A20;clear A20;replace H:=Option.bind_eq_some_iff.mp H;obtain ⟨⟨t196,t197,t198,t199,t200,t203,t206,t209⟩,A30,H⟩:=H
 try dsimp only at H
 have A3:=ad_ A30;clear A30;replace H:=Option.bind_eq_some_iff.mp H;obtain ⟨⟨t211,t212⟩,A40,H⟩:=H
 try dsimp only at H
 have A4:=ad_ A40;clear A40
 by_cases c5:t190=0
 ·rw [if_pos c5] at H;have c5b0:(t190 == 0)=true:=beq_iff_eq.mpr c5;have c5b1:(t190 != 0)=false:=bne_eq_false_iff_eq.mpr c5;clear c5
  by_cases c6:t195=0
  ·rw [if_pos c6] at H;have c6b0:(t195 == 0)=true:=beq_iff_eq.mpr c6;have c6b1:(t195 != 0)=false:=bne_eq_false_iff_eq.mpr c6;clear c6
   by_cases c7:(t192.length:Int)=4
   ·rw [if_pos c7] at H;have c7b0:((t192.length:Int) == 4)=true:=beq_iff_eq.mpr c7;have c7b1:((t192.length:Int) != 4)=false:=bne_eq_false_iff_eq.mpr c7;clear c7
    by_cases c8:0 < (t192.length:Int)
    ·rw [if_pos c8] at H;have c8b0:decide (0 < (t192.length:Int))=true:=decide_eq_true c8;have c8b1:decide (0 < t192.length)=true:=decide_eq_true (by omega);clear c8
     by_cases c9:(rd t192 0)=0
     ·rw [if_pos c9] at H;have c9b0:((rd t192 0) == 0)=true:=beq_iff_eq.mpr c9;have c9b1:((rd t192 0) != 0)=false:=bne_eq_false_iff_eq.mpr c9;clear c9
      by_cases c10:1 < (t192.length:Int)
      ·rw [if_pos c10] at H;have c10b0:decide (1 < (t192.length:Int))=true:=decide_eq_true c10;have c10b1:decide (1 < t192.length)=true:=decide_eq_true (by omega);clear c10
       by_cases c11:(rd t192 1)=2073600
       ·rw [if_pos c11] at H;have c11b0:((rd t192 1) == 2073600)=true:=beq_iff_eq.mpr c11;have c11b1:((rd t192 1) != 2073600)=false:=bne_eq_false_iff_eq.mpr c11;clear c11
        by_cases c12:3 < (t192.length:Int)
        ·rw [if_pos c12] at H;have c12b0:decide (3 < (t192.length:Int))=true:=decide_eq_true c12;have c12b1:decide (3 < t192.length)=true:=decide_eq_true (by omega);clear c12
         by_cases c13:(rd t192 3)=7516800
         ·rw [if_pos c13] at H;have c13b0:((rd t192 3) == 7516800)=true:=beq_iff_eq.mpr c13;have c13b1:((rd t192 3) != 7516800)=false:=bne_eq_false_iff_eq.mpr c13;clear c13
          by_cases c14:t209=3
          ·rw [if_pos c14] at H;have c14b0:(t209 == 3)=true:=beq_iff_eq.mpr c14;have c14b1:(t209 != 3)=false:=bne_eq_false_iff_eq.mpr c14;clear c14
           by_cases c15:t211=true
           ·subst c15;replace H:=ifp_ H;obtain rfl:=Option.some.inj H
            go_enter Tryz.func9,Tryz.ntmps9
            go_wp2_with (first | ((with_reducible refine gate_callee (f:=18) rfl ?_);refine goesL_ (some 10) rfl rfl Tryz.func18 (by kernel_rfl) rfl #[.string (⟨#[102,114,101,113,61,77,79,78,84,72,76,89,59,66,89,68,65,89,61,45,49,115,117]⟩:ByteArray)] rfl arg_ ?_;(with_reducible refine (recur_Read.calls (⟨#[102,114,101,113,61,77,79,78,84,72,76,89,59,66,89,68,65,89,61,45,49,115,117]⟩:ByteArray) t177 t178 t179 t180 t181 t184 t187 t190 _ A1.out).mono ?_);rintro e w16 ⟨v182,v185,v188,rfl,ho0,ho1,ho2,hb⟩;refine ⟨_,rfl,?_⟩;have HO183:=ad_ (Kd.R_lower ho0 (below_size bel_));have HO186:=ad_ (Kd.R_lower ho1 (below_size bel_));have HO189:=ad_ (Kd.R_lower ho2 (below_size bel_));replace HB:=hbb_ hb;(try clear hb);(try clear hb2);(try clear hk);(try clear hi);(try clear ho0);(try clear ho1);(try clear ho2)) | ((with_reducible refine gate_dst (N:=1) rfl ?_);(try (refine gate_guard (by rfl) ?_;dsimp only));refine box_event ?hg (N:=1) ?hd (cs:=#[.int .i64 0,.int .i64 0,.int .i64 0,.int .i64 0,.slice none 0 0,.slice none 0 0,.slice none 0 0]) (t:=25) ?hr ?_;(case hd=>rfl);(case hg=>rfl);(case hr=>first | (go_simp;done) | (go_simp;rfl));intro gb191 hg w17 hbox hb;replace HO183:=ad_ (Kd.R_below (rod_ HO183) hb);replace HO186:=ad_ (Kd.R_below (rod_ HO186) hb);replace HO189:=ad_ (Kd.R_below (rod_ HO189) hb);have BK191:=ad_ (hbox);have GW191:=ad_ ((by rw [hg];exact (below_size bel_):w.heap.size≤gb191));have GE191:=ad_ ((by rw [hg];exact (below_size bel_):w.heap.size≤gb191));replace HB:=hbb_ hb;clear hb hbox hg;have hcz18_:=cells7_ BK191.out;obtain ⟨Ao19,co19,eo19⟩:=Kd.R_slice HO183.out;subst eo19;obtain ⟨Ao20,co20,eo20⟩:=Kd.R_slice HO186.out;subst eo20;obtain ⟨Ao21,co21,eo21⟩:=Kd.R_slice HO189.out;subst eo21) | ((with_reducible refine gate_callee (f:=14) rfl ?_);refine goesL_ (some 15) rfl rfl Tryz.func14 (by kernel_rfl) rfl #[.agg #[.int .i64 t177,.int .i64 t178,.int .i64 t179,.int .i64 t180,.slice Ao19 t181.length co19,.slice Ao20 t184.length co20,.slice Ao21 t187.length co21],.int .i64 0,.int .i64 0,.int .i64 10000000,.int .i64 4] rfl arg_ ?_;(with_reducible refine (recur_Expand.calls k t177 t178 t179 t180 _ _ t181 _ _ t184 _ _ t187 0 0 10000000 4 t192 t195 _ ?side1 ?side2 ?side3 ?side4 ?side5 ?side6 A2.out).mono ?_);(case side1=>refine (Kd.R_reads' (e:=3) (base:=w.heap.size) (ok:=fun k_=>some k_≠(.slice Ao20 t184.length co20:Value).ownBlock) (n:=t181.length) (c:=co19) ?_).2.2;exact (by (with_reducible repeat (first | apply Kd.R_alloc | apply Kd.R_drewN | apply Kd.R_drew));exact (Kd.R_mono (rfar_ (Kd.R_types HO183.out BK191.out (by decide))) (fun _ h_=>h_.1))));(case side2=>exact (Kd.R_reads' HO183.out).2.1);(case side3=>refine (Kd.R_reads' (e:=3) (base:=w.heap.size) (ok:=fun k_=>some k_≠(.slice Ao19 t181.length co19:Value).ownBlock) (n:=t184.length) (c:=co20) ?_).2.2;exact (by (with_reducible repeat (first | apply Kd.R_alloc | apply Kd.R_drewN | apply Kd.R_drew));exact (Kd.R_mono (rfar_ (Kd.R_types HO186.out BK191.out (by decide))) (fun _ h_=>h_.1))));(case side4=>exact (Kd.R_reads' HO186.out).2.1);(case side5=>refine (Kd.R_reads' (e:=53) (base:=w.heap.size) (ok:=fun k_=>True) (n:=t187.length) (c:=co21) ?_).2.2;exact (by (with_reducible repeat (first | apply Kd.R_alloc | apply Kd.R_drewN | apply Kd.R_drew));exact (Kd.R_mono (rfar_ (Kd.R_types HO189.out BK191.out (by decide))) (fun _ h_=>h_.1))));(case side6=>exact (Kd.R_reads' HO189.out).2.1);rintro e w22 ⟨v193,rfl,ho0,hb⟩;refine ⟨_,rfl,?_⟩;replace HO183:=ad_ (Kd.R_below (by (with_reducible repeat (first | apply Kd.R_alloc | apply Kd.R_drewN | apply Kd.R_drew));exact (Kd.R_mono (rfar_ (Kd.R_types HO183.out BK191.out (by decide))) (fun _ h_=>h_.1))) hb);replace HO186:=ad_ (Kd.R_below (by (with_reducible repeat (first | apply Kd.R_alloc | apply Kd.R_drewN | apply Kd.R_drew));exact (Kd.R_mono (rfar_ (Kd.R_types HO186.out BK191.out (by decide))) (fun _ h_=>h_.1))) hb);replace HO189:=ad_ (Kd.R_below (by (with_reducible repeat (first | apply Kd.R_alloc | apply Kd.R_drewN | apply Kd.R_drew));exact (Kd.R_mono (rfar_ (Kd.R_types HO189.out BK191.out (by decide))) (fun _ h_=>h_.1))) hb);have HO194:=ad_ (Kd.R_lower ho0 (below_size belg_));replace BK191:=ad_ (blk_below (g:=gb191) (o:=.cells #[.int .i64 t177,.int .i64 t178,.int .i64 t179,.int .i64 t180,.slice Ao19 t181.length co19,.slice Ao20 t184.length co20,.slice Ao21 t187.length co21] 25 (0,0)) (by refine blo_ ?_;refine blk_put (cs:=#[.int .i64 t177,.int .i64 t178,.int .i64 t179,.int .i64 t180,.slice Ao19 t181.length co19,.slice Ao20 t184.length co20,.slice none 0 0]) ?_ 6 _ rfl;refine blo_ ?_;refine blk_put (cs:=#[.int .i64 t177,.int .i64 t178,.int .i64 t179,.int .i64 t180,.slice Ao19 t181.length co19,.slice none 0 0,.slice none 0 0]) ?_ 5 _ rfl;refine blo_ ?_;refine blk_put (cs:=#[.int .i64 t177,.int .i64 t178,.int .i64 t179,.int .i64 t180,.slice none 0 0,.slice none 0 0,.slice none 0 0]) ?_ 4 _ rfl;refine blo_ ?_;refine blk_put (cs:=#[.int .i64 t177,.int .i64 t178,.int .i64 t179,.int .i64 0,.slice none 0 0,.slice none 0 0,.slice none 0 0]) ?_ 3 _ rfl;refine blo_ ?_;refine blk_put (cs:=#[.int .i64 t177,.int .i64 t178,.int .i64 0,.int .i64 0,.slice none 0 0,.slice none 0 0,.slice none 0 0]) ?_ 2 _ rfl;refine blo_ ?_;refine blk_put (cs:=#[.int .i64 t177,.int .i64 0,.int .i64 0,.int .i64 0,.slice none 0 0,.slice none 0 0,.slice none 0 0]) ?_ 1 _ rfl;refine blo_ ?_;refine blk_put (cs:=#[.int .i64 0,.int .i64 0,.int .i64 0,.int .i64 0,.slice none 0 0,.slice none 0 0,.slice none 0 0]) ?_ 0 _ rfl;exact blo_ BK191.out) hb);replace HB:=hbb_ hb;(try clear hb);(try clear hb2);(try clear hk);(try clear hi);(try clear ho0)) | ((with_reducible refine gate_callee (f:=18) rfl ?_);refine goesL_ (some 19) rfl rfl Tryz.func18 (by kernel_rfl) rfl #[.string (⟨#[67,79,85,78,84,61,49]⟩:ByteArray)] rfl arg_ ?_;(with_reducible refine (recur_Read.calls (⟨#[67,79,85,78,84,61,49]⟩:ByteArray) t196 t197 t198 t199 t200 t203 t206 t209 _ A3.out).mono ?_);rintro e w23 ⟨v201,v204,v207,rfl,ho0,ho1,ho2,hb⟩;refine ⟨_,rfl,?_⟩;replace HO194:=ad_ (Kd.R_below (rod_ HO194) hb);have HO202:=ad_ (Kd.R_lower (Kd.R_new' (Kd.R_new' ho0 (Kd.R_lt (rod_ HO183))) (Kd.R_lt (rod_ HO186))) (below_size belg_));have HO205:=ad_ (Kd.R_lower (Kd.R_new' (Kd.R_new' ho1 (Kd.R_lt (rod_ HO183))) (Kd.R_lt (rod_ HO186))) (below_size belg_));replace HO183:=ad_ (Kd.R_mono (Kd.R_told (Kd.R_told (Kd.R_old (rod_ HO183) hb) (Kd.R_base ho0)) (Kd.R_base ho1)) (fun _ h_=>h_.1));replace HO186:=ad_ (Kd.R_mono (Kd.R_told (Kd.R_told (Kd.R_old (rod_ HO186) hb) (Kd.R_base ho0)) (Kd.R_base ho1)) (fun _ h_=>h_.1));have HO208:=ad_ (Kd.R_lower (Kd.R_new' ho2 (Kd.R_lt (rod_ HO189))) (below_size belg_));replace HO189:=ad_ (Kd.R_elder' (rod_ HO189) (Kd.R_base ho2) hb);replace BK191:=ad_ (blk_below (g:=gb191) (o:=.cells #[.int .i64 t177,.int .i64 t178,.int .i64 t179,.int .i64 t180,.slice Ao19 t181.length co19,.slice Ao20 t184.length co20,.slice Ao21 t187.length co21] 25 (0,0)) (blo_ BK191.out) hb);replace HB:=hbb_ hb;(try clear hb);(try clear hb2);(try clear hk);(try clear hi);(try clear ho0);(try clear ho1);(try clear ho2)) | ((with_reducible refine gate_dst (N:=5) rfl ?_);(try (refine gate_guard (by rfl) ?_;dsimp only));refine box_event ?hg (N:=5) ?hd (cs:=#[.int .i64 0,.int .i64 0,.int .i64 0,.int .i64 0,.slice none 0 0,.slice none 0 0,.slice none 0 0]) (t:=25) ?hr ?_;(case hd=>rfl);(case hg=>rfl);(case hr=>first | (go_simp;done) | (go_simp;rfl));intro gb210 hg w24 hbox hb;replace HO183:=ad_ (Kd.R_below (rod_ HO183) hb);replace HO186:=ad_ (Kd.R_below (rod_ HO186) hb);replace HO189:=ad_ (Kd.R_below (rod_ HO189) hb);replace HO194:=ad_ (Kd.R_below (rod_ HO194) hb);replace HO202:=ad_ (Kd.R_below (rod_ HO202) hb);replace HO205:=ad_ (Kd.R_below (rod_ HO205) hb);replace HO208:=ad_ (Kd.R_below (rod_ HO208) hb);have BK210:=ad_ (hbox);have GW210:=ad_ ((by rw [hg];exact (below_size belg_):w.heap.size≤gb210));have GE210:=ad_ ((by rw [hg];exact (below_size belg_):w.heap.size≤gb210));replace HB:=hbb_ hb;have NB191_210:=ad_ ((by rw [hg];exact Nat.ne_of_lt (blk_lt (g:=gb191) (o:=.cells #[.int .i64 t177,.int .i64 t178,.int .i64 t179,.int .i64 t180,.slice Ao19 t181.length co19,.slice Ao20 t184.length co20,.slice Ao21 t187.length co21] 25 (0,0)) (blo_ BK191.out)):gb191≠gb210));have NB210_191:=ad_ ((by rw [hg];exact Nat.ne_of_gt (blk_lt (g:=gb191) (o:=.cells #[.int .i64 t177,.int .i64 t178,.int .i64 t179,.int .i64 t180,.slice Ao19 t181.length co19,.slice Ao20 t184.length co20,.slice Ao21 t187.length co21] 25 (0,0)) (blo_ BK191.out)):gb210≠gb191));replace BK191:=ad_ (blk_below (g:=gb191) (o:=.cells #[.int .i64 t177,.int .i64 t178,.int .i64 t179,.int .i64 t180,.slice Ao19 t181.length co19,.slice Ao20 t184.length co20,.slice Ao21 t187.length co21] 25 (0,0)) (blo_ BK191.out) hb);clear hb hbox hg;have hnb25:=NB210_191.out;have hnc25:=NB191_210.out;have hcz26_:=cells7_ BK210.out;obtain ⟨Ao27,co27,eo27⟩:=Kd.R_slice HO202.out;subst eo27;obtain ⟨Ao28,co28,eo28⟩:=Kd.R_slice HO205.out;subst eo28;obtain ⟨Ao29,co29,eo29⟩:=Kd.R_slice HO208.out;subst eo29;have hcz30_:=cells7_ BK191.out) | ((with_reducible refine gate_callee (f:=10) rfl ?_);refine goesL_ (some 24) rfl rfl Tryz.func10 (by kernel_rfl) rfl #[.agg #[.int .i64 t177,.int .i64 t178,.int .i64 t179,.int .i64 t180,.slice Ao19 t181.length co19,.slice Ao20 t184.length co20,.slice Ao21 t187.length co21],.int .i64 0,.int .i64 24] rfl arg_ ?_;(with_reducible refine (recur_Match.calls k t177 t178 t179 t180 _ _ t181 _ _ t184 _ _ t187 0 24 true t212 _ ?side1 ?side2 ?side3 ?side4 ?side5 ?side6 A4.out).mono ?_);(case side1=>refine (Kd.R_reads' (e:=3) (base:=w.heap.size) (ok:=fun k_=>((some k_≠(.slice Ao20 t184.length co20:Value).ownBlock∧some k_≠(.slice Ao27 t200.length co27:Value).ownBlock)∧some k_≠(.slice Ao28 t203.length co28:Value).ownBlock)) (n:=t181.length) (c:=co19) ?_).2.2;exact (by (with_reducible repeat (first | apply Kd.R_alloc | apply Kd.R_drewN | apply Kd.R_drew));exact (Kd.R_mono (rfar_ (Kd.R_types HO183.out BK210.out (by decide))) (fun _ h_=>h_.1))));(case side2=>exact (Kd.R_reads' HO183.out).2.1);(case side3=>refine (Kd.R_reads' (e:=3) (base:=w.heap.size) (ok:=fun k_=>((some k_≠(.slice Ao19 t181.length co19:Value).ownBlock∧some k_≠(.slice Ao27 t200.length co27:Value).ownBlock)∧some k_≠(.slice Ao28 t203.length co28:Value).ownBlock)) (n:=t184.length) (c:=co20) ?_).2.2;exact (by (with_reducible repeat (first | apply Kd.R_alloc | apply Kd.R_drewN | apply Kd.R_drew));exact (Kd.R_mono (rfar_ (Kd.R_types HO186.out BK210.out (by decide))) (fun _ h_=>h_.1))));(case side4=>exact (Kd.R_reads' HO186.out).2.1);(case side5=>refine (Kd.R_reads' (e:=53) (base:=w.heap.size) (ok:=fun k_=>(True∧some k_≠(.slice Ao29 t206.length co29:Value).ownBlock)) (n:=t187.length) (c:=co21) ?_).2.2;exact (by (with_reducible repeat (first | apply Kd.R_alloc | apply Kd.R_drewN | apply Kd.R_drew));exact (Kd.R_mono (rfar_ (Kd.R_types HO189.out BK210.out (by decide))) (fun _ h_=>h_.1))));(case side6=>exact (Kd.R_reads' HO189.out).2.1);rintro e w31 ⟨rfl,hb⟩;refine ⟨_,rfl,?_⟩;replace HO183:=ad_ (Kd.R_below (by (with_reducible repeat (first | apply Kd.R_alloc | apply Kd.R_drewN | apply Kd.R_drew));exact (Kd.R_mono (rfar_ (Kd.R_types HO183.out BK210.out (by decide))) (fun _ h_=>h_.1))) hb);replace HO186:=ad_ (Kd.R_below (by (with_reducible repeat (first | apply Kd.R_alloc | apply Kd.R_drewN | apply Kd.R_drew));exact (Kd.R_mono (rfar_ (Kd.R_types HO186.out BK210.out (by decide))) (fun _ h_=>h_.1))) hb);replace HO189:=ad_ (Kd.R_below (by (with_reducible repeat (first | apply Kd.R_alloc | apply Kd.R_drewN | apply Kd.R_drew));exact (Kd.R_mono (rfar_ (Kd.R_types HO189.out BK210.out (by decide))) (fun _ h_=>h_.1))) hb);replace HO194:=ad_ (Kd.R_below (by (with_reducible repeat (first | apply Kd.R_alloc | apply Kd.R_drewN | apply Kd.R_drew));exact (Kd.R_mono (rfar_ (Kd.R_types HO194.out BK210.out (by decide))) (fun _ h_=>h_.1))) hb);replace HO202:=ad_ (Kd.R_below (by (with_reducible repeat (first | apply Kd.R_alloc | apply Kd.R_drewN | apply Kd.R_drew));exact (Kd.R_mono (rfar_ (Kd.R_types HO202.out BK210.out (by decide))) (fun _ h_=>h_.1))) hb);replace HO205:=ad_ (Kd.R_below (by (with_reducible repeat (first | apply Kd.R_alloc | apply Kd.R_drewN | apply Kd.R_drew));exact (Kd.R_mono (rfar_ (Kd.R_types HO205.out BK210.out (by decide))) (fun _ h_=>h_.1))) hb);replace HO208:=ad_ (Kd.R_below (by (with_reducible repeat (first | apply Kd.R_alloc | apply Kd.R_drewN | apply Kd.R_drew));exact (Kd.R_mono (rfar_ (Kd.R_types HO208.out BK210.out (by decide))) (fun _ h_=>h_.1))) hb);replace BK191:=ad_ (blk_below (g:=gb191) (o:=.cells #[.int .i64 t177,.int .i64 t178,.int .i64 t179,.int .i64 t180,.slice Ao19 t181.length co19,.slice Ao20 t184.length co20,.slice Ao21 t187.length co21] 25 (0,0)) (blf_ BK191.out) hb);replace BK210:=ad_ (blk_below (g:=gb210) (o:=.cells #[.int .i64 t196,.int .i64 t197,.int .i64 t198,.int .i64 t199,.slice Ao27 t200.length co27,.slice Ao28 t203.length co28,.slice Ao29 t206.length co29] 25 (0,0)) (by refine blo_ ?_;refine blk_put (cs:=#[.int .i64 t196,.int .i64 t197,.int .i64 t198,.int .i64 t199,.slice Ao27 t200.length co27,.slice Ao28 t203.length co28,.slice none 0 0]) ?_ 6 _ rfl;refine blo_ ?_;refine blk_put (cs:=#[.int .i64 t196,.int .i64 t197,.int .i64 t198,.int .i64 t199,.slice Ao27 t200.length co27,.slice none 0 0,.slice none 0 0]) ?_ 5 _ rfl;refine blo_ ?_;refine blk_put (cs:=#[.int .i64 t196,.int .i64 t197,.int .i64 t198,.int .i64 t199,.slice none 0 0,.slice none 0 0,.slice none 0 0]) ?_ 4 _ rfl;refine blo_ ?_;refine blk_put (cs:=#[.int .i64 t196,.int .i64 t197,.int .i64 t198,.int .i64 0,.slice none 0 0,.slice none 0 0,.slice none 0 0]) ?_ 3 _ rfl;refine blo_ ?_;refine blk_put (cs:=#[.int .i64 t196,.int .i64 t197,.int .i64 0,.int .i64 0,.slice none 0 0,.slice none 0 0,.slice none 0 0]) ?_ 2 _ rfl;refine blo_ ?_;refine blk_put (cs:=#[.int .i64 t196,.int .i64 0,.int .i64 0,.int .i64 0,.slice none 0 0,.slice none 0 0,.slice none 0 0]) ?_ 1 _ rfl;refine blo_ ?_;refine blk_put (cs:=#[.int .i64 0,.int .i64 0,.int .i64 0,.int .i64 0,.slice none 0 0,.slice none 0 0,.slice none 0 0]) ?_ 0 _ rfl;exact blo_ BK210.out) hb);replace HB:=hbb_ hb;clear hb;obtain ⟨Ao32,co32,eo32⟩:=Kd.R_slice HO194.out;subst eo32;have p213:0≤(0:Int):=(by omega);have q213:0 < (t192.length:Int):=dec_;obtain ⟨ad213,e213,hx213_0⟩:=Kd.at_int (Kd.R_reads' HO194.out).2.2 0 p213 q213;cases e213;have qi213:(0 < t192.length)=True:=eq_true (by omega);(try rw [show ((0:Int)).toNat=0 from rfl] at hx213_0);(try rw [Addr.add_zero'] at hx213_0);replace p213:=eq_true p213;replace q213:=eq_true q213;have p214:0≤(1:Int):=(by omega);have q214:1 < (t192.length:Int):=dec_;obtain ⟨ad214,e214,hx214_0⟩:=Kd.at_int (Kd.R_reads' HO194.out).2.2 1 p214 q214;obtain rfl:ad213=ad214:=(by injection e214);(try simp only [show (1:Int).toNat=1 from rfl,Nat.reduceMul,Nat.reduceEqDiff,Go.Addr.add,↓reduceIte] at hx214_0);have qi214:(1 < t192.length)=True:=eq_true (by omega);(try rw [show ((1:Int)).toNat=1 from rfl] at hx214_0);replace p214:=eq_true p214;replace q214:=eq_true q214;have p215:0≤(3:Int):=(by omega);have q215:3 < (t192.length:Int):=dec_;obtain ⟨ad215,e215,hx215_0⟩:=Kd.at_int (Kd.R_reads' HO194.out).2.2 3 p215 q215;obtain rfl:ad213=ad215:=(by injection e215);(try simp only [show (3:Int).toNat=3 from rfl,Nat.reduceMul,Nat.reduceEqDiff,Go.Addr.add,↓reduceIte] at hx215_0);have qi215:(3 < t192.length)=True:=eq_true (by omega);(try rw [show ((3:Int)).toNat=3 from rfl] at hx215_0);replace p215:=eq_true p215;replace q215:=eq_true q215))
            go_ret
            exact ⟨ret_,belg_⟩
           ·replace c15:=Bool.eq_false_iff.mpr c15;subst c15;replace H:=ifn_ H;exact absurd (Option.some.inj H) (by rw [hr_.out];decide)
          ·rw [if_neg c14] at H;have c14b0:(t209 == 3)=false:=beq_eq_false_iff_ne.mpr c14;have c14b1:(t209 != 3)=true:=bne_iff_ne.mpr c14;exact absurd (Option.some.inj H) (by rw [hr_.out];decide)
         ·rw [if_neg c13] at H;have c13b0:((rd t192 3) == 7516800)=false:=beq_eq_false_iff_ne.mpr c13;have c13b1:((rd t192 3) != 7516800)=true:=bne_iff_ne.mpr c13;exact absurd (Option.some.inj H) (by rw [hr_.out];decide)
        ·rw [if_neg c12] at H;exact absurd H (by simp)
       ·rw [if_neg c11] at H;have c11b0:((rd t192 1) == 2073600)=false:=beq_eq_false_iff_ne.mpr c11;have c11b1:((rd t192 1) != 2073600)=true:=bne_iff_ne.mpr c11;exact absurd (Option.some.inj H) (by rw [hr_.out];decide)
      ·rw [if_neg c10] at H;exact absurd H (by simp)
     ·rw [if_neg c9] at H;have c9b0:((rd t192 0) == 0)=false:=beq_eq_false_iff_ne.mpr c9;have c9b1:((rd t192 0) != 0)=true:=bne_iff_ne.mpr c9;exact absurd (Option.some.inj H) (by rw [hr_.out];decide)
    ·rw [if_neg c8] at H;exact absurd H (by simp)
   ·rw [if_neg c7] at H;have c7b0:((t192.length:Int) == 4)=false:=beq_eq_false_iff_ne.mpr c7;have c7b1:((t192.length:Int) != 4)=true:=bne_iff_ne.mpr c7;exact absurd (Option.some.inj H) (by rw [hr_.out];decide)
  ·rw [if_neg c6] at H;have c6b0:(t195 == 0)=false:=beq_eq_false_iff_ne.mpr c6;have c6b1:(t195 != 0)=true:=bne_iff_ne.mpr c6;exact absurd (Option.some.inj H) (by rw [hr_.out];decide)
 ·rw [if_neg c5] at H;have c5b0:(t190 == 0)=false:=beq_eq_false_iff_ne.mpr c5;have c5b1:(t190 != 0)=true:=bne_iff_ne.mpr c5;exact absurd (Option.some.inj H) (by rw [hr_.out];decide)

/-! ### posthornref12_Time: function 26 -/
def posthornref12_Time.f (a0:Int):Option (Bool):=if a0 ≥ 0 then (some (decide (a0 < 253402300800))) else (some false)
set_option maxHeartbeats 8000000 in
set_option maxRecDepth 100000 in
theorem posthornref12_Time.calls (a0:Int) (r:Bool) (w:World) (h:posthornref12_Time.f a0=some r) :
  Calls Tryz.prog 26 #[.int .i64 a0] w fun e w'=>e = .returned (.bool r)∧Drawn0 w w':=by
 have H:(if a0 ≥ 0 then (some (decide (a0 < 253402300800))) else (some false))=some r:=h;clear h
 by_cases c2:a0 ≥ 0
 ·rw [if_pos c2] at H;have c2b0:decide (0≤a0)=true:=decide_eq_true c2;clear c2;obtain rfl:=Option.some.inj H
  go_enter Tryz.func26,Tryz.ntmps26
  go_wp2
  go_ret
  exact ⟨val_,by repeat (first | exact Drawn0.refl _ | apply Drawn0.step)⟩
 ·rw [if_neg c2] at H;have c2b0:decide (0≤a0)=false:=decide_eq_false c2;clear c2;obtain rfl:=Option.some.inj H
  go_enter Tryz.func26,Tryz.ntmps26
  go_wp2
  go_ret
  exact ⟨val_,by repeat (first | exact Drawn0.refl _ | apply Drawn0.step)⟩

/-! ### posthornref21_list: function 39 -/
mutual
def posthornref21_list.l0:Nat→List Int→Int→Int→Int→Option (Bool)
 | 0,_,_,_,_=>none
 | k + 1,x0,x1,x2,x7=>if x7 < (x0.length:Int) then (if 0≤x7 then (if (rd x0 x7)=0 then (posthornref21_list.j1 k x0 x1 x2 x7 true) else (if (rd x0 x7) < x1 then (posthornref21_list.j1 k x0 x1 x2 x7 true) else (posthornref21_list.j1 k x0 x1 x2 x7 (decide ((rd x0 x7) > x2))))) else (none)) else (some true)
def posthornref21_list.j1:Nat→List Int→Int→Int→Int→Bool→Option (Bool)
 | 0,_,_,_,_,_=>none
 | k + 1,x0,x1,x2,x7,x34=>if x34=true then (some false) else (if x7 > 0 then (if 0≤x7 then (if x7 < (x0.length:Int) then (if 0≤(wrap64 (x7 - 1)) then (if (wrap64 (x7 - 1)) < (x0.length:Int) then (if (rd x0 x7)≤(rd x0 (wrap64 (x7 - 1))) then (some false) else (posthornref21_list.l0 k x0 x1 x2 (wrap64 (x7 + 1)))) else (none)) else (none)) else (none)) else (none)) else (posthornref21_list.l0 k x0 x1 x2 (wrap64 (x7 + 1))))
end
def posthornref21_list.f (k:Nat) (l0:List Int) (a1:Int) (a2:Int):Option (Bool):=posthornref21_list.l0 k l0 a1 a2 0
set_option maxHeartbeats 8000000 in
set_option maxRecDepth 100000 in
theorem posthornref21_list.calls (k:Nat) (A0:Option Addr) (c0:Nat) (l0:List Int) (a1:Int) (a2:Int) (r:Bool) (w:World) (hr0:Kd.C (Kd.int .i64) w A0 l0.length l0) (hc0:l0.length≤c0) (h:posthornref21_list.f k l0 a1 a2=some r) :
  Calls Tryz.prog 39 #[.slice A0 l0.length c0,.int .i64 a1,.int .i64 a2] w fun e w'=>e = .returned (.bool r)∧Drawn0 w w':=by
 have HR0:=Aside0.mk hr0;have HC0:=Aside0.mk hc0;clear hr0 hc0;have H:(posthornref21_list.l0 k l0 a1 a2 0)=some r:=h;clear h;have H':=ad_ H;clear H
 go_enter Tryz.func39,Tryz.ntmps39
 go_wp2
 repeat (go_quiet (fail);try go_wp2)
 go_loopg [7] k (fun kq v7 w'=>∃ (x7_1:Int),v7 = .int .i64 x7_1∧Aside0 (posthornref21_list.l0 kq l0 a1 a2 x7_1=some r)∧Aside0 (kq≤k)∧Drawn0 w w')
 case atStart=>exact ⟨(0),val_,H',⟨Nat.le_refl _⟩,by repeat (first | exact Drawn0.refl _ | apply Drawn0.step)⟩
 case round =>
  clear H';(try clear p2);(try clear c3);obtain ⟨x7_1,rfl,HA,HK1,⟨m1,rfl⟩⟩:=hrel
  cases gk with
  | zero=>exact absurd HA.out (by simp [posthornref21_list.l0])
  | succ k1 =>
   have H:=HA.out;clear HA
   simp only [posthornref21_list.l0] at H
   by_cases c4:x7_1 < (l0.length:Int)
   ·rw [if_pos c4] at H;have c4b0:decide (x7_1 < (l0.length:Int))=true:=decide_eq_true c4;clear c4;have HC5:=Aside0.mk H;clear H
    go_upto_region 4 with (fail)
    repeat (go_quiet (fail);go_upto_region 4 with (fail))
    go_cut [34] (fun v34 wc=>∃ (kq:Nat) (x34_4:Bool),v34 = .bool x34_4∧Aside0 (posthornref21_list.j1 kq l0 a1 a2 x7_1 x34_4=some r)∧Aside0 (kq≤k1)∧Drawn0 w wc)
    case first =>
     have H:=HC5.out;clear HC5
     by_cases c6:0≤x7_1
     ·rw [if_pos c6] at H;have c6b0:decide (0≤x7_1)=true:=decide_eq_true c6;clear c6
      (first | rw [c6b0] | (simp only [i64_w,i32_w];rw [c6b0]) | skip)
      by_cases c7:(rd l0 x7_1)=0
      ·rw [if_pos c7] at H;have c7b0:((rd l0 x7_1) == 0)=true:=beq_iff_eq.mpr c7;have c7b1:((rd l0 x7_1) != 0)=false:=bne_eq_false_iff_eq.mpr c7;clear c7;have H':=ad_ H;clear H;have p216:0≤(x7_1:Int):=dec_;have q216:x7_1 < (l0.length:Int):=dec_;obtain ⟨ad216,e216,hx216_0⟩:=Kd.at_int HR0.out x7_1 p216 q216
       cases e216
       replace p216:=eq_true p216;replace q216:=eq_true q216
       go_wp2
       repeat (go_quiet (fail);try go_wp2)
       go_meet
       case rel=>exact ⟨_,(true),val_,H',⟨by have:=HK1.out;first | omega | exact Nat.le_refl _⟩,by repeat (first | exact Drawn0.refl _ | apply Drawn0.step)⟩
      ·rw [if_neg c7] at H;have c7b0:((rd l0 x7_1) == 0)=false:=beq_eq_false_iff_ne.mpr c7;have c7b1:((rd l0 x7_1) != 0)=true:=bne_iff_ne.mpr c7
       by_cases c8:(rd l0 x7_1) < a1
       ·rw [if_pos c8] at H;have c8b0:decide ((rd l0 x7_1) < a1)=true:=decide_eq_true c8;clear c8;have H':=ad_ H;clear H;have p216:0≤(x7_1:Int):=dec_;have q216:x7_1 < (l0.length:Int):=dec_;obtain ⟨ad216,e216,hx216_0⟩:=Kd.at_int HR0.out x7_1 p216 q216
        cases e216
        replace p216:=eq_true p216;replace q216:=eq_true q216;have p217:0≤(x7_1:Int):=dec_;have q217:x7_1 < (l0.length:Int):=dec_;obtain ⟨ad217,e217,hx217_0⟩:=Kd.at_int HR0.out x7_1 p217 q217;obtain rfl:ad216=ad217:=(by injection e217);replace p217:=eq_true p217;replace q217:=eq_true q217
        go_wp2
        repeat (go_quiet (fail);try go_wp2)
        go_meet
        case rel=>exact ⟨_,(true),val_,H',⟨by have:=HK1.out;first | omega | exact Nat.le_refl _⟩,by repeat (first | exact Drawn0.refl _ | apply Drawn0.step)⟩
       ·rw [if_neg c8] at H;have c8b0:decide ((rd l0 x7_1) < a1)=false:=decide_eq_false c8;clear c8;have H':=ad_ H;clear H;have p216:0≤(x7_1:Int):=dec_;have q216:x7_1 < (l0.length:Int):=dec_;obtain ⟨ad216,e216,hx216_0⟩:=Kd.at_int HR0.out x7_1 p216 q216
        cases e216
        replace p216:=eq_true p216;replace q216:=eq_true q216;have p217:0≤(x7_1:Int):=dec_;have q217:x7_1 < (l0.length:Int):=dec_;obtain ⟨ad217,e217,hx217_0⟩:=Kd.at_int HR0.out x7_1 p217 q217;obtain rfl:ad216=ad217:=(by injection e217);replace p217:=eq_true p217;replace q217:=eq_true q217;have p218:0≤(x7_1:Int):=dec_;have q218:x7_1 < (l0.length:Int):=dec_;obtain ⟨ad218,e218,hx218_0⟩:=Kd.at_int HR0.out x7_1 p218 q218;obtain rfl:ad216=ad218:=(by injection e218);replace p218:=eq_true p218;replace q218:=eq_true q218
        go_wp2
        repeat (go_quiet (fail);try go_wp2)
        go_meet
        case rel=>exact ⟨_,(decide ((rd l0 x7_1) > a2)),val_,H',⟨by have:=HK1.out;first | omega | exact Nat.le_refl _⟩,by repeat (first | exact Drawn0.refl _ | apply Drawn0.step)⟩
     ·rw [if_neg c6] at H;exact absurd H (by simp)
    case rest =>
     clear HC5;(try clear p2);(try clear q2);(try clear hx2);(try clear c3);(try clear c4);(try clear c4b0);(try clear c6);(try clear c6b0);(try clear c7);(try clear c7b0);(try clear c7b1);(try clear c8);(try clear c8b0);(try clear hx216_0);(try clear hx217_0);(try clear hx218_0);(try clear p2);(try clear p216);(try clear p217);(try clear p218);(try clear q216);(try clear q217);(try clear q218);obtain ⟨kq,x34_4,rfl,HA,HJ4,⟨mc4,rfl⟩⟩:=hcut
     cases kq with
     | zero=>exact absurd HA.out (by simp [posthornref21_list.j1])
     | succ kj4 =>
      have H:=HA.out;clear HA
      simp only [posthornref21_list.j1] at H
      by_cases c9:x34_4=true
      ·subst c9;replace H:=ifp_ H;obtain rfl:=Option.some.inj H
       go_wp2
       repeat (go_quiet (fail);try go_wp2)
       go_ret
       exact ⟨val_,by repeat (first | exact Drawn0.refl _ | apply Drawn0.step)⟩
      ·replace c9:=Bool.eq_false_iff.mpr c9;subst c9;replace H:=ifn_ H
       by_cases c10:x7_1 > 0
       ·rw [if_pos c10] at H;have c10b0:decide (0 < x7_1)=true:=decide_eq_true c10;clear c10
        by_cases c11:0≤x7_1
        ·rw [if_pos c11] at H;have c11b0:decide (0≤x7_1)=true:=decide_eq_true c11;clear c11
         by_cases c12:x7_1 < (l0.length:Int)
         ·rw [if_pos c12] at H;have c12b0:decide (x7_1 < (l0.length:Int))=true:=decide_eq_true c12;clear c12;obtain ⟨ji13,hji13⟩:∃ j_:Int,(wrap64 (x7_1 - 1))=j_:=⟨_,rfl⟩
          replace H:(if 0≤(ji13) then (if (ji13) < (l0.length:Int) then (if (rd l0 x7_1)≤(rd l0 (ji13)) then (some false) else (posthornref21_list.l0 kj4 l0 a1 a2 (wrap64 (x7_1 + 1)))) else (none)) else (none))=some r:=by first | (rw [hji13] at H;exact H) | (simp only [hji13] at H ⊢;exact H)
          have hji13w:(IntKind.i64.wrap (x7_1 - 1))=ji13:=(i64_w _).trans hji13
          by_cases c14:0≤(ji13)
          ·rw [if_pos c14] at H;have c14b0:decide (0≤(ji13))=true:=decide_eq_true c14;clear c14
           by_cases c15:(ji13) < (l0.length:Int)
           ·rw [if_pos c15] at H;have c15b0:decide ((ji13) < (l0.length:Int))=true:=decide_eq_true c15;clear c15
            by_cases c16:(rd l0 x7_1)≤(rd l0 (ji13))
            ·rw [if_pos c16] at H;have c16b0:decide ((rd l0 x7_1)≤(rd l0 (ji13)))=true:=decide_eq_true c16;clear c16;obtain rfl:=Option.some.inj H;have p219:0≤(x7_1:Int):=dec_;have q219:x7_1 < (l0.length:Int):=dec_;obtain ⟨ad219,e219,hx219_0⟩:=Kd.at_int HR0.out x7_1 p219 q219
             cases e219
             replace p219:=eq_true p219;replace q219:=eq_true q219;have p220:0≤((ji13):Int):=dec_;have q220:(ji13) < (l0.length:Int):=dec_;obtain ⟨ad220,e220,hx220_0⟩:=Kd.at_int HR0.out (ji13) p220 q220;obtain rfl:ad219=ad220:=(by injection e220);replace p220:=eq_true p220;replace q220:=eq_true q220
             go_wp2
             repeat (go_quiet (fail);try go_wp2)
             go_ret
             exact ⟨by first | rfl | (simp;done) | (simp only [← hji13] <;> (first | rfl | simp)) | (simp [*];done),by repeat (first | exact Drawn0.refl _ | apply Drawn0.step)⟩
            ·rw [if_neg c16] at H;have c16b0:decide ((rd l0 x7_1)≤(rd l0 (ji13)))=false:=decide_eq_false c16;clear c16;have H':=ad_ H;clear H;have p219:0≤(x7_1:Int):=dec_;have q219:x7_1 < (l0.length:Int):=dec_;obtain ⟨ad219,e219,hx219_0⟩:=Kd.at_int HR0.out x7_1 p219 q219
             cases e219
             replace p219:=eq_true p219;replace q219:=eq_true q219;have p220:0≤((ji13):Int):=dec_;have q220:(ji13) < (l0.length:Int):=dec_;obtain ⟨ad220,e220,hx220_0⟩:=Kd.at_int HR0.out (ji13) p220 q220;obtain rfl:ad219=ad220:=(by injection e220);replace p220:=eq_true p220;replace q220:=eq_true q220
             go_wp2
             repeat (go_quiet (fail);try go_wp2)
             go_roundg kj4
             case measure=>have:=HK1.out;have:=HJ4.out;omega
             case rel=>exact ⟨(wrap64 (x7_1 + 1)),val_,H',⟨by have:=HK1.out;have:=HJ4.out;omega⟩,by repeat (first | exact Drawn0.refl _ | apply Drawn0.step)⟩
           ·rw [if_neg c15] at H;exact absurd H (by simp)
          ·rw [if_neg c14] at H;exact absurd H (by simp)
         ·rw [if_neg c12] at H;exact absurd H (by simp)
        ·rw [if_neg c11] at H;exact absurd H (by simp)
       ·rw [if_neg c10] at H;have c10b0:decide (0 < x7_1)=false:=decide_eq_false c10;clear c10;have H':=ad_ H;clear H
        go_wp2
        repeat (go_quiet (fail);try go_wp2)
        go_roundg kj4
        case measure=>have:=HK1.out;have:=HJ4.out;omega
        case rel=>exact ⟨(wrap64 (x7_1 + 1)),val_,H',⟨by have:=HK1.out;have:=HJ4.out;omega⟩,by repeat (first | exact Drawn0.refl _ | apply Drawn0.step)⟩
   ·rw [if_neg c4] at H;have c4b0:decide (x7_1 < (l0.length:Int))=false:=decide_eq_false c4;clear c4;obtain rfl:=Option.some.inj H
    go_wp2
    repeat (go_quiet (fail);try go_wp2)
    go_ret
    exact ⟨val_,by repeat (first | exact Drawn0.refl _ | apply Drawn0.step)⟩

end Go.Proofs.YtbeihceeliifeaaGreatDoor.PR
